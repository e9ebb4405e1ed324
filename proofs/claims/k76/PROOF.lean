import PyProof.Rows.All
import Wide.All
import OpenK.AllK
import Wide.FinOn
import HandS.ForMost
import HandS.Lambda
import HandS.IsInst
import HandS.TupAny
import HandS.SortInts
import HandS.TupMul
import KE.KTupSum
import HandS.Ends
import HandS.Iter
import HandS.Conv
import HandS.Text
import HandS.SetFor
import HandS.Replace
import HandS.Strs
import HandS.TupLe
import PyProof.TupleOfSeq
import HandS.Sort
import HandS.SortOrd
import HandS.SortRule
import HandS.Star
import PyProof.ListStr
import PyProof.MinMaxWalk
import PyProof.WalkInts
import PyProof.Rows.CallKwBuiltin
import HandS.SortKw
import HandS.Flow
import KE.GoesEnum
import HandS.StrMore
import PyProof.Rows.StrCut
import PyProof.Rows.MatchSeqLen
import KE.SortKeyHeap
import KE.KNestM
import HandS.EndTab
import KE.DatumOrd
import KE.SortData
import PyProof.Claim2Refuses
import HandS.Deep
import HandS.SetBool
import HandS.Dict
import HandS.More
import HandS.Remove
import PySem.Challenge.RW_overturn_k76_merged_packings
set_option Elab.async false
set_option maxRecDepth 100000
set_option maxHeartbeats 4000000
set_option linter.all false

/-! Dl: data, how it is represented, the state of a def's names at the level of data. -/
namespace Dl
open PySem L2

/-- data: what a value is worth -/
inductive D where
  | non | bl (b : Bool) | int (i : Int) | str (x : Str) | tup (xs : List D) | lst (xs : List D) | rol (xs : List D)

mutual
def Rep (K : PySem.W.Frag) (F : Hp) : D → V → Prop
  | .non, v => v = .non
  | .bl b, v => v = .bl b
  | .int i, v => v = .int i
  | .str x, v => v = .str x
  | .tup ds, v => ∃ a vs, v = .ref a ∧ SqT K F a vs ∧ Reps K F ds vs
  | .lst ds, v => ∃ a vs, v = .ref a ∧ F a = some (.lst vs) ∧ Reps K F ds vs
  | .rol ds, v => ∃ a vs, v = .ref a ∧ SqL K F a vs ∧ Reps K F ds vs
def Reps (K : PySem.W.Frag) (F : Hp) : List D → List V → Prop
  | [], vs => vs = []
  | d :: ds, vs => ∃ v ws, vs = v :: ws ∧ Rep K F d v ∧ Reps K F ds ws
end

theorem same_rd {F F' : Hp} {a : Addr} {u : HO} (e : Same F F') (h : Rd F a u) : Rd F' a u := by
  rcases h with h | ⟨o, h⟩
  · exact Or.inl (e a _ h)
  · exact Or.inr ⟨o, e a _ h⟩
theorem same_l {K : PySem.W.Frag} {F F' : Hp} {a : Addr} {xs : List V} (e : Same F F') (h : SqL K F a xs) : SqL K F' a xs := by
  rcases h with h | h
  · exact Or.inl (same_rd e h)
  · exact Or.inr h
theorem same_t {K : PySem.W.Frag} {F F' : Hp} {a : Addr} {xs : List V} (e : Same F F') (h : SqT K F a xs) : SqT K F' a xs := by
  rcases h with h | h
  · exact Or.inl (same_rd e h)
  · exact Or.inr h
mutual
theorem Rep.mono {K : PySem.W.Frag} {F F' : Hp} (e : Same F F') : ∀ (d : D) (v : V), Rep K F d v → Rep K F' d v
  | .non, v, h => by simpa only [Rep] using h
  | .bl b, v, h => by simpa only [Rep] using h
  | .int i, v, h => by simpa only [Rep] using h
  | .str x, v, h => by simpa only [Rep] using h
  | .tup ds, v, h => by
    simp only [Rep] at h ⊢
    obtain ⟨a, vs, h1, h2, h3⟩ := h
    exact ⟨a, vs, h1, same_t e h2, Reps.mono e ds vs h3⟩
  | .lst ds, v, h => by
    simp only [Rep] at h ⊢
    obtain ⟨a, vs, h1, h2, h3⟩ := h
    exact ⟨a, vs, h1, e _ _ h2, Reps.mono e ds vs h3⟩
  | .rol ds, v, h => by
    simp only [Rep] at h ⊢
    obtain ⟨a, vs, h1, h2, h3⟩ := h
    exact ⟨a, vs, h1, same_l e h2, Reps.mono e ds vs h3⟩
theorem Reps.mono {K : PySem.W.Frag} {F F' : Hp} (e : Same F F') : ∀ (ds : List D) (vs : List V), Reps K F ds vs → Reps K F' ds vs
  | [], vs, h => by simpa only [Reps] using h
  | d :: ds, vs, h => by
    simp only [Reps] at h ⊢
    obtain ⟨v, ws, h1, h2, h3⟩ := h
    exact ⟨v, ws, h1, Rep.mono e d v h2, Reps.mono e ds ws h3⟩
end
section
variable {K : PySem.W.Frag} {F : Hp}
theorem Reps.nil : Reps K F [] [] := by simp only [Reps]
theorem Reps.cons {d : D} {ds : List D} {v : V} {vs : List V} (h : Rep K F d v) (t : Reps K F ds vs) : Reps K F (d :: ds) (v :: vs) := by
  simp only [Reps]
  exact ⟨v, vs, rfl, h, t⟩
theorem Reps.uncons {d : D} {ds : List D} {vs : List V} (h : Reps K F (d :: ds) vs) : ∃ v ws, vs = v :: ws ∧ Rep K F d v ∧ Reps K F ds ws := by
  simpa only [Reps] using h
theorem Reps.unnil {vs : List V} (h : Reps K F [] vs) : vs = [] := by simpa only [Reps] using h
theorem Reps.len : ∀ {ds : List D} {vs : List V}, Reps K F ds vs → vs.length = ds.length
  | [], vs, h => by rw [h.unnil]; rfl
  | d :: ds, vs, h => by
    obtain ⟨v, ws, rfl, _, h3⟩ := h.uncons
    simp only [List.length_cons, Reps.len h3]
theorem Reps.get : ∀ {ds : List D} {vs : List V} {i : Nat} {d : D}, Reps K F ds vs → ds[i]? = some d → ∃ v, vs[i]? = some v ∧ Rep K F d v
  | [], vs, i, d, h, e => by simp at e
  | d' :: ds, vs, 0, d, h, e => by
    obtain ⟨v, ws, rfl, h2, h3⟩ := h.uncons
    simp at e
    subst e
    exact ⟨v, rfl, h2⟩
  | d' :: ds, vs, i + 1, d, h, e => by
    obtain ⟨v, ws, rfl, h2, h3⟩ := h.uncons
    simp only [List.getElem?_cons_succ] at e ⊢
    exact Reps.get h3 e
theorem Reps.append : ∀ {ds es : List D} {vs ws : List V}, Reps K F ds vs → Reps K F es ws → Reps K F (ds ++ es) (vs ++ ws)
  | [], es, vs, ws, h, g => by rw [h.unnil]; exact g
  | d :: ds, es, vs, ws, h, g => by
    obtain ⟨v, us, rfl, h2, h3⟩ := h.uncons
    exact Reps.cons h2 (Reps.append h3 g)
theorem Reps.take : ∀ {ds : List D} {vs : List V} (n : Nat), Reps K F ds vs → Reps K F (ds.take n) (vs.take n)
  | ds, vs, 0, _ => by simp only [List.take_zero]; exact Reps.nil
  | [], vs, n + 1, h => by rw [h.unnil]; exact Reps.nil
  | d :: ds, vs, n + 1, h => by
    obtain ⟨v, us, rfl, h2, h3⟩ := h.uncons
    simp only [List.take_succ_cons]
    exact Reps.cons h2 (Reps.take n h3)
theorem Reps.drop : ∀ {ds : List D} {vs : List V} (n : Nat), Reps K F ds vs → Reps K F (ds.drop n) (vs.drop n)
  | ds, vs, 0, h => by simpa only [List.drop_zero] using h
  | [], vs, n + 1, h => by rw [h.unnil]; exact Reps.nil
  | d :: ds, vs, n + 1, h => by
    obtain ⟨v, us, rfl, h2, h3⟩ := h.uncons
    simp only [List.drop_succ_cons]
    exact Reps.drop n h3
theorem Reps.set : ∀ {ds : List D} {vs : List V} {d : D} {v : V} (n : Nat), Reps K F ds vs → Rep K F d v → Reps K F (ds.set n d) (vs.set n v)
  | [], vs, d, v, n, h, g => by rw [h.unnil]; exact Reps.nil
  | d' :: ds, vs, d, v, 0, h, g => by
    obtain ⟨v', us, rfl, h2, h3⟩ := h.uncons
    exact Reps.cons g h3
  | d' :: ds, vs, d, v, n + 1, h, g => by
    obtain ⟨v', us, rfl, h2, h3⟩ := h.uncons
    simp only [List.set_cons_succ]
    exact Reps.cons h2 (Reps.set n h3 g)
theorem Reps.reverse {ds : List D} {vs : List V} (h : Reps K F ds vs) : Reps K F ds.reverse vs.reverse := by
  induction ds generalizing vs with
  | nil => rw [h.unnil]; exact Reps.nil
  | cons d ds ih =>
    obtain ⟨v, us, rfl, h2, h3⟩ := h.uncons
    simp only [List.reverse_cons]
    exact Reps.append (ih h3) (Reps.cons h2 Reps.nil)
theorem Reps.erase : ∀ {ds : List D} {vs : List V} (n : Nat), Reps K F ds vs → Reps K F (ds.eraseIdx n) (vs.eraseIdx n)
  | [], vs, n, h => by rw [h.unnil]; exact Reps.nil
  | d' :: ds, vs, 0, h => by
    obtain ⟨v', us, rfl, h2, h3⟩ := h.uncons
    exact h3
  | d' :: ds, vs, n + 1, h => by
    obtain ⟨v', us, rfl, h2, h3⟩ := h.uncons
    simp only [List.eraseIdx_cons_succ]
    exact Reps.cons h2 (Reps.erase n h3)
theorem Reps.rep {ds : List D} {vs : List V} (h : Reps K F ds vs) : ∀ n : Nat, Reps K F (List.replicate n ds).flatten (List.replicate n vs).flatten
  | 0 => Reps.nil
  | n + 1 => by
    simp only [List.replicate_succ, List.flatten_cons]
    exact Reps.append h (Reps.rep h n)
theorem Reps.ints : ∀ {ns : List Int} {vs : List V}, Reps K F (ns.map D.int) vs → vs = ns.map V.int
  | [], vs, h => h.unnil
  | n :: ns, vs, h => by
    obtain ⟨v, ws, rfl, h2, h3⟩ := Reps.uncons h
    simp only [Rep] at h2
    rw [h2, Reps.ints h3]
    rfl
theorem Reps.of_ints : ∀ (ns : List Int), Reps K F (ns.map D.int) (ns.map V.int)
  | [] => Reps.nil
  | n :: ns => Reps.cons (by simp only [Rep]) (Reps.of_ints ns)
theorem Reps.strs : ∀ {ns : List Str} {vs : List V}, Reps K F (ns.map D.str) vs → vs = ns.map V.str
  | [], vs, h => h.unnil
  | n :: ns, vs, h => by
    obtain ⟨v, ws, rfl, h2, h3⟩ := Reps.uncons h
    simp only [Rep] at h2
    rw [h2, Reps.strs h3]
    rfl
theorem Reps.of_strs : ∀ (ns : List Str), Reps K F (ns.map D.str) (ns.map V.str)
  | [] => Reps.nil
  | n :: ns => Reps.cons (by simp only [Rep]) (Reps.of_strs ns)
end

/-! ### what an owned object holds -/
inductive Cn where
  | lst (ds : List D) | dic (kvs : List (Key × D)) | dicT (kvs : List (List Key × D))
def CRep (K : PySem.W.Frag) (F : Hp) : Cn → HO → Prop
  | .lst ds, o => ∃ vs, o = .lst vs ∧ Reps K F ds vs
  | .dic kvs, o => ∃ ws, o = .dK ws ∧ Paired (fun (p : Key × D) (q : Key × V) => p.1 = q.1 ∧ Rep K F p.2 q.2) kvs ws
  | .dicT kvs, o => ∃ ws, o = .dT ws ∧ Paired (fun (p : List Key × D) (q : List Key × V) => p.1 = q.1 ∧ Rep K F p.2 q.2) kvs ws
theorem CRep.mono {K : PySem.W.Frag} {F F' : Hp} (e : Same F F') {x : Cn} {o : HO} (h : CRep K F x o) : CRep K F' x o := by
  cases x with
  | lst ds =>
    obtain ⟨vs, h1, h2⟩ := h
    exact ⟨vs, h1, Reps.mono e _ _ h2⟩
  | dic kvs =>
    obtain ⟨ws, h1, h2⟩ := h
    exact ⟨ws, h1, Paired.mapP h2 fun a b z => ⟨z.1, Rep.mono e _ _ z.2⟩⟩
  | dicT kvs =>
    obtain ⟨ws, h1, h2⟩ := h
    exact ⟨ws, h1, Paired.mapP h2 fun a b z => ⟨z.1, Rep.mono e _ _ z.2⟩⟩

/-! ### the tables of the defs that make a lambda -/
/-- the defs that make one -/
def lamDefs : List Str := ["apportion"]
def LTabs (K : PySem.W.Frag) : List (Addr × Str) := lamDefs.filterMap fun x => (PySem.W.tabIn K x).map fun p => (p.2, x ++ ".<locals>.<lambda>")
/-- neither a table nor a code object -/
def NT : HO → Prop
  | .tbl _ => False
  | .ext _ => False
  | _ => True
structure TOk (K : PySem.W.Frag) (F H : Hp) : Prop where
  tb : LamX.Tabs (LTabs K) H
  tf : ∀ p ∈ LTabs K, F p.1 = none
theorem CRep.nt {K : PySem.W.Frag} {F : Hp} {x : Cn} {o : HO} (h : CRep K F x o) : NT o := by
  cases x with
  | lst ds => obtain ⟨vs, rfl, _⟩ := h; trivial
  | dic kvs => obtain ⟨vs, rfl, _⟩ := h; trivial
  | dicT kvs => obtain ⟨vs, rfl, _⟩ := h; trivial
section
variable {K : PySem.W.Frag} {F H : Hp} {p : Addr} {o u : HO}
theorem TOk.nt (T : TOk K F H) {q : Addr × Str} (hq : q ∈ LTabs K) (h : H q.1 = some o) (n : NT o) : False := by
  obtain ⟨ps, h1, _⟩ := T.tb q hq
  rw [h1] at h
  cases h
  exact n
theorem TOk.fresh (T : TOk K F H) (h : H p = none) : TOk K F (upd H p o) := ⟨T.tb.ext fun b u e => by rw [upd_ne (ne_of_none e h)]; exact e, T.tf⟩
theorem TOk.alloc (T : TOk K F H) (h : H p = none) : TOk K (upd F p o) (upd H p o) := ⟨(T.fresh h).tb, fun q hq => by
  obtain ⟨ps, h1, _⟩ := T.tb q hq
  rw [upd_ne (ne_of_none h1 h)]
  exact T.tf q hq⟩
theorem TOk.frz (T : TOk K F H) (h : H p = some o) (n : NT o) : TOk K (upd F p u) H := ⟨T.tb, fun q hq => by
  by_cases e : q.1 = p
  · exact (T.nt hq (by rw [e]; exact h) n).elim
  · rw [upd_ne e]
    exact T.tf q hq⟩
theorem TOk.put (T : TOk K F H) (h : H p = some o) (n : NT o) : TOk K F (upd H p u) := ⟨fun q hq => by
  obtain ⟨ps, h1, h2, h3⟩ := T.tb q hq
  refine ⟨ps, ?_, h2, fun pos cv hc => ?_⟩
  · rw [upd_ne fun e => T.nt hq (by rw [e]; exact h) n]
    exact h1
  · obtain ⟨c, e1, e2⟩ := h3 pos cv hc
    refine ⟨c, e1, ?_⟩
    rw [upd_ne fun e => ?_]
    · exact e2
    · rw [e, h] at e2
      cases e2
      exact n, T.tf⟩
end

/-- a name's place: nothing known, frozen data, an object of its own (io: a parameter that the caller gets back) -/
inductive Sl where
  | no | frz (d : D) | own (io : Bool) (x : Cn)
abbrev DS := List Sl
structure Ct where
  F0 : Hp
  Z : Hp
  ios : List (Nat × Addr)

def SlOk (K : PySem.W.Frag) (c : Ct) (F H : Hp) (s : Sl) (o : Option V) : Prop :=
  match s with
  | .no => True
  | .frz d => ∃ v, o = some v ∧ Rep K F d v
  | .own _ x => ∃ l ho, o = some (.ref l) ∧ F l = none ∧ c.Z l = none ∧ H l = some ho ∧ CRep K F x ho

structure StOk (K : PySem.W.Frag) (c : Ct) (F : Hp) (σ : L2.St) (H : Hp) (δ : DS) : Prop where
  sub0 : Same c.F0 F
  sub : Same F H
  fz : ∀ a o, c.Z a = some o → H a = some o ∧ F a = none
  len : σ.length = δ.length
  sl : ∀ (i : Nat) (s : Sl) (o : Option V), δ[i]? = some s → σ[i]? = some o → SlOk K c F H s o
  dis : ∀ (i j : Nat) (l : Addr) (io : Bool) (x : Cn) (io' : Bool) (x' : Cn), δ[i]? = some (.own io x) → δ[j]? = some (.own io' x') → σ[i]? = some (some (.ref l)) → σ[j]? = some (some (.ref l)) → i = j
  io : ∀ p ∈ c.ios, (∃ x, δ[p.1]? = some (.own true x)) ∧ σ[p.1]? = some (some (.ref p.2))
  tt : TOk K F H
  tz : ∀ p ∈ LTabs K, c.Z p.1 = none

theorem same_upd {F : Hp} {p : Addr} {o : HO} (h : F p = none) : Same F (upd F p o) := fun a u e => by
  rw [upd_ne (ne_of_none e h)]
  exact e
section
variable {K : PySem.W.Frag} {c : Ct} {F H : Hp} {σ : L2.St} {δ : DS}
theorem SlOk.mono {F' H' : Hp} {s : Sl} {o : Option V} (e : Same F F') (hk : ∀ l, o = some (.ref l) → F l = none → c.Z l = none → F' l = none ∧ ∀ ho, H l = some ho → H' l = some ho) (h : SlOk K c F H s o) : SlOk K c F' H' s o := by
  cases s with
  | no => trivial
  | frz d =>
    obtain ⟨v, h1, h2⟩ := h
    exact ⟨v, h1, Rep.mono e _ _ h2⟩
  | own io x =>
    obtain ⟨l, ho, h1, h2, h3, h4, h5⟩ := h
    obtain ⟨k1, k2⟩ := hk l h1 h2 h3
    exact ⟨l, ho, h1, k1, h3, k2 ho h4, h5.mono e⟩
theorem StOk.at (S : StOk K c F σ H δ) {i : Nat} {s : Sl} (h : δ[i]? = some s) : ∃ o, σ[i]? = some o ∧ SlOk K c F H s o := by
  have hl : i < δ.length := (List.getElem?_eq_some_iff.mp h).1
  have hl' : i < σ.length := by rw [S.len]; exact hl
  exact ⟨σ[i], List.getElem?_eq_getElem hl', S.sl i s _ h (List.getElem?_eq_getElem hl')⟩
/-- a new object that is never changed -/
theorem StOk.alloc (S : StOk K c F σ H δ) {p : Addr} {o : HO} (h : H p = none) : Same F (upd F p o) ∧ StOk K c (upd F p o) σ (upd H p o) δ := by
  have hF : F p = none := S.sub.free h
  have hs := same_upd (o := o) hF
  refine ⟨hs, S.sub0.trans hs, fun a u e => ?_, fun a u e => ?_, S.len, fun i s q h1 h2 => ?_, S.dis, S.io, S.tt.alloc h, S.tz⟩
  · by_cases ha : a = p
    · subst ha
      rw [upd_same] at e ⊢
      exact e
    · rw [upd_ne ha] at e ⊢
      exact S.sub a u e
  · obtain ⟨h1, h2⟩ := S.fz a u e
    have ha : a ≠ p := ne_of_none h1 h
    rw [upd_ne ha, upd_ne ha]
    exact ⟨h1, h2⟩
  · have q0 := S.sl i s q h1 h2
    cases s with
    | no => trivial
    | frz d =>
      obtain ⟨v, k1, k2⟩ := q0
      exact ⟨v, k1, Rep.mono hs _ _ k2⟩
    | own io x =>
      obtain ⟨l, ho, k1, k2, k3, k4, k5⟩ := q0
      have hl : l ≠ p := ne_of_none k4 h
      exact ⟨l, ho, k1, by rw [upd_ne hl]; exact k2, k3, by rw [upd_ne hl]; exact k4, k5.mono hs⟩
/-- nobody's -/
structure Free (c : Ct) (F : Hp) (σ : L2.St) (δ : DS) (p : Addr) : Prop where
  f : F p = none
  z : c.Z p = none
  o : ∀ (i : Nat) (io : Bool) (x : Cn), δ[i]? = some (.own io x) → σ[i]? ≠ some (some (.ref p))
/-- a new object that is nobody's -/
theorem StOk.fresh (S : StOk K c F σ H δ) {p : Addr} {o : HO} (h : H p = none) : StOk K c F σ (upd H p o) δ ∧ Free c F σ δ p := by
  have hF : F p = none := S.sub.free h
  have hZ : c.Z p = none := by
    cases q : c.Z p with
    | none => rfl
    | some u =>
      rw [(S.fz p u q).1] at h
      cases h
  refine ⟨⟨S.sub0, fun a u e => ?_, fun a u e => ?_, S.len, fun i s q h1 h2 => ?_, S.dis, S.io, S.tt.fresh h, S.tz⟩, hF, hZ, fun i io x h1 h2 => ?_⟩
  · rw [upd_ne (ne_of_none e hF)]
    exact S.sub a u e
  · obtain ⟨h1, h2⟩ := S.fz a u e
    rw [upd_ne (ne_of_none h1 h)]
    exact ⟨h1, h2⟩
  · have q0 := S.sl i s q h1 h2
    cases s with
    | no => trivial
    | frz d => exact q0
    | own io x =>
      obtain ⟨l, ho, k1, k2, k3, k4, k5⟩ := q0
      exact ⟨l, ho, k1, k2, k3, by rw [upd_ne (ne_of_none k4 h)]; exact k4, k5⟩
  · obtain ⟨l, ho, k1, k2, k3, k4, k5⟩ := S.sl i _ _ h1 h2
    cases k1
    rw [k4] at h
    cases h
/-- an object that is nobody's is frozen as it stands -/
theorem StOk.freeze (S : StOk K c F σ H δ) {p : Addr} {o : HO} (h : H p = some o) (fr : Free c F σ δ p) (n : NT o := by trivial) : Same F (upd F p o) ∧ StOk K c (upd F p o) σ H δ := by
  have hs := same_upd (o := o) fr.f
  refine ⟨hs, S.sub0.trans hs, fun a u e => ?_, fun a u e => ?_, S.len, fun i s q h1 h2 => ?_, S.dis, S.io, S.tt.frz h n, S.tz⟩
  · by_cases ha : a = p
    · subst ha
      rw [upd_same] at e
      rw [← e]
      exact h
    · rw [upd_ne ha] at e
      exact S.sub a u e
  · have ha : a ≠ p := fun z => by
      subst z
      rw [fr.z] at e
      cases e
    rw [upd_ne ha]
    exact S.fz a u e
  · have q0 := S.sl i s q h1 h2
    cases s with
    | no => trivial
    | frz d =>
      obtain ⟨v, k1, k2⟩ := q0
      exact ⟨v, k1, Rep.mono hs _ _ k2⟩
    | own io x =>
      obtain ⟨l, ho, k1, k2, k3, k4, k5⟩ := q0
      have hl : l ≠ p := fun z => by
        subst z
        rw [k1] at h2
        exact fr.o i io x h1 h2
      exact ⟨l, ho, k1, by rw [upd_ne hl]; exact k2, k3, k4, k5.mono hs⟩
/-- is no parameter that the caller gets back -/
def notIo (δ : DS) (i : Nat) : Prop := ∀ x, δ[i]? ≠ some (.own true x)
/-- a place is forgotten -/
theorem getset {α : Type} {xs : List α} {i j : Nat} {x y : α} (h : (xs.set i x)[j]? = some y) : (j = i ∧ y = x) ∨ (j ≠ i ∧ xs[j]? = some y) := by
  by_cases e : i = j
  · subst e
    rw [List.getElem?_set] at h
    simp only [if_true] at h
    split at h
    · exact Or.inl ⟨rfl, (Option.some.inj h).symm⟩
    · cases h
  · rw [List.getElem?_set_ne e] at h
    exact Or.inr ⟨Ne.symm e, h⟩
theorem StOk.forget (S : StOk K c F σ H δ) {i : Nat} (n : notIo δ i) : StOk K c F σ H (δ.set i .no) := by
  refine ⟨S.sub0, S.sub, S.fz, by rw [List.length_set]; exact S.len, fun j s o h1 h2 => ?_, fun j k l io x io' x' h1 h2 h3 h4 => ?_, fun p hp => ?_, S.tt, S.tz⟩
  · rcases getset h1 with ⟨_, rfl⟩ | ⟨_, h1⟩
    · trivial
    · exact S.sl j s o h1 h2
  · rcases getset h1 with ⟨_, e⟩ | ⟨_, h1⟩
    · cases e
    · rcases getset h2 with ⟨_, e⟩ | ⟨_, h2⟩
      · cases e
      · exact S.dis j k l io x io' x' h1 h2 h3 h4
  · obtain ⟨⟨x, h1⟩, h2⟩ := S.io p hp
    have e : i ≠ p.1 := fun z => by
      subst z
      exact n x h1
    exact ⟨⟨x, by rw [List.getElem?_set_ne e]; exact h1⟩, h2⟩
/-- name = frozen data -/
theorem StOk.asg (S : StOk K c F σ H δ) {i : Nat} (n : notIo δ i) {d : D} {v : V} (r : Rep K F d v) : StOk K c F (σ.set i (some v)) H (δ.set i (.frz d)) := by
  refine ⟨S.sub0, S.sub, S.fz, by rw [List.length_set, List.length_set]; exact S.len, fun j s o h1 h2 => ?_, fun j k l io x io' x' h1 h2 h3 h4 => ?_, fun p hp => ?_, S.tt, S.tz⟩
  · rcases getset h1 with ⟨e, rfl⟩ | ⟨e, h1⟩
    · subst e
      rcases getset h2 with ⟨_, rfl⟩ | ⟨e, _⟩
      · exact ⟨v, rfl, r⟩
      · exact absurd rfl e
    · rcases getset h2 with ⟨e', _⟩ | ⟨_, h2⟩
      · exact absurd e' e
      · exact S.sl j s o h1 h2
  · rcases getset h1 with ⟨_, e⟩ | ⟨e1, h1⟩
    · cases e
    · rcases getset h2 with ⟨_, e⟩ | ⟨e2, h2⟩
      · cases e
      · rw [List.getElem?_set_ne (Ne.symm e1)] at h3
        rw [List.getElem?_set_ne (Ne.symm e2)] at h4
        exact S.dis j k l io x io' x' h1 h2 h3 h4
  · obtain ⟨⟨x, h1⟩, h2⟩ := S.io p hp
    have e : i ≠ p.1 := fun z => by
      subst z
      exact n x h1
    exact ⟨⟨x, by rw [List.getElem?_set_ne e]; exact h1⟩, by rw [List.getElem?_set_ne e]; exact h2⟩
/-- name = an object that was nobody's -/
theorem StOk.asgO (S : StOk K c F σ H δ) {i : Nat} (n : notIo δ i) {x : Cn} {p : Addr} {o : HO} (fr : Free c F σ δ p) (h : H p = some o) (r : CRep K F x o) : StOk K c F (σ.set i (some (.ref p))) H (δ.set i (.own false x)) := by
  refine ⟨S.sub0, S.sub, S.fz, by rw [List.length_set, List.length_set]; exact S.len, fun j s q h1 h2 => ?_, fun j k l io x1 io' x1' h1 h2 h3 h4 => ?_, fun q hp => ?_, S.tt, S.tz⟩
  · rcases getset h1 with ⟨e, rfl⟩ | ⟨e, h1⟩
    · subst e
      rcases getset h2 with ⟨_, rfl⟩ | ⟨e, _⟩
      · exact ⟨p, o, rfl, fr.f, fr.z, h, r⟩
      · exact absurd rfl e
    · rcases getset h2 with ⟨e', _⟩ | ⟨_, h2⟩
      · exact absurd e' e
      · exact S.sl j s q h1 h2
  · rcases getset h1 with ⟨e1, e⟩ | ⟨e1, h1⟩
    · rcases getset h2 with ⟨e2, _⟩ | ⟨e2, g2⟩
      · rw [e1, e2]
      · rw [List.getElem?_set_ne (Ne.symm e2)] at h4
        rcases getset h3 with ⟨_, e3⟩ | ⟨e3, _⟩
        · cases e3
          exact absurd h4 (fr.o k io' x1' g2)
        · exact absurd e1 e3
    · rw [List.getElem?_set_ne (Ne.symm e1)] at h3
      rcases getset h2 with ⟨e2, e⟩ | ⟨e2, g2⟩
      · rcases getset h4 with ⟨_, e3⟩ | ⟨e3, _⟩
        · cases e3
          exact absurd h3 (fr.o j io x1 h1)
        · exact absurd e2 e3
      · rw [List.getElem?_set_ne (Ne.symm e2)] at h4
        exact S.dis j k l io x1 io' x1' h1 g2 h3 h4
  · obtain ⟨⟨x1, h1⟩, h2⟩ := S.io q hp
    have e : i ≠ q.1 := fun z => by
      subst z
      exact n x1 h1
    exact ⟨⟨x1, by rw [List.getElem?_set_ne e]; exact h1⟩, by rw [List.getElem?_set_ne e]; exact h2⟩
/-- an owned object at a place -/
theorem StOk.own (S : StOk K c F σ H δ) {i : Nat} {io : Bool} {x : Cn} (h : δ[i]? = some (.own io x)) : ∃ l ho, σ[i]? = some (some (.ref l)) ∧ F l = none ∧ c.Z l = none ∧ H l = some ho ∧ CRep K F x ho := by
  obtain ⟨o, h1, l, ho, rfl, h2, h3, h4, h5⟩ := S.at h
  exact ⟨l, ho, h1, h2, h3, h4, h5⟩
/-- it is changed -/
theorem StOk.put (S : StOk K c F σ H δ) {i : Nat} {io : Bool} {x y : Cn} {l : Addr} {o : HO} (h : δ[i]? = some (.own io x)) (hl : σ[i]? = some (some (.ref l))) (r : CRep K F y o) : StOk K c F σ (upd H l o) (δ.set i (.own io y)) := by
  obtain ⟨l', ho, h1, h2, h3, h4, h5⟩ := S.own h
  have e : l' = l := by
    rw [h1] at hl
    cases hl
    rfl
  subst e
  have hi : i < δ.length := (List.getElem?_eq_some_iff.mp h).1
  refine ⟨S.sub0, fun a u e => ?_, fun a u e => ?_, by rw [List.length_set]; exact S.len, fun j s q k1 k2 => ?_, fun j k l io x1 io' x1' k1 k2 k3 k4 => ?_, fun p hp => ?_, S.tt.put h4 h5.nt, S.tz⟩
  · rw [upd_ne (ne_of_none e h2)]
    exact S.sub a u e
  · have ha : a ≠ l' := ne_of_none e h3
    rw [upd_ne ha]
    exact S.fz a u e
  · rcases getset k1 with ⟨e, rfl⟩ | ⟨e, k1⟩
    · subst e
      rw [hl] at k2
      cases k2
      exact ⟨l', o, rfl, h2, h3, upd_same, r⟩
    · have q0 := S.sl j s q k1 k2
      cases s with
      | no => trivial
      | frz d => exact q0
      | own io x =>
        obtain ⟨m, ho, m1, m2, m3, m4, m5⟩ := q0
        have hm : m ≠ l' := fun z => by
          subst z
          rw [m1] at k2
          exact e (S.dis j i m _ _ _ _ k1 h k2 hl)
        exact ⟨m, ho, m1, m2, m3, by rw [upd_ne hm]; exact m4, m5⟩
  · have f : ∀ {j : Nat} {io1 io2 : Bool} {x1 : Cn}, (δ.set i (.own io1 y))[j]? = some (.own io2 x1) → ∃ io x1, δ[j]? = some (.own io x1) := fun {j _ io x1} g => by
      rcases getset g with ⟨e, _⟩ | ⟨_, g⟩
      · exact ⟨_, _, by rw [e]; exact h⟩
      · exact ⟨_, _, g⟩
    obtain ⟨_, _, g1⟩ := f k1
    obtain ⟨_, _, g2⟩ := f k2
    exact S.dis j k l _ _ _ _ g1 g2 k3 k4
  · obtain ⟨⟨x1, k1⟩, k2⟩ := S.io p hp
    refine ⟨?_, k2⟩
    by_cases e : i = p.1
    · rw [← e] at k1
      rw [h] at k1
      cases k1
      exact ⟨y, by rw [← e, List.getElem?_set_self hi]⟩
    · exact ⟨x1, by rw [List.getElem?_set_ne e]; exact k1⟩
/-- it is frozen -/
theorem StOk.fix (S : StOk K c F σ H δ) {i : Nat} {ds : List D} (h : δ[i]? = some (.own false (.lst ds))) : ∃ l F', σ[i]? = some (some (.ref l)) ∧ Same F F' ∧ StOk K c F' σ H (δ.set i (.frz (.lst ds))) ∧ Rep K F' (.lst ds) (.ref l) := by
  obtain ⟨l, ho, h1, h2, h3, h4, vs, rfl, h5⟩ := S.own h
  have hi : i < δ.length := (List.getElem?_eq_some_iff.mp h).1
  have n : notIo δ i := fun x e => by
    rw [h] at e
    cases e
  have S1 := S.forget n
  have fr : Free c F σ (δ.set i .no) l := ⟨h2, h3, fun j io x k1 k2 => by
    rcases getset k1 with ⟨_, e⟩ | ⟨e, k1⟩
    · cases e
    · exact e (S.dis j i l _ _ _ _ k1 h k2 h1)⟩
  obtain ⟨s2, S2⟩ := S1.freeze h4 fr
  have r : Rep K (upd F l (.lst vs)) (.lst ds) (.ref l) := by
    simp only [Rep]
    exact ⟨l, vs, rfl, upd_same, Reps.mono s2 _ _ h5⟩
  refine ⟨l, _, h1, s2, ?_, r⟩
  have n2 : notIo (δ.set i .no) i := fun x e => by
    rcases getset e with ⟨_, e⟩ | ⟨e, _⟩
    · cases e
    · exact e rfl
  have S3 := S2.asg n2 r
  rw [List.set_set] at S3
  have e1 : σ.set i (some (V.ref l)) = σ := by
    refine List.ext_getElem? fun j => ?_
    by_cases e : i = j
    · subst e
      rw [List.getElem?_set_self (List.getElem?_eq_some_iff.mp h1).1, h1]
    · rw [List.getElem?_set_ne e]
  rw [e1] at S3
  exact S3
end
end Dl

/-! Dl: readings at the level of data; expressions, tests, arguments. -/
namespace Dl
open PySem L2

theorem pe_wk {X : Cx} {e : Expr} {t t' : TE} (h : PE X e t) (w : ∀ σ H Q, t' σ H Q → t σ H Q) : PE X e t' := ⟨fun pins s σ H Q I q => h.run pins s σ H Q I (w σ H Q q)⟩
theorem pt_wk {X : Cx} {e : Expr} {t t' : TT} (h : PT X e t) (w : ∀ σ H Q, t' σ H Q → t σ H Q) : PT X e t' := ⟨fun pins s σ H Q I q => h.run pins s σ H Q I (w σ H Q q)⟩
theorem pw_wk {X : Cx} {e : Expr} {t t' : TT} (h : PW X e t) (w : ∀ σ H Q, t' σ H Q → t σ H Q) : PW X e t' := ⟨fun wh pins s σ H Q I q => h.run wh pins s σ H Q I (w σ H Q q)⟩
theorem pa_wk {X : Cx} {e : List Expr} {t t' : TA} (h : PA X e t) (w : ∀ σ H Q, t' σ H Q → t σ H Q) : PA X e t' := ⟨fun po pins s σ H Q I q => h.run po pins s σ H Q I (w σ H Q q)⟩
theorem ps_wk {X : Cx} {e : Stmt} {t t' : TS} (h : PS X e t) (w : ∀ D σ H, t' D σ H → t D σ H) : PS X e t' := ⟨fun pins s σ H D I q => h.run pins s σ H D I (w D σ H q)⟩
theorem pss_wk {X : Cx} {e : List Stmt} {t t' : TS} (h : PSs X e t) (w : ∀ D σ H, t' D σ H → t D σ H) : PSs X e t' := ⟨fun pins s σ H D I q => h.run pins s σ H D I (w D σ H q)⟩

/-! ### values: data, or a name's own object -/
inductive Vw where
  | val (d : D) | slot (i : Nat)
def VwRel (K : PySem.W.Frag) (F : Hp) (σ : L2.St) (w : Vw) (v : V) : Prop :=
  match w with
  | .val d => Rep K F d v
  | .slot i => σ[i]? = some (some v)
theorem VwRel.mono {K : PySem.W.Frag} {F F' : Hp} {σ : L2.St} {w : Vw} {v : V} (e : Same F F') (h : VwRel K F σ w v) : VwRel K F' σ w v := by
  cases w with
  | val d => exact Rep.mono e _ _ h
  | slot i => exact h
def VwsRel (K : PySem.W.Frag) (F : Hp) (σ : L2.St) : List Vw → List V → Prop
  | [], vs => vs = []
  | w :: ws, vs => ∃ v us, vs = v :: us ∧ VwRel K F σ w v ∧ VwsRel K F σ ws us
theorem VwsRel.mono {K : PySem.W.Frag} {F F' : Hp} {σ : L2.St} (e : Same F F') : ∀ {ws : List Vw} {vs : List V}, VwsRel K F σ ws vs → VwsRel K F' σ ws vs
  | [], _, h => h
  | w :: ws, vs, h => by
    obtain ⟨v, us, e1, h1, h2⟩ := h
    exact ⟨v, us, e1, h1.mono e, VwsRel.mono e h2⟩

def sg : DS → Nat → Sl
  | [], _ => .no
  | s :: _, 0 => s
  | _ :: r, n + 1 => sg r n
def ss : DS → Nat → Sl → DS
  | [], _, _ => []
  | _ :: r, 0, t => t :: r
  | s :: r, n + 1, t => s :: ss r n t
theorem ss_eq : ∀ (δ : DS) (i : Nat) (t : Sl), ss δ i t = δ.set i t
  | [], _, _ => rfl
  | _ :: _, 0, _ => rfl
  | s :: r, n + 1, t => by rw [ss, List.set_cons_succ, ss_eq r n t]
theorem sg_at : ∀ {δ : DS} {i : Nat} {s : Sl}, sg δ i = s → s ≠ .no → δ[i]? = some s
  | [], i, s, h, n => absurd h.symm n
  | s' :: r, 0, s, h, _ => by
    rw [← h]
    rfl
  | s' :: r, i + 1, s, h, n => by
    rw [List.getElem?_cons_succ]
    exact sg_at (δ := r) h n
theorem at_sg : ∀ {δ : DS} {i : Nat} {s : Sl}, δ[i]? = some s → sg δ i = s
  | [], i, s, h => by simp at h
  | s' :: r, 0, s, h => by
    simp at h
    exact h
  | s' :: r, i + 1, s, h => by
    rw [List.getElem?_cons_succ] at h
    exact at_sg (δ := r) h
def okS : Sl → Bool
  | .own true _ => false
  | _ => true
theorem okS_no : okS .no = true := rfl
theorem okS_frz {d : D} : okS (.frz d) = true := rfl
theorem okS_own {x : Cn} : okS (.own false x) = true := rfl
theorem okS_io {x : Cn} : okS (.own true x) = false := rfl
def okSet (δ : DS) (i : Nat) : Bool := okS (sg δ i)
theorem okSet_io {δ : DS} {i : Nat} (h : okSet δ i = true) : notIo δ i := fun x e => by
  unfold okSet okS at h
  rw [at_sg e] at h
  cases h

def vget (δ : DS) : Vw → Option D
  | .val d => some d
  | .slot i => match sg δ i with
    | .own _ (.lst ds) => some (.lst ds)
    | _ => none
def vgets (δ : DS) : List Vw → Option (List D)
  | [] => some []
  | w :: ws => match vget δ w, vgets δ ws with
    | some d, some ds => some (d :: ds)
    | _, _ => none
/-- what is read now -/
def RepV (K : PySem.W.Frag) (F H : Hp) (d : D) (v : V) : Prop :=
  match d with
  | .lst ds => ∃ a vs, v = .ref a ∧ H a = some (.lst vs) ∧ Reps K F ds vs
  | d => Rep K F d v
def RepVs (K : PySem.W.Frag) (F H : Hp) : List D → List V → Prop
  | [], vs => vs = []
  | d :: ds, vs => ∃ v us, vs = v :: us ∧ RepV K F H d v ∧ RepVs K F H ds us
section
variable {K : PySem.W.Frag} {c : Ct} {F H : Hp} {σ : L2.St} {δ : DS}
theorem Rep.view {d : D} {v : V} (e : Same F H) (h : Rep K F d v) : RepV K F H d v := by
  cases d with
  | lst ds =>
    simp only [Rep] at h
    obtain ⟨a, vs, h1, h2, h3⟩ := h
    exact ⟨a, vs, h1, e _ _ h2, h3⟩
  | _ => exact h
theorem StOk.view (S : StOk K c F σ H δ) {w : Vw} {v : V} {d : D} (h : VwRel K F σ w v) (e : vget δ w = some d) : RepV K F H d v := by
  cases w with
  | val d' =>
    cases e
    exact Rep.view S.sub h
  | slot i =>
    unfold vget at e
    cases q : sg δ i with
    | no => simp only [q] at e; cases e
    | frz d => simp only [q] at e; cases e
    | own io x =>
      cases x with
      | lst ds =>
        simp only [q] at e
        cases e
        obtain ⟨l, ho, h1, h2, h3, h4, vs, rfl, h5⟩ := S.own (sg_at q (by intro z; cases z))
        have hv : v = .ref l := by
          have h' : σ[i]? = some (some v) := h
          rw [h1] at h'
          cases h'
          rfl
        exact ⟨l, vs, hv, h4, h5⟩
      | dic _ => simp only [q] at e; cases e
      | dicT _ => simp only [q] at e; cases e
theorem StOk.views (S : StOk K c F σ H δ) : ∀ {ws : List Vw} {vs : List V} {ds : List D}, VwsRel K F σ ws vs → vgets δ ws = some ds → RepVs K F H ds vs
  | [], vs, ds, h, e => by
    cases e
    exact h
  | w :: ws, vs, ds, h, e => by
    obtain ⟨v, us, e1, h1, h2⟩ := h
    unfold vgets at e
    cases q1 : vget δ w with
    | none => simp only [q1] at e; cases e
    | some d =>
      cases q2 : vgets δ ws with
      | none => simp only [q1, q2] at e; cases e
      | some es =>
        simp only [q1, q2] at e
        cases e
        exact ⟨v, us, e1, S.view h1 q1, StOk.views S h2 q2⟩
end

/-! ### boxes: what stands within isn't looked into by simp -/
inductive Box2 (A B : Prop) : Type where
  | mk
/-- a branch -/
def brD (c : Prop) {A B : Prop} (_ : Box2 A B) : Prop := (c → A) ∧ (¬c → B)
theorem brD_true {A B : Prop} {x : Box2 A B} : brD True x = A := propext ⟨fun h => h.1 trivial, fun h => ⟨fun _ => h, fun q => absurd trivial q⟩⟩
theorem brD_false {A B : Prop} {x : Box2 A B} : brD False x = B := propext ⟨fun h => h.2 id, fun h => ⟨fun q => q.elim, fun _ => h⟩⟩
theorem brD_pos {c A B : Prop} {x : Box2 A B} (h : c) : brD c x = A := by rw [eq_true h, brD_true]
theorem brD_neg {c A B : Prop} {x : Box2 A B} (h : ¬c) : brD c x = B := by rw [eq_false h, brD_false]
theorem br_i {c A B : Prop} {x : Box2 A B} (h1 : c → A) (h2 : ¬c → B) : brD c x := ⟨h1, h2⟩
abbrev bx {A B : Prop} : Box2 A B := Box2.mk

/-! ### readings -/
abbrev DV := DS → (Vw → DS → Prop) → Prop
abbrev DT := DS → (Bool → DS → Prop) → Prop
abbrev DA := DS → (List Vw → DS → Prop) → Prop
abbrev DF := DS → (List D → DS → Prop) → Prop
def liftV (K : PySem.W.Frag) (r : DV) : TE := fun σ H Q => ∃ c F δ P, StOk K c F σ H δ ∧ r δ P ∧ ∀ w δ', P w δ' → ∀ v F' H', Same F F' → StOk K c F' σ H' δ' → VwRel K F' σ w v → Q v H'
def liftT (K : PySem.W.Frag) (r : DT) : TT := fun σ H Q => ∃ c F δ P, StOk K c F σ H δ ∧ r δ P ∧ ∀ b δ', P b δ' → ∀ F' H', Same F F' → StOk K c F' σ H' δ' → Q b H'
def liftA (K : PySem.W.Frag) (r : DA) : TA := fun σ H Q => ∃ c F δ P, StOk K c F σ H δ ∧ r δ P ∧ ∀ ws δ', P ws δ' → ∀ vs F' H', Same F F' → StOk K c F' σ H' δ' → VwsRel K F' σ ws vs → Q vs H'
def liftF (K : PySem.W.Frag) (r : DF) : TE := fun σ H Q => ∃ c F δ P, StOk K c F σ H δ ∧ r δ P ∧ ∀ ds δ', P ds δ' → ∀ p vs F' H', Same F F' → StOk K c F' σ H' δ' → Free c F' σ δ' p → H' p = some (.lst vs) → Reps K F' ds vs → Q (.ref p) H'

def rName (i : Nat) : DV := fun δ Q => match sg δ i with
  | .frz d => Q (.val d) δ
  | .own _ _ => Q (.slot i) δ
  | .no => False
def rC (d : D) : DV := fun δ Q => Q (.val d) δ
/-- as data: an own list is frozen -/
def rVal (r : DV) : DV := fun δ Q => r δ fun w δ1 => match w with
  | .val d => Q (.val d) δ1
  | .slot i => match sg δ1 i with
    | .own false (.lst ds) => Q (.val (.lst ds)) (ss δ1 i (.frz (.lst ds)))
    | _ => False
/-- a new list as data -/
def rFz (r : DF) : DV := fun δ Q => r δ fun ds δ1 => Q (.val (.lst ds)) δ1
/-- two operands -/
abbrev R2D := D → D → (D → Prop) → Prop
def rOp (R : R2D) (ra rb : DV) : DV := fun δ Q => ra δ fun w1 δ1 => rb δ1 fun w2 δ2 => match vget δ2 w1, vget δ2 w2 with
  | some a, some b => R a b fun d => Q (.val d) δ2
  | _, _ => False
def rUn (R : D → (D → Prop) → Prop) (ra : DV) : DV := fun δ Q => ra δ fun w δ1 => match vget δ1 w with
  | some a => R a fun d => Q (.val d) δ1
  | none => False
def rNilA : DA := fun δ Q => Q [] δ
def rConsA (r : DV) (rs : DA) : DA := fun δ Q => r δ fun w δ1 => rs δ1 fun ws δ2 => Q (w :: ws) δ2
abbrev RND := List D → (D → Prop) → Prop
def rCB (R : RND) (rs : DA) : DV := fun δ Q => rs δ fun ws δ1 => match vgets δ1 ws with
  | some ds => R ds fun d => Q (.val d) δ1
  | none => False
def rCBF (R : List D → (List D → Prop) → Prop) (rs : DA) : DF := fun δ Q => rs δ fun ws δ1 => match vgets δ1 ws with
  | some ds => R ds fun es => Q es δ1
  | none => False
def rOpF (R : D → D → (List D → Prop) → Prop) (ra rb : DV) : DF := fun δ Q => ra δ fun w1 δ1 => rb δ1 fun w2 δ2 => match vget δ2 w1, vget δ2 w2 with
  | some a, some b => R a b fun ds => Q ds δ2
  | _, _ => False
def valsOf : List Vw → Option (List D)
  | [] => some []
  | .val d :: ws => match valsOf ws with
    | some ds => some (d :: ds)
    | none => none
  | .slot _ :: _ => none
def rTup (rs : DA) : DV := fun δ Q => rs δ fun ws δ1 => match valsOf ws with
  | some ds => ds.length ≤ 16777216 ∧ Q (.val (.tup ds)) δ1
  | none => False
def rLst (rs : DA) : DF := fun δ Q => rs δ fun ws δ1 => match valsOf ws with
  | some ds => ds.length ≤ 16777216 ∧ Q ds δ1
  | none => False
def rTest (r : DV) : DT := fun δ Q => r δ fun w δ1 => match w with
  | .val (.bl b) => Q b δ1
  | _ => False
def truD : D → (Bool → Prop) → Prop
  | .non, P => P false
  | .bl b, P => P b
  | .int i, P => P (i != 0)
  | .str x, P => x.length ≤ 16777216 ∧ P ((x.length : Int) != 0)
  | .tup ds, P => P (!ds.isEmpty)
  | .lst ds, P => P (!ds.isEmpty)
  | .rol ds, P => P (!ds.isEmpty)
def rTru (r : DV) : DT := fun δ Q => r δ fun w δ1 => match vget δ1 w with
  | some d => truD d fun b => Q b δ1
  | none => False
def rAnd (t u : DT) : DT := fun δ Q => t δ fun b δ1 => brD (b = true) (bx (A := u δ1 Q) (B := Q false δ1))
def rOr (t u : DT) : DT := fun δ Q => t δ fun b δ1 => brD (b = true) (bx (A := Q true δ1) (B := u δ1 Q))
def rNot (t : DT) : DT := fun δ Q => t δ fun b δ1 => Q (!b) δ1
def rAndV (t u : DV) : DV := fun δ Q => t δ fun w δ1 => match w with
  | .val (.bl b) => brD (b = true) (bx (A := u δ1 Q) (B := Q (.val (.bl false)) δ1))
  | _ => False
def rOrV (t u : DV) : DV := fun δ Q => t δ fun w δ1 => match w with
  | .val (.bl b) => brD (b = true) (bx (A := Q (.val (.bl true)) δ1) (B := u δ1 Q))
  | _ => False
def rNotV (t : DV) : DV := fun δ Q => t δ fun w δ1 => match w with
  | .val (.bl b) => Q (.val (.bl (!b))) δ1
  | _ => False
def rIfE (t : DT) (a b : DV) : DV := fun δ Q => t δ fun k δ1 => brD (k = true) (bx (A := a δ1 Q) (B := b δ1 Q))
/-- a < b < c -/
def rChain (R R' : R2D) (ra rb rc : DV) : DV := fun δ Q => ra δ fun w1 δ1 => rb δ1 fun w2 δ2 => match vget δ2 w1, vget δ2 w2 with
  | some a, some b => R a b fun d => match d with
    | .bl k => brD (k = true) (bx (A := rc δ2 fun w3 δ3 => match vget δ3 w2, vget δ3 w3 with
        | some b', some c => R' b' c fun d => Q (.val d) δ3
        | _, _ => False) (B := Q (.val (.bl false)) δ2))
    | _ => False
  | _, _ => False

/-- the state grows by one object at most -/
def Grow (F H F' H' : Hp) : Prop := (F' = F ∧ H' = H) ∨ ∃ p o, H p = none ∧ F' = upd F p o ∧ H' = upd H p o
def OpS (K : PySem.W.Frag) (r : R2) (R : R2D) : Prop := ∀ (F H : Hp) (a b : D) (x y : V) (P : D → Prop) (Q : VK), Same F H → RepV K F H a x → RepV K F H b y → R a b P →
  (∀ d v F' H', P d → Grow F H F' H' → Rep K F' d v → Q v H') → r x y H Q
def UnS (K : PySem.W.Frag) (r : V → Hp → VK → Prop) (R : D → (D → Prop) → Prop) : Prop := ∀ (F H : Hp) (a : D) (x : V) (P : D → Prop) (Q : VK), Same F H → RepV K F H a x → R a P →
  (∀ d v F' H', P d → Grow F H F' H' → Rep K F' d v → Q v H') → r x H Q
def CallS (K : PySem.W.Frag) (r : List V → Hp → VK → Prop) (R : RND) : Prop := ∀ (F H : Hp) (ds : List D) (xs : List V) (P : D → Prop) (Q : VK), Same F H → RepVs K F H ds xs → R ds P →
  (∀ d v F' H', P d → Grow F H F' H' → Rep K F' d v → Q v H') → r xs H Q
def CallF (K : PySem.W.Frag) (r : List V → Hp → VK → Prop) (R : List D → (List D → Prop) → Prop) : Prop := ∀ (F H : Hp) (ds : List D) (xs : List V) (P : List D → Prop) (Q : VK), Same F H → RepVs K F H ds xs → R ds P →
  (∀ es p vs, P es → H p = none → Reps K F es vs → Q (.ref p) (upd H p (.lst vs))) → r xs H Q
def OpF (K : PySem.W.Frag) (r : R2) (R : D → D → (List D → Prop) → Prop) : Prop := ∀ (F H : Hp) (a b : D) (x y : V) (P : List D → Prop) (Q : VK), Same F H → RepV K F H a x → RepV K F H b y → R a b P →
  (∀ es p vs, P es → H p = none → Reps K F es vs → Q (.ref p) (upd H p (.lst vs))) → r x y H Q

section
variable {K : PySem.W.Frag} {c : Ct} {F H F' H' : Hp} {σ : L2.St} {δ : DS}
theorem StOk.grow (S : StOk K c F σ H δ) (g : Grow F H F' H') : Same F F' ∧ StOk K c F' σ H' δ := by
  rcases g with ⟨rfl, rfl⟩ | ⟨p, o, h, rfl, rfl⟩
  · exact ⟨Same.refl _, S⟩
  · exact S.alloc h
end
section
variable {X : Cx} {a b e : Expr} {es : List Expr} {ra rb rc : DV} {rs : DA} {pos : Pos}
theorem e_name (i : Nat) {x : Str} {pos : Pos} (h : PE X (.Name x pos) (tVar i)) : PE X (.Name x pos) (liftV X.K (rName i)) := pe_wk h fun σ H Q ⟨c, F, δ, P, S, r, k⟩ => by
  unfold rName at r
  cases q : sg δ i with
  | no => simp only [q] at r
  | frz d =>
    simp only [q] at r
    obtain ⟨o, h1, v, rfl, h2⟩ := S.at (sg_at q (by intro z; cases z))
    exact ⟨v, h1, k _ _ r v F H (Same.refl _) S h2⟩
  | own io x =>
    simp only [q] at r
    obtain ⟨l, ho, h1, _⟩ := S.own (sg_at q (by intro z; cases z))
    exact ⟨_, h1, k _ _ r _ F H (Same.refl _) S h1⟩
theorem e_c {d : D} {v : V} (h : PE X e (tC v)) (r : ∀ F, Rep X.K F d v) : PE X e (liftV X.K (rC d)) := pe_wk h fun σ H Q ⟨c, F, δ, P, S, q, k⟩ => k _ _ q _ F H (Same.refl _) S (r F)
theorem e_int {i j pos} : PE X (.Constant (.int i) j pos) (liftV X.K (rC (.int i))) := e_c pe_int fun _ => by simp only [Rep]
theorem e_bl {i j pos} : PE X (.Constant (.bool i) j pos) (liftV X.K (rC (.bl i))) := e_c pe_bl fun _ => by simp only [Rep]
theorem e_non {j pos} : PE X (.Constant .none j pos) (liftV X.K (rC .non)) := e_c pe_non fun _ => by simp only [Rep]
theorem e_str {i j pos} : PE X (.Constant (.str i) j pos) (liftV X.K (rC (.str i))) := e_c pe_str fun _ => by simp only [Rep]
theorem e_val (h : PE X e (liftV X.K ra)) : PE X e (liftV X.K (rVal ra)) := pe_wk h fun σ H Q ⟨c, F, δ, P, S, r, k⟩ => ⟨c, F, δ, _, S, r, fun w δ1 hp v F1 H1 e1 S1 hv => by
  cases w with
  | val d => exact k _ _ hp v F1 H1 e1 S1 hv
  | slot i =>
    cases q : sg δ1 i with
    | no => simp only [q] at hp
    | frz d => simp only [q] at hp
    | own io x =>
      cases io with
      | true => simp only [q] at hp
      | false =>
        cases x with
        | lst ds =>
          simp only [q] at hp
          obtain ⟨l, F2, g1, g2, g3, g4⟩ := S1.fix (sg_at q (by intro z; cases z))
          have hv' : v = .ref l := by
            have z : σ[i]? = some (some v) := hv
            rw [g1] at z
            cases z
            rfl
          subst hv'
          rw [ss_eq] at hp
          exact k _ _ hp _ F2 H1 (e1.trans g2) g3 g4
        | dic _ => simp only [q] at hp
        | dicT _ => simp only [q] at hp⟩
theorem e_fz {r : DF} (h : PE X e (liftF X.K r)) : PE X e (liftV X.K (rFz r)) := pe_wk h fun σ H Q ⟨c, F, δ, P, S, r, k⟩ => ⟨c, F, δ, _, S, r, fun ds δ1 hp p vs F1 H1 e1 S1 fr h1 h2 => by
  obtain ⟨s2, S2⟩ := S1.freeze h1 fr
  refine k _ _ hp _ _ H1 (e1.trans s2) S2 ?_
  show Rep X.K _ (.lst ds) (.ref p)
  simp only [Rep]
  exact ⟨p, vs, rfl, upd_same, Reps.mono s2 _ _ h2⟩⟩
theorem op_sound {r : R2} {R : R2D} (hs : OpS X.K r R) : ∀ σ H Q, liftV X.K (rOp R ra rb) σ H Q → tOp r (liftV X.K ra) (liftV X.K rb) σ H Q := fun σ H Q ⟨c, F, δ, P, S, h, k⟩ =>
  ⟨c, F, δ, _, S, h, fun w1 δ1 h1 x F1 H1 e1 S1 r1 => ⟨c, F1, δ1, _, S1, h1, fun w2 δ2 h2 y F2 H2 e2 S2 r2 => by
    cases q1 : vget δ2 w1 with
    | none => simp only [q1] at h2
    | some d1 =>
      cases q2 : vget δ2 w2 with
      | none => simp only [q1, q2] at h2
      | some d2 =>
        simp only [q1, q2] at h2
        refine hs F2 H2 d1 d2 x y _ _ S2.sub (S2.view (r1.mono e2) q1) (S2.view r2 q2) h2 fun d v F3 H3 hd g rv => ?_
        obtain ⟨e3, S3⟩ := S2.grow g
        exact k _ _ hd v F3 H3 ((e1.trans e2).trans e3) S3 rv⟩⟩
theorem opF_sound {r : R2} {R : D → D → (List D → Prop) → Prop} (hs : OpF X.K r R) : ∀ σ H Q, liftF X.K (rOpF R ra rb) σ H Q → tOp r (liftV X.K ra) (liftV X.K rb) σ H Q := fun σ H Q ⟨c, F, δ, P, S, h, k⟩ =>
  ⟨c, F, δ, _, S, h, fun w1 δ1 h1 x F1 H1 e1 S1 r1 => ⟨c, F1, δ1, _, S1, h1, fun w2 δ2 h2 y F2 H2 e2 S2 r2 => by
    cases q1 : vget δ2 w1 with
    | none => simp only [q1] at h2
    | some d1 =>
      cases q2 : vget δ2 w2 with
      | none => simp only [q1, q2] at h2
      | some d2 =>
        simp only [q1, q2] at h2
        refine hs F2 H2 d1 d2 x y _ _ S2.sub (S2.view (r1.mono e2) q1) (S2.view r2 q2) h2 fun es p vs hd hp rv => ?_
        obtain ⟨S3, fr⟩ := S2.fresh (o := .lst vs) hp
        exact k _ _ hd p vs F2 _ (e1.trans e2) S3 fr upd_same rv⟩⟩
theorem e_op {op : Operator} {r : R2} {R : R2D} (ho : OpR X (binaryOp op) r) (hs : OpS X.K r R) (ha : PE X a (liftV X.K ra)) (hb : PE X b (liftV X.K rb)) : PE X (.BinOp a op b pos) (liftV X.K (rOp R ra rb)) := pe_wk (pe_op ho ha hb) (op_sound hs)
theorem e_opF {op : Operator} {r : R2} {R : D → D → (List D → Prop) → Prop} (ho : OpR X (binaryOp op) r) (hs : OpF X.K r R) (ha : PE X a (liftV X.K ra)) (hb : PE X b (liftV X.K rb)) : PE X (.BinOp a op b pos) (liftF X.K (rOpF R ra rb)) := pe_wk (pe_op ho ha hb) (opF_sound hs)
theorem e_cmp {op : CmpOp} {r : R2} {R : R2D} (ho : OpR X (compareOp op) r) (hs : OpS X.K r R) (ha : PE X a (liftV X.K ra)) (hb : PE X b (liftV X.K rb)) (hm : behindInMarks op b = false) : PE X (.Compare a [op] [b] pos) (liftV X.K (rOp R ra rb)) := pe_wk (pe_cmpR ho ha hb hm) (op_sound hs)
theorem e_ix {r : R2} {R : R2D} (ho : IxR X r) (hs : OpS X.K r R) (ha : PE X a (liftV X.K ra)) (hb : PE X b (liftV X.K rb)) (hp : PlainIx b) : PE X (.Subscript a b pos) (liftV X.K (rOp R ra rb)) := pe_wk (pe_ix ho ha hb hp) (op_sound hs)
theorem test_sound {t : TE} {r : DV} (h : ∀ σ H Q, liftV X.K r σ H Q → t σ H Q) : ∀ σ H Q, liftT X.K (rTest r) σ H Q → tTest t σ H Q := fun σ H Q ⟨c, F, δ, P, S, q, k⟩ => h σ H _ ⟨c, F, δ, _, S, q, fun w δ1 hp v F1 H1 e1 S1 hv => by
  cases w with
  | slot i => exact hp.elim
  | val d =>
    cases d with
    | bl b0 =>
      have e : v = .bl b0 := by simpa only [VwRel, Rep] using hv
      exact ⟨b0, e, k _ _ hp F1 H1 e1 S1⟩
    | _ => exact hp.elim⟩
theorem t_cmp {op : CmpOp} {r : R2} {R : R2D} (ho : OpR X (compareOp op) r) (hs : OpS X.K r R) (ha : PE X a (liftV X.K ra)) (hb : PE X b (liftV X.K rb)) (hm : behindInMarks op b = false) : PT X (.Compare a [op] [b] pos) (liftT X.K (rTest (rOp R ra rb))) :=
  pt_wk (pt_cmpR ho ha hb hm) (test_sound (op_sound hs))
theorem un_sound {r : V → Hp → VK → Prop} {R : D → (D → Prop) → Prop} (hs : UnS X.K r R) : ∀ σ H Q, liftV X.K (rUn R ra) σ H Q → tUn r (liftV X.K ra) σ H Q := fun σ H Q ⟨c, F, δ, P, S, h, k⟩ =>
  ⟨c, F, δ, _, S, h, fun w1 δ1 h1 x F1 H1 e1 S1 r1 => by
    cases q1 : vget δ1 w1 with
    | none => simp only [q1] at h1
    | some d1 =>
      simp only [q1] at h1
      refine hs F1 H1 d1 x _ _ S1.sub (S1.view r1 q1) h1 fun d v F3 H3 hd g rv => ?_
      obtain ⟨e3, S3⟩ := S1.grow g
      exact k _ _ hd v F3 H3 (e1.trans e3) S3 rv⟩
theorem e_un {op : UnaryOp} {r : V → Hp → VK → Prop} {R : D → (D → Prop) → Prop} (ho : UnR X (unaryOp op) r) (hs : UnS X.K r R) (ha : PE X a (liftV X.K ra)) : PE X (.UnaryOp op a pos) (liftV X.K (rUn R ra)) := pe_wk (pe_un ho ha) (un_sound hs)

/-! arguments -/
theorem a_nil : PA X [] (liftA X.K rNilA) := pa_wk pa_nil fun σ H Q ⟨c, F, δ, P, S, h, k⟩ => k _ _ h [] F H (Same.refl _) S rfl
theorem a_cons (he : PE X e (liftV X.K ra)) (hr : PA X es (liftA X.K rs)) (hs : starEach (e :: es) X.env = (false, eval e X.env) :: starEach es X.env := by rfl) : PA X (e :: es) (liftA X.K (rConsA ra rs)) :=
  pa_wk (pa_cons he hr hs) fun σ H Q ⟨c, F, δ, P, S, h, k⟩ => ⟨c, F, δ, _, S, h, fun w δ1 h1 v F1 H1 e1 S1 r1 => ⟨c, F1, δ1, _, S1, h1, fun ws δ2 h2 vs F2 H2 e2 S2 r2 =>
    k _ _ h2 (v :: vs) F2 H2 (e1.trans e2) S2 ⟨v, vs, rfl, r1.mono e2, r2⟩⟩⟩
theorem vals_rel {F : Hp} {σ : L2.St} : ∀ {ws : List Vw} {vs : List V} {ds : List D}, VwsRel X.K F σ ws vs → valsOf ws = some ds → Reps X.K F ds vs
  | [], vs, ds, h, e => by
    cases e
    rw [show vs = [] from h]
    exact Reps.nil
  | .slot _ :: ws, vs, ds, h, e => by cases e
  | .val d :: ws, vs, ds, h, e => by
    obtain ⟨v, us, e1, h1, h2⟩ := h
    unfold valsOf at e
    cases q : valsOf ws with
    | none => simp only [q] at e; cases e
    | some es =>
      simp only [q] at e
      cases e
      subst e1
      exact Reps.cons h1 (vals_rel h2 q)
theorem line_le {n : Nat} (h : n ≤ 16777216) : n ≤ sizeLine := by rw [sizeLine_eq]; exact h
theorem e_tup {k : Nat} (h : PA X es (liftA X.K rs)) : PE X (.Tuple es k pos) (liftV X.K (rTup rs)) := pe_wk (pe_tup h) fun σ H Q ⟨c, F, δ, P, S, h, k⟩ => ⟨c, F, δ, _, S, h, fun ws δ1 h1 vs F1 H1 e1 S1 r1 => by
  cases q : valsOf ws with
  | none => simp only [q] at h1
  | some ds =>
    simp only [q] at h1
    have r := vals_rel r1 q
    refine ⟨by rw [r.len]; exact line_le h1.1, fun p hp => ?_⟩
    obtain ⟨e2, S2⟩ := S1.alloc (o := .tup vs) hp
    refine k _ _ h1.2 _ _ _ (e1.trans e2) S2 ?_
    show Rep X.K _ (.tup ds) (.ref p)
    simp only [Rep]
    exact ⟨p, vs, rfl, SqT.of upd_same, Reps.mono e2 _ _ r⟩⟩
theorem e_lst (h : PA X es (liftA X.K rs)) : PE X (.List es pos) (liftF X.K (rLst rs)) := pe_wk (pe_lst h) fun σ H Q ⟨c, F, δ, P, S, h, k⟩ => ⟨c, F, δ, _, S, h, fun ws δ1 h1 vs F1 H1 e1 S1 r1 => by
  cases q : valsOf ws with
  | none => simp only [q] at h1
  | some ds =>
    simp only [q] at h1
    have r := vals_rel r1 q
    refine ⟨by rw [r.len]; exact line_le h1.1, fun p hp => ?_⟩
    obtain ⟨S2, fr⟩ := S1.fresh (o := .lst vs) hp
    exact k _ _ h1.2 p vs F1 _ e1 S2 fr upd_same r⟩
theorem cb_sound {r : List V → Hp → VK → Prop} {R : RND} (hs : CallS X.K r R) : ∀ σ H Q, liftV X.K (rCB R rs) σ H Q → tCB r (liftA X.K rs) σ H Q := fun σ H Q ⟨c, F, δ, P, S, h, k⟩ => ⟨c, F, δ, _, S, h, fun ws δ1 h1 vs F1 H1 e1 S1 r1 => by
  cases q : vgets δ1 ws with
  | none => simp only [q] at h1
  | some ds =>
    simp only [q] at h1
    refine hs F1 H1 ds vs _ _ S1.sub (S1.views r1 q) h1 fun d v F3 H3 hd g rv => ?_
    obtain ⟨e3, S3⟩ := S1.grow g
    exact k _ _ hd v F3 H3 (e1.trans e3) S3 rv⟩
theorem cbF_sound {r : List V → Hp → VK → Prop} {R : List D → (List D → Prop) → Prop} (hs : CallF X.K r R) : ∀ σ H Q, liftF X.K (rCBF R rs) σ H Q → tCB r (liftA X.K rs) σ H Q := fun σ H Q ⟨c, F, δ, P, S, h, k⟩ => ⟨c, F, δ, _, S, h, fun ws δ1 h1 vs F1 H1 e1 S1 r1 => by
  cases q : vgets δ1 ws with
  | none => simp only [q] at h1
  | some ds =>
    simp only [q] at h1
    refine hs F1 H1 ds vs _ _ S1.sub (S1.views r1 q) h1 fun es p us hd hp rv => ?_
    obtain ⟨S3, fr⟩ := S1.fresh (o := .lst us) hp
    exact k _ _ hd p us F1 _ e1 S3 fr upd_same rv⟩

/-! tests -/
theorem t_tru {e : Expr} (h : PE X e (liftV X.K ra)) (he : ∀ whole, isTrue e X.env whole = (do let v ← whole; standAt e.pos; holding [v] (truthy v)) := by intro _; rfl) : PT X e (liftT X.K (rTru ra)) :=
  pt_wk (pt_truth h he) fun σ H Q ⟨c, F, δ, P, S, h, k⟩ => ⟨c, F, δ, _, S, h, fun w δ1 h1 v F1 H1 e1 S1 r1 => by
    cases q : vget δ1 w with
    | none => simp only [q] at h1
    | some d =>
      simp only [q] at h1
      have rv := S1.view r1 q
      cases d with
      | non =>
        have e : v = .non := by simpa only [RepV, Rep] using rv
        subst e
        exact ⟨false, rfl, k _ _ h1 F1 H1 e1 S1⟩
      | bl b =>
        have e : v = .bl b := by simpa only [RepV, Rep] using rv
        subst e
        exact ⟨b, rfl, k _ _ h1 F1 H1 e1 S1⟩
      | int i =>
        have e : v = .int i := by simpa only [RepV, Rep] using rv
        subst e
        exact ⟨_, rfl, k _ _ h1 F1 H1 e1 S1⟩
      | str x =>
        have e : v = .str x := by simpa only [RepV, Rep] using rv
        subst e
        exact ⟨_, ⟨line_le h1.1, rfl⟩, k _ _ h1.2 F1 H1 e1 S1⟩
      | tup ds =>
        simp only [RepV, Rep] at rv
        obtain ⟨a, vs, rfl, g1, g2⟩ := rv
        refine ⟨!ds.isEmpty, Or.inr (Or.inl ⟨vs, same_t S1.sub g1, ?_⟩), k _ _ h1 F1 H1 e1 S1⟩
        cases ds with
        | nil => rw [g2.unnil]; rfl
        | cons d ds =>
          obtain ⟨v, us, rfl, _⟩ := g2.uncons
          rfl
      | lst ds =>
        obtain ⟨a, vs, rfl, g1, g2⟩ := rv
        refine ⟨!ds.isEmpty, Or.inl ⟨vs, SqL.of g1, ?_⟩, k _ _ h1 F1 H1 e1 S1⟩
        cases ds with
        | nil => rw [g2.unnil]; rfl
        | cons d ds =>
          obtain ⟨v, us, rfl, _⟩ := g2.uncons
          rfl
      | rol ds =>
        simp only [RepV, Rep] at rv
        obtain ⟨a, vs, rfl, g1, g2⟩ := rv
        refine ⟨!ds.isEmpty, Or.inl ⟨vs, same_l S1.sub g1, ?_⟩, k _ _ h1 F1 H1 e1 S1⟩
        cases ds with
        | nil => rw [g2.unnil]; rfl
        | cons d ds =>
          obtain ⟨v, us, rfl, _⟩ := g2.uncons
          rfl⟩
variable {t u : DT} {rest : List Expr}
theorem t_pw (h : PW X e (liftT X.K t)) : PT X e (liftT X.K t) := h.pt
theorem w_and1 (h : PT X a (liftT X.K t)) : PW X (.BoolOp .And [a] pos) (liftT X.K t) := pw_and1 h
theorem w_or1 (h : PT X a (liftT X.K t)) : PW X (.BoolOp .Or [a] pos) (liftT X.K t) := pw_or1 h
theorem w_and (h : PT X a (liftT X.K t)) (hb : PW X (.BoolOp .And (b :: rest) pos) (liftT X.K u)) : PW X (.BoolOp .And (a :: b :: rest) pos) (liftT X.K (rAnd t u)) :=
  pw_wk (pw_and h hb) fun σ H Q ⟨c, F, δ, P, S, h, k⟩ => ⟨c, F, δ, _, S, h, fun b0 δ1 h1 F1 H1 e1 S1 => by
    cases b0 with
    | true =>
      replace h1 := h1.1 rfl
      simp only [if_true]
      exact ⟨c, F1, δ1, _, S1, h1, fun b1 δ2 h2 F2 H2 e2 S2 => k _ _ h2 F2 H2 (e1.trans e2) S2⟩
    | false =>
      replace h1 := h1.2 (by decide)
      rw [if_neg Bool.false_ne_true]
      exact k _ _ h1 F1 H1 e1 S1⟩
theorem w_or (h : PT X a (liftT X.K t)) (hb : PW X (.BoolOp .Or (b :: rest) pos) (liftT X.K u)) : PW X (.BoolOp .Or (a :: b :: rest) pos) (liftT X.K (rOr t u)) :=
  pw_wk (pw_or h hb) fun σ H Q ⟨c, F, δ, P, S, h, k⟩ => ⟨c, F, δ, _, S, h, fun b0 δ1 h1 F1 H1 e1 S1 => by
    cases b0 with
    | true =>
      replace h1 := h1.1 rfl
      simp only [if_true]
      exact k _ _ h1 F1 H1 e1 S1
    | false =>
      replace h1 := h1.2 (by decide)
      rw [if_neg Bool.false_ne_true]
      exact ⟨c, F1, δ1, _, S1, h1, fun b1 δ2 h2 F2 H2 e2 S2 => k _ _ h2 F2 H2 (e1.trans e2) S2⟩⟩
theorem t_not (h : PT X a (liftT X.K t)) : PT X (.UnaryOp .Not a pos) (liftT X.K (rNot t)) :=
  pt_wk (pt_not h) fun σ H Q ⟨c, F, δ, P, S, h, k⟩ => ⟨c, F, δ, _, S, h, fun b0 δ1 h1 F1 H1 e1 S1 => k _ _ h1 F1 H1 e1 S1⟩
theorem e_one {op} (h : PE X a (liftV X.K ra)) : PE X (.BoolOp op [a] pos) (liftV X.K ra) := pe_one h
theorem bl_of {F : Hp} {σ : L2.St} {v : V} {b0 : Bool} (hv : VwRel X.K F σ (.val (.bl b0)) v) : v = .bl b0 := by simpa only [VwRel, Rep] using hv
theorem bl_rel {F : Hp} {σ : L2.St} {b0 : Bool} : VwRel X.K F σ (.val (.bl b0)) (.bl b0) := by
  show Rep _ _ _ _
  simp only [Rep]
theorem e_and (h : PE X a (liftV X.K ra)) (hb : PE X (.BoolOp .And (b :: rest) pos) (liftV X.K rb)) : PE X (.BoolOp .And (a :: b :: rest) pos) (liftV X.K (rAndV ra rb)) :=
  pe_wk (pe_and h hb) fun σ H Q ⟨c, F, δ, P, S, h, k⟩ => ⟨c, F, δ, _, S, h, fun w δ1 h1 v F1 H1 e1 S1 r1 => by
    cases w with
    | slot i => exact h1.elim
    | val d =>
      cases d with
      | bl b0 =>
        refine ⟨b0, bl_of r1, ?_⟩
        cases b0 with
        | true =>
          replace h1 := h1.1 rfl
          simp only [if_true]
          exact ⟨c, F1, δ1, _, S1, h1, fun b1 δ2 h2 v F2 H2 e2 S2 => k _ _ h2 v F2 H2 (e1.trans e2) S2⟩
        | false =>
          replace h1 := h1.2 (by decide)
          simp only [if_false, Bool.false_eq_true]
          exact k _ _ h1 _ F1 H1 e1 S1 bl_rel
      | _ => exact h1.elim⟩
theorem e_or (h : PE X a (liftV X.K ra)) (hb : PE X (.BoolOp .Or (b :: rest) pos) (liftV X.K rb)) : PE X (.BoolOp .Or (a :: b :: rest) pos) (liftV X.K (rOrV ra rb)) :=
  pe_wk (pe_or h hb) fun σ H Q ⟨c, F, δ, P, S, h, k⟩ => ⟨c, F, δ, _, S, h, fun w δ1 h1 v F1 H1 e1 S1 r1 => by
    cases w with
    | slot i => exact h1.elim
    | val d =>
      cases d with
      | bl b0 =>
        refine ⟨b0, bl_of r1, ?_⟩
        cases b0 with
        | false =>
          replace h1 := h1.2 (by decide)
          simp only [if_false, Bool.false_eq_true]
          exact ⟨c, F1, δ1, _, S1, h1, fun b1 δ2 h2 v F2 H2 e2 S2 => k _ _ h2 v F2 H2 (e1.trans e2) S2⟩
        | true =>
          replace h1 := h1.1 rfl
          simp only [if_true]
          exact k _ _ h1 _ F1 H1 e1 S1 bl_rel
      | _ => exact h1.elim⟩
theorem e_not (h : PE X a (liftV X.K ra)) : PE X (.UnaryOp .Not a pos) (liftV X.K (rNotV ra)) :=
  pe_wk (pe_not h) fun σ H Q ⟨c, F, δ, P, S, h, k⟩ => ⟨c, F, δ, _, S, h, fun w δ1 h1 v F1 H1 e1 S1 r1 => by
    cases w with
    | slot i => exact h1.elim
    | val d =>
      cases d with
      | bl b0 => exact ⟨b0, bl_of r1, k _ _ h1 _ F1 H1 e1 S1 bl_rel⟩
      | _ => exact h1.elim⟩
theorem e_ife {q : Expr} (hc : PT X q (liftT X.K t)) (ha : PE X a (liftV X.K ra)) (hb : PE X b (liftV X.K rb)) : PE X (.IfExp q a b pos) (liftV X.K (rIfE t ra rb)) :=
  pe_wk (pe_ifExp hc ha hb) fun σ H Q ⟨c, F, δ, P, S, h, k⟩ => ⟨c, F, δ, _, S, h, fun b0 δ1 h1 F1 H1 e1 S1 => by
    cases b0 with
    | true =>
      replace h1 := h1.1 rfl
      simp only [if_true]
      exact ⟨c, F1, δ1, _, S1, h1, fun b1 δ2 h2 v F2 H2 e2 S2 => k _ _ h2 v F2 H2 (e1.trans e2) S2⟩
    | false =>
      replace h1 := h1.2 (by decide)
      simp only [if_false, Bool.false_eq_true]
      exact ⟨c, F1, δ1, _, S1, h1, fun b1 δ2 h2 v F2 H2 e2 S2 => k _ _ h2 v F2 H2 (e1.trans e2) S2⟩⟩
end
end Dl

/-! Dl: statements, loops, comprehensions, calls, defs. -/
namespace Dl
open PySem L2

inductive Ret where
  | v (d : D) | f (ds : List D)
structure DE where
  nx : DS → Prop
  rt : Ret → DS → Prop
  bk : DS → Prop := fun _ => False
  ct : DS → Prop := fun _ => False
abbrev DSt := DE → DS → Prop
def RetRel (K : PySem.W.Frag) (c : Ct) (F : Hp) (σ : L2.St) (H : Hp) (δ : DS) (r : Ret) (v : V) : Prop :=
  match r with
  | .v d => Rep K F d v
  | .f ds => ∃ p vs, v = .ref p ∧ Free c F σ δ p ∧ H p = some (.lst vs) ∧ Reps K F ds vs
/-- what is wanted at the level of data leads to what is wanted -/
structure Leads (K : PySem.W.Frag) (c : Ct) (F : Hp) (E : DE) (D : Ends) : Prop where
  nx : ∀ δ', E.nx δ' → ∀ σ' F' H', Same F F' → StOk K c F' σ' H' δ' → D.nx σ' H'
  rt : ∀ r δ', E.rt r δ' → ∀ v σ' F' H', Same F F' → StOk K c F' σ' H' δ' → RetRel K c F' σ' H' δ' r v → D.rt v H'
  bk : ∀ δ', E.bk δ' → ∀ σ' F' H', Same F F' → StOk K c F' σ' H' δ' → D.bk σ' H'
  ct : ∀ δ', E.ct δ' → ∀ σ' F' H', Same F F' → StOk K c F' σ' H' δ' → D.ct σ' H'
theorem Leads.mono {K : PySem.W.Frag} {c : Ct} {F F1 : Hp} {E : DE} {D : Ends} (L : Leads K c F E D) (e : Same F F1) : Leads K c F1 E D :=
  ⟨fun δ' h σ' F' H' e1 S => L.nx δ' h σ' F' H' (e.trans e1) S, fun r δ' h v σ' F' H' e1 S => L.rt r δ' h v σ' F' H' (e.trans e1) S,
    fun δ' h σ' F' H' e1 S => L.bk δ' h σ' F' H' (e.trans e1) S, fun δ' h σ' F' H' e1 S => L.ct δ' h σ' F' H' (e.trans e1) S⟩
def liftS (K : PySem.W.Frag) (r : DSt) : TS := fun D σ H => ∃ c F δ E, StOk K c F σ H δ ∧ r E δ ∧ Leads K c F E D

def sNext : DSt := fun E δ => E.nx δ
def sSeq (a b : DSt) : DSt := fun E δ => a { E with nx := fun δ1 => b E δ1 } δ
def sBreak : DSt := fun E δ => E.bk δ
def sCont : DSt := fun E δ => E.ct δ
def sDrop (r : DV) : DSt := fun E δ => r δ fun _ δ1 => E.nx δ1
def sRet (r : DV) : DSt := fun E δ => r δ fun w δ1 => match w with
  | .val d => E.rt (.v d) δ1
  | .slot _ => False
def sRetF (r : DF) : DSt := fun E δ => r δ fun ds δ1 => E.rt (.f ds) δ1
/-- an own list is handed out -/
def sRetM (i : Nat) : DSt := fun E δ => match sg δ i with
  | .own false (.lst ds) => E.rt (.f ds) (ss δ i .no)
  | _ => False
def sRetN : DSt := fun E δ => E.rt (.v .non) δ
def sIf (t : DT) (a b : DSt) : DSt := fun E δ => t δ fun k δ1 => brD (k = true) (bx (A := a E δ1) (B := b E δ1))
def sNever : DSt := fun _ _ => False
/-- name = data; name = a new list of its own -/
def sAsg (i : Nat) (r : DV) : DSt := fun E δ => r δ fun w δ1 => match w with
  | .val d => okSet δ1 i = true ∧ E.nx (ss δ1 i (.frz d))
  | .slot _ => False
def sAsgF (i : Nat) (r : DF) : DSt := fun E δ => r δ fun ds δ1 => okSet δ1 i = true ∧ E.nx (ss δ1 i (.own false (.lst ds)))

section
variable {X : Cx} {st : Stmt} {rest : List Stmt} {a b e : Expr} {es : List Expr} {ra rb rc : DV} {rs : DA} {pos : Pos} {s1 s2 : DSt} {t : DT} {K : PySem.W.Frag} {c : Ct} {F H F' H' : Hp} {σ : L2.St} {δ : DS}
theorem b_nil : PSs X [] (liftS X.K sNext) := pss_wk pss_nil fun D σ H ⟨c, F, δ, E, S, h, L⟩ => L.nx δ h σ F H (Same.refl _) S
theorem b_cons (h1 : PS X st (liftS X.K s1)) (h2 : PSs X rest (liftS X.K s2)) : PSs X (st :: rest) (liftS X.K (sSeq s1 s2)) := pss_wk (pss_cons h1 h2) fun D σ H ⟨c, F, δ, E, S, h, L⟩ =>
  ⟨c, F, δ, _, S, h, ⟨fun δ' h' σ' F' H' e1 S1 => ⟨c, F', δ', E, S1, h', L.mono e1⟩, L.rt, L.bk, L.ct⟩⟩
theorem b_one (h1 : PS X st (liftS X.K s1)) : PSs X [st] (liftS X.K s1) := pss_one h1
theorem s_pass : PS X (.Pass pos) (liftS X.K sNext) := ps_wk ps_pass fun D σ H ⟨c, F, δ, E, S, h, L⟩ => L.nx δ h σ F H (Same.refl _) S
theorem s_break : PS X (.Break pos) (liftS X.K sBreak) := ps_wk ps_break fun D σ H ⟨c, F, δ, E, S, h, L⟩ => L.bk δ h σ F H (Same.refl _) S
theorem s_cont : PS X (.Continue pos) (liftS X.K sCont) := ps_wk ps_continue fun D σ H ⟨c, F, δ, E, S, h, L⟩ => L.ct δ h σ F H (Same.refl _) S
theorem s_doc {x j pos pos'} : PS X (.Expr (.Constant (.str x) j pos) pos') (liftS X.K sNext) := ps_wk ps_doc fun D σ H ⟨c, F, δ, E, S, h, L⟩ => L.nx δ h σ F H (Same.refl _) S
theorem s_expr (he : PE X e (liftV X.K ra)) (hs : swapsWith e none pos.line X.env = pure false := by rfl) : PS X (.Expr e pos) (liftS X.K (sDrop ra)) := ps_wk (ps_expr he hs) fun D σ H ⟨c, F, δ, E, S, h, L⟩ =>
  ⟨c, F, δ, _, S, h, fun w δ1 h1 v F1 H1 e1 S1 r1 => L.nx _ h1 σ F1 H1 e1 S1⟩
theorem s_ret (he : PE X e (liftV X.K ra)) : PS X (.Return (some e) pos) (liftS X.K (sRet ra)) := ps_wk (ps_ret he) fun D σ H ⟨c, F, δ, E, S, h, L⟩ =>
  ⟨c, F, δ, _, S, h, fun w δ1 h1 v F1 H1 e1 S1 r1 => by
    cases w with
    | val d => exact L.rt _ _ h1 v σ F1 H1 e1 S1 r1
    | slot i => exact h1.elim⟩
theorem s_retF {r : DF} (he : PE X e (liftF X.K r)) : PS X (.Return (some e) pos) (liftS X.K (sRetF r)) := ps_wk (ps_ret he) fun D σ H ⟨c, F, δ, E, S, h, L⟩ =>
  ⟨c, F, δ, _, S, h, fun ds δ1 h1 p vs F1 H1 e1 S1 fr hp r1 => L.rt _ _ h1 _ σ F1 H1 e1 S1 ⟨p, vs, rfl, fr, hp, r1⟩⟩
theorem s_retM (i : Nat) {x : Str} {pos' : Pos} (h : PE X (.Name x pos') (tVar i)) : PS X (.Return (some (.Name x pos')) pos) (liftS X.K (sRetM i)) := ps_wk (ps_ret h) fun D σ H ⟨c, F, δ, E, S, h, L⟩ => by
  unfold sRetM at h
  cases q : sg δ i with
  | no => simp only [q] at h
  | frz d => simp only [q] at h
  | own io x =>
    cases io with
    | true => simp only [q] at h
    | false =>
      cases x with
      | dic _ => simp only [q] at h
      | dicT _ => simp only [q] at h
      | lst ds =>
        simp only [q] at h
        have hq := sg_at q (by intro z; cases z)
        obtain ⟨l, ho, h1, h2, h3, h4, vs, rfl, h5⟩ := S.own hq
        have n : notIo δ i := fun x e => by
          rw [hq] at e
          cases e
        have S1 := S.forget n
        rw [ss_eq] at h
        refine ⟨.ref l, h1, L.rt _ _ h _ σ F H (Same.refl _) S1 ⟨l, vs, rfl, ⟨h2, h3, fun j io x k1 k2 => ?_⟩, h4, h5⟩⟩
        rcases getset k1 with ⟨_, e⟩ | ⟨e, k1⟩
        · cases e
        · exact e (S.dis j i l _ _ _ _ k1 hq k2 h1)
theorem s_retN : PS X (.Return none pos) (liftS X.K sRetN) := ps_wk ps_retN fun D σ H ⟨c, F, δ, E, S, h, L⟩ => L.rt _ _ h _ σ F H (Same.refl _) S (by show Rep _ _ _ _; simp only [Rep])
theorem s_if {q : Expr} {x y : List Stmt} (hc : PT X q (liftT X.K t)) (ha : PSs X x (liftS X.K s1)) (hb : PSs X y (liftS X.K s2)) : PS X (.If q x y pos) (liftS X.K (sIf t s1 s2)) :=
  ps_wk (ps_if hc ha hb) fun D σ H ⟨c, F, δ, E, S, h, L⟩ => ⟨c, F, δ, _, S, h, fun b0 δ1 h1 F1 H1 e1 S1 => by
    cases b0 with
    | true =>
      replace h1 := h1.1 rfl
      simp only [if_true]
      exact ⟨c, F1, δ1, E, S1, h1, L.mono e1⟩
    | false =>
      replace h1 := h1.2 (by decide)
      simp only [if_false, Bool.false_eq_true]
      exact ⟨c, F1, δ1, E, S1, h1, L.mono e1⟩⟩
theorem s_never : PS X st (liftS X.K sNever) := ps_wk ps_never fun D σ H ⟨c, F, δ, E, S, h, L⟩ => h
theorem asg_sound {i : Nat} : ∀ D σ H, liftS X.K (sAsg i ra) D σ H → tAsg (liftV X.K ra) (gName i) D σ H := fun D σ H ⟨c, F, δ, E, S, h, L⟩ => ⟨c, F, δ, _, S, h, fun w δ1 h1 v F1 H1 e1 S1 r1 => by
  cases w with
  | slot j => exact h1.elim
  | val d =>
    obtain ⟨h2, h3⟩ := h1
    rw [ss_eq] at h3
    exact L.nx _ h3 _ F1 H1 e1 (S1.asg (okSet_io h2) r1)⟩
theorem asgF_sound {i : Nat} {r : DF} : ∀ D σ H, liftS X.K (sAsgF i r) D σ H → tAsg (liftF X.K r) (gName i) D σ H := fun D σ H ⟨c, F, δ, E, S, h, L⟩ => ⟨c, F, δ, _, S, h, fun ds δ1 h1 p vs F1 H1 e1 S1 fr hp r1 => by
  obtain ⟨h2, h3⟩ := h1
  rw [ss_eq] at h3
  exact L.nx _ h3 _ F1 H1 e1 (S1.asgO (okSet_io h2) fr hp ⟨vs, rfl, r1⟩)⟩

/-! ### targets -/
abbrev DG := D → DS → (DS → Prop) → Prop
abbrev DGs := List D → DS → (DS → Prop) → Prop
/-- vs: the slots that may be written -/
def Apart (σ σ' : L2.St) (vs : List Nat) : Prop := σ'.length = σ.length ∧ ∀ j, j ∉ vs → σ'[j]? = σ[j]?
def liftG (K : PySem.W.Frag) (vs : List Nat) (g : DG) : TG := fun v σ H Q => ∃ c F δ d P, StOk K c F σ H δ ∧ Rep K F d v ∧ g d δ P ∧ ∀ δ', P δ' → ∀ σ' F' H', Same F F' → StOk K c F' σ' H' δ' → Apart σ σ' vs → Q σ' H'
def liftGs (K : PySem.W.Frag) (vs : List Nat) (g : DGs) : TGs := fun us σ H Q => ∃ c F δ ds P, StOk K c F σ H δ ∧ Reps K F ds us ∧ g ds δ P ∧ ∀ δ', P δ' → ∀ σ' F' H', Same F F' → StOk K c F' σ' H' δ' → Apart σ σ' vs → Q σ' H'
def dName (i : Nat) : DG := fun d δ Q => okSet δ i = true ∧ Q (ss δ i (.frz d))
def dNil : DGs := fun ds δ Q => match ds with
  | [] => Q δ
  | _ => False
def dCons (g : DG) (gs : DGs) : DGs := fun ds δ Q => match ds with
  | d :: ds => g d δ fun δ1 => gs ds δ1 Q
  | [] => False
def dTup (n : Nat) (gs : DGs) : DG := fun d δ Q => match d with
  | .tup ds => ds.length = n ∧ gs ds δ Q
  | _ => False
theorem Apart.trans {σ σ1 σ2 : L2.St} {vs ws : List Nat} (h1 : Apart σ σ1 vs) (h2 : Apart σ1 σ2 ws) : Apart σ σ2 (vs ++ ws) :=
  ⟨h2.1.trans h1.1, fun j hj => (h2.2 j fun z => hj (List.mem_append_right _ z)).trans (h1.2 j fun z => hj (List.mem_append_left _ z))⟩
theorem Apart.rfl {σ : L2.St} {vs : List Nat} : Apart σ σ vs := ⟨Eq.refl _, fun _ _ => Eq.refl _⟩
theorem pg_wk {tg : Expr} {g g' : TG} (h : PG X tg g) (w : ∀ v σ H Q, g' v σ H Q → g v σ H Q) : PG X tg g' := ⟨fun pins s σ H v u Q I r q => h.run pins s σ H v u Q I r (w v σ H Q q)⟩
theorem pgs_wk {tg : List Expr} {g g' : TGs} (h : PGs X tg g) (w : ∀ v σ H Q, g' v σ H Q → g v σ H Q) : PGs X tg g' := ⟨fun pins s σ H v u Q I r q => h.run pins s σ H v u Q I r (w v σ H Q q)⟩
theorem g_name {i : Nat} {tg : Expr} (h : PG X tg (gName i)) : PG X tg (liftG X.K [i] (dName i)) := pg_wk h fun v σ H Q ⟨c, F, δ, d, P, S, r, h, k⟩ => by
  obtain ⟨h1, h2⟩ := h
  rw [ss_eq] at h2
  refine k _ h2 _ F H (Same.refl _) (S.asg (okSet_io h1) r) ⟨by rw [List.length_set], fun j hj => ?_⟩
  rw [List.getElem?_set_ne]
  intro z
  exact hj (by rw [z]; exact List.mem_singleton_self _)
theorem g_nil : PGs X [] (liftGs X.K [] dNil) := pgs_wk pgs_nil fun us σ H Q ⟨c, F, δ, ds, P, S, r, h, k⟩ => by
  cases ds with
  | nil => exact ⟨r.unnil, k _ h σ F H (Same.refl _) S .rfl⟩
  | cons _ _ => exact h.elim
theorem g_cons {vs ws : List Nat} {g : DG} {gs : DGs} (h1 : PG X e (liftG X.K vs g)) (h2 : PGs X es (liftGs X.K ws gs)) (hs : (assignEach (e :: es) X.env).map (·.2) = assign e X.env :: (assignEach es X.env).map (·.2) := by rfl) :
    PGs X (e :: es) (liftGs X.K (vs ++ ws) (dCons g gs)) := pgs_wk (pgs_cons h1 h2 hs) fun us σ H Q ⟨c, F, δ, ds, P, S, r, h, k⟩ => by
  cases ds with
  | nil => exact h.elim
  | cons d ds =>
    obtain ⟨v, ws, rfl, r1, r2⟩ := r.uncons
    exact ⟨v, ws, rfl, c, F, δ, d, _, S, r1, h, fun δ1 h1 σ1 F1 H1 e1 S1 a1 => ⟨c, F1, δ1, ds, P, S1, Reps.mono e1 _ _ r2, h1, fun δ2 h2 σ2 F2 H2 e2 S2 a2 => k _ h2 σ2 F2 H2 (e1.trans e2) S2 (a1.trans a2)⟩⟩
theorem g_tup {vs : List Nat} {gs : DGs} {k : Nat} {n : Nat} (hc : X.calm = true) (h : PGs X es (liftGs X.K vs gs)) (hn : (assignEach es X.env).length = n := by rfl) (hst : (assignEach es X.env).findIdx? (·.1) = none := by rfl) :
    PG X (.Tuple es k pos) (liftG X.K vs (dTup n gs)) := pg_wk (pg_tup hc h hn hst) fun v σ H Q ⟨c, F, δ, d, P, S, r, h, k⟩ => by
  cases d with
  | tup ds =>
    simp only [Rep] at r
    obtain ⟨a, us, rfl, r1, r2⟩ := r
    exact ⟨a, us, rfl, same_t S.sub r1, by rw [r2.len]; exact h.1, c, F, δ, ds, P, S, r2, h.2, k⟩
  | _ => exact h.elim
/-- target = data -/
def sTgt (r : DV) (g : DG) : DSt := fun E δ => r δ fun w δ1 => match w with
  | .val d => g d δ1 E.nx
  | .slot _ => False
theorem tgt_sound {vs : List Nat} {g : DG} : ∀ D σ H, liftS X.K (sTgt ra g) D σ H → tAsg (liftV X.K ra) (liftG X.K vs g) D σ H := fun D σ H ⟨c, F, δ, E, S, h, L⟩ => ⟨c, F, δ, _, S, h, fun w δ1 h1 v F1 H1 e1 S1 r1 => by
  cases w with
  | slot j => exact h1.elim
  | val d => exact ⟨c, F1, δ1, d, _, S1, r1, h1, fun δ2 h2 σ2 F2 H2 e2 S2 _ => L.nx _ h2 _ F2 H2 (e1.trans e2) S2⟩⟩

/-! ### what is walked -/
abbrev DI := DS → (List D → DS → Prop) → Prop
structure SrcOk (K : PySem.W.Frag) (c : Ct) (J : It) (F0 : Hp) (items : List D) : Prop where
  stop : ∀ F σ H δ, Same F0 F → StOk K c F σ H δ → J.stop items.length H
  go : ∀ i F σ H δ, i < items.length → Same F0 F → StOk K c F σ H δ → J.go i H
  yld : ∀ i d F σ H δ x H', items[i]? = some d → Same F0 F → StOk K c F σ H δ → J.yld i H x H' → ∃ F', Same F F' ∧ StOk K c F' σ H' δ ∧ Rep K F' d x ∧ ∀ p o, Free c F σ δ p → H p = some o → Free c F' σ δ p ∧ H' p = some o
def liftI (K : PySem.W.Frag) (r : DI) : TI := fun σ H R => ∃ c F δ P, StOk K c F σ H δ ∧ r δ P ∧ ∀ items δ', P items δ' → ∀ J F' H', Same F F' → StOk K c F' σ H' δ' → SrcOk K c J F' items → R J H'
theorem pi_wk {tg iter : Expr} {w w' : TI} (h : PI X tg iter w) (k : ∀ σ H R, w' σ H R → w σ H R) : PI X tg iter w' := ⟨fun pins s σ H R I q => h.run pins s σ H R I (k σ H R q)⟩
theorem src_list {a : Addr} {F0 : Hp} {ds : List D} {vs : List V} (h : F0 a = some (.lst vs)) (r : Reps K F0 ds vs) : SrcOk K c (Itl K a) F0 ds := by
  have at' : ∀ {F σ H δ}, Same F0 F → StOk K c F σ H δ → H a = some (.lst vs) := fun e S => S.sub _ _ (e _ _ h)
  refine ⟨fun F σ H δ e S => ⟨vs, SqL.of (at' e S), by rw [r.len]; exact Nat.le_refl _⟩, fun i F σ H δ hi e S => ?_, fun i d F σ H δ x H' hi e S y => ?_⟩
  · have hi' : i < vs.length := by rw [r.len]; exact hi
    exact ⟨vs, vs[i], SqL.of (at' e S), List.getElem?_eq_getElem hi'⟩
  · obtain ⟨e1, y⟩ := y
    subst e1
    obtain ⟨v, h1, h2⟩ := r.get hi
    have h3 := y vs (SqL.of (at' e S))
    rw [h1] at h3
    cases h3
    exact ⟨F, Same.refl _, S, Rep.mono e _ _ h2, fun p o f hp => ⟨f, hp⟩⟩
theorem src_rol {a : Addr} {F0 : Hp} {ds : List D} {vs : List V} (h : SqL K F0 a vs) (r : Reps K F0 ds vs) : SrcOk K c (Itl K a) F0 ds := by
  have at' : ∀ {F σ H δ}, Same F0 F → StOk K c F σ H δ → SqL K H a vs := fun e S => same_l S.sub (same_l e h)
  refine ⟨fun F σ H δ e S => ⟨vs, (at' e S), by rw [r.len]; exact Nat.le_refl _⟩, fun i F σ H δ hi e S => ?_, fun i d F σ H δ x H' hi e S y => ?_⟩
  · have hi' : i < vs.length := by rw [r.len]; exact hi
    exact ⟨vs, vs[i], (at' e S), List.getElem?_eq_getElem hi'⟩
  · obtain ⟨e1, y⟩ := y
    subst e1
    obtain ⟨v, h1, h2⟩ := r.get hi
    have h3 := y vs (at' e S)
    rw [h1] at h3
    cases h3
    exact ⟨F, Same.refl _, S, Rep.mono e _ _ h2, fun p o f hp => ⟨f, hp⟩⟩
theorem src_tup {a : Addr} {F0 : Hp} {ds : List D} {vs : List V} (h : SqT K F0 a vs) (r : Reps K F0 ds vs) : SrcOk K c (Itt K a) F0 ds := by
  have at' : ∀ {F σ H δ}, Same F0 F → StOk K c F σ H δ → SqT K H a vs := fun e S => same_t S.sub (same_t e h)
  refine ⟨fun F σ H δ e S => ⟨vs, (at' e S), by rw [r.len]; exact Nat.le_refl _⟩, fun i F σ H δ hi e S => ?_, fun i d F σ H δ x H' hi e S y => ?_⟩
  · have hi' : i < vs.length := by rw [r.len]; exact hi
    exact ⟨vs, vs[i], (at' e S), List.getElem?_eq_getElem hi'⟩
  · obtain ⟨e1, y⟩ := y
    subst e1
    obtain ⟨v, h1, h2⟩ := r.get hi
    have h3 := y vs (at' e S)
    rw [h1] at h3
    cases h3
    exact ⟨F, Same.refl _, S, Rep.mono e _ _ h2, fun p o f hp => ⟨f, hp⟩⟩
def rngD (lo hi : Int) : List D := (List.range (hi - lo).toNat).map fun (k : Nat) => .int (lo + (k : Int))
theorem rngD_len (lo hi : Int) : (rngD lo hi).length = (hi - lo).toNat := by unfold rngD; rw [List.length_map, List.length_range]
theorem src_rng {lo up : Int} {F0 : Hp} : SrcOk K c (Itr lo (up - lo).toNat) F0 (rngD lo up) := by
  refine ⟨fun F σ H δ e S => by rw [rngD_len]; exact Nat.le_refl _, fun i F σ H δ hi e S => by rw [rngD_len] at hi; exact hi, fun i d F σ H δ x H' hi e S y => ?_⟩
  obtain ⟨e1, y⟩ := y
  subst e1 y
  refine ⟨F, Same.refl _, S, ?_, fun p o f hp => ⟨f, hp⟩⟩
  have hl : i < (rngD lo up).length := (List.getElem?_eq_some_iff.mp hi).1
  have e2 : (rngD lo up)[i]? = some (.int (lo + (i : Int))) := by
    unfold rngD at hl ⊢
    rw [List.length_map, List.length_range] at hl
    rw [List.getElem?_map, List.getElem?_range hl]
    rfl
  rw [e2] at hi
  cases hi
  simp only [Rep]
/-- over data: a list, a tuple -/
def iData (r : DV) : DI := fun δ Q => r δ fun w δ1 => match w with
  | .val (.lst ds) => Q ds δ1
  | .val (.rol ds) => Q ds δ1
  | _ => False
def iTupD (r : DV) : DI := fun δ Q => r δ fun w δ1 => match w with
  | .val (.tup ds) => Q ds δ1
  | _ => False
def iRng1D (r : DA) : DI := fun δ Q => r δ fun ws δ1 => match ws with
  | [.val (.int n)] => (-(2 ^ 62) ≤ n ∧ n < 2 ^ 62) ∧ Q (rngD 0 n) δ1
  | _ => False
def iRng2D (r : DA) : DI := fun δ Q => r δ fun ws δ1 => match ws with
  | [.val (.int m), .val (.int n)] => (-(2 ^ 62) ≤ m ∧ m < 2 ^ 62 ∧ -(2 ^ 62) ≤ n ∧ n < 2 ^ 62) ∧ Q (rngD m n) δ1
  | _ => False
theorem i_list {tg : Expr} (h : PE X e (liftV X.K ra)) : PI X tg e (liftI X.K (iData ra)) := pi_wk (pi_list h) fun σ H R ⟨c, F, δ, P, S, h, k⟩ => ⟨c, F, δ, _, S, h, fun w δ1 h1 v F1 H1 e1 S1 r1 => by
  cases w with
  | slot i => exact h1.elim
  | val d =>
    cases d with
    | lst ds =>
      have r : Rep X.K F1 (.lst ds) v := r1
      simp only [Rep] at r
      obtain ⟨a, vs, rfl, g1, g2⟩ := r
      exact ⟨a, rfl, ⟨vs, SqL.of (S1.sub _ _ g1)⟩, k _ _ h1 _ F1 H1 e1 S1 (src_list g1 g2)⟩
    | rol ds =>
      have r : Rep X.K F1 (.rol ds) v := r1
      simp only [Rep] at r
      obtain ⟨a, vs, rfl, g1, g2⟩ := r
      exact ⟨a, rfl, ⟨vs, same_l S1.sub g1⟩, k _ _ h1 _ F1 H1 e1 S1 (src_rol g1 g2)⟩
    | _ => exact h1.elim⟩
theorem i_tup {tg : Expr} (h : PE X e (liftV X.K ra)) : PI X tg e (liftI X.K (iTupD ra)) := pi_wk (pi_tup h) fun σ H R ⟨c, F, δ, P, S, h, k⟩ => ⟨c, F, δ, _, S, h, fun w δ1 h1 v F1 H1 e1 S1 r1 => by
  cases w with
  | slot i => exact h1.elim
  | val d =>
    cases d with
    | tup ds =>
      have r : Rep X.K F1 (.tup ds) v := r1
      simp only [Rep] at r
      obtain ⟨a, vs, rfl, g1, g2⟩ := r
      exact ⟨a, rfl, ⟨vs, same_t S1.sub g1⟩, k _ _ h1 _ F1 H1 e1 S1 (src_tup g1 g2)⟩
    | _ => exact h1.elim⟩
theorem int_of {F : Hp} {σ : L2.St} {v : V} {i : Int} (hv : VwRel X.K F σ (.val (.int i)) v) : v = .int i := by simpa only [VwRel, Rep] using hv
theorem i_rng1 {a : Expr} {rs : DA} {tg : Expr} {p pos : Pos} (hg : Gl X "range") (hm : X.mg "range" = none) (ha : PA X [a] (liftA X.K rs)) (hs : starEach [a] X.env = [(false, eval a X.env)] := by rfl) :
    PI X tg (.Call (.Name "range" p) [a] [] pos) (liftI X.K (iRng1D rs)) := pi_wk (pi_range1 hg hm ha hs) fun σ H R ⟨c, F, δ, P, S, h, k⟩ => ⟨c, F, δ, _, S, h, fun ws δ1 h1 vs F1 H1 e1 S1 r1 => by
  match ws, h1, r1 with
  | [.val (.int n)], h1, r1 =>
    obtain ⟨v, us, rfl, g1, g2⟩ := r1
    have e2 : us = [] := g2
    subst e2
    rw [int_of g1]
    refine ⟨n, rfl, h1.1.1, h1.1.2, ?_⟩
    have z := k _ _ h1.2 (Itr 0 (n - 0).toNat) F1 H1 e1 S1 src_rng
    rw [Int.sub_zero] at z
    exact z⟩
theorem i_rng2 {a b : Expr} {rs : DA} {tg : Expr} {p pos : Pos} (hg : Gl X "range") (hm : X.mg "range" = none) (ha : PA X [a, b] (liftA X.K rs)) (hs : starEach [a, b] X.env = [(false, eval a X.env), (false, eval b X.env)] := by rfl) (hs2 : starEach [b] X.env = [(false, eval b X.env)] := by rfl) :
    PI X tg (.Call (.Name "range" p) [a, b] [] pos) (liftI X.K (iRng2D rs)) := pi_wk (pi_range2 hg hm ha hs hs2) fun σ H R ⟨c, F, δ, P, S, h, k⟩ => ⟨c, F, δ, _, S, h, fun ws δ1 h1 vs F1 H1 e1 S1 r1 => by
  match ws, h1, r1 with
  | [.val (.int m), .val (.int n)], h1, r1 =>
    obtain ⟨v, us, rfl, g1, v2, us2, rfl, g2, g3⟩ := r1
    have e2 : us2 = [] := g3
    subst e2
    rw [int_of g1, int_of g2]
    exact ⟨m, n, rfl, h1.1, k _ _ h1.2 (Itr m (n - m).toNat) F1 H1 e1 S1 src_rng⟩⟩

/-! ### for -/
def rLoop (g : DG) (body : DSt) (E : DE) : List D → DS → Prop
  | [], δ => E.nx δ
  | d :: ds, δ => g d δ fun δ1 => body { nx := rLoop g body E ds, rt := E.rt, bk := E.nx, ct := rLoop g body E ds } δ1
inductive BoxL (f : List D → DS → Prop) : Type where
  | mk
/-- a loop over these items -/
def loopD (items : List D) (δ : DS) {f : List D → DS → Prop} (_ : BoxL f) : Prop := f items δ
def sFor (rs : DI) (g : DG) (body : DSt) : DSt := fun E δ => rs δ fun items δ1 => loopD items δ1 (BoxL.mk : BoxL (rLoop g body E))
theorem s_for {tg iter : Expr} {body : List Stmt} {rs : DI} {vs : List Nat} {g : DG} {rb : DSt} (hp : PassesOwn (model X.prog X.w) X.A X.env X.xe) (hc : X.calm = true) (hi : PI X tg iter (liftI X.K rs)) (hg : PG X tg (liftG X.K vs g)) (hb : PSs X body (liftS X.K rb))
    (hs : ∀ x, foldedSetIterable iter X.env x = pure x := by intro _; rfl) : PS X (.For tg iter body [] pos) (liftS X.K (sFor rs g rb)) := ps_wk (ps_for hp hc hi hg hb hs) fun D σ H ⟨c, F, δ, E, S, h, L⟩ => by
  refine ⟨c, F, δ, _, S, h, fun items δ' hP J F' H' e' S' so => ?_⟩
  refine ⟨fun i m σ H => m = items.length - i ∧ i ≤ items.length ∧ ∃ F2 δ2, Same F' F2 ∧ StOk X.K c F2 σ H δ2 ∧ rLoop g rb E (items.drop i) δ2, ⟨_, rfl, Nat.zero_le _, F', δ', Same.refl _, S', hP⟩, ?_⟩
  rintro i m σ2 H2 ⟨rfl, hi, F2, δ2, e2, S2, q⟩
  by_cases hlt : i < items.length
  · have hd : items.drop i = items[i] :: items.drop (i + 1) := List.drop_eq_getElem_cons hlt
    rw [hd] at q
    refine Or.inr ⟨so.go i F2 σ2 H2 δ2 hlt e2 S2, fun σ' H' => ∃ F3 δ3, Same F' F3 ∧ StOk X.K c F3 σ' H' δ3 ∧ rLoop g rb E (items.drop (i + 1)) δ3, fun σ' H' ⟨F3, δ3, e3, S3, q3⟩ => ⟨items.length - (i + 1), by omega, rfl, hlt, F3, δ3, e3, S3, q3⟩, fun x H3 y => ?_⟩
    obtain ⟨F3, e3, S3, r3, _⟩ := so.yld i items[i] F2 σ2 H2 δ2 x H3 (List.getElem?_eq_getElem hlt) e2 S2 y
    refine ⟨c, F3, δ2, items[i], _, S3, r3, q, fun δ4 h4 σ4 F4 H4 e4 S4 _ => ⟨c, F4, δ4, _, S4, h4, ?_⟩⟩
    have base : Same F' F4 := (e2.trans e3).trans e4
    exact ⟨fun δ5 h5 σ5 F5 H5 e5 S5 => ⟨F5, δ5, base.trans e5, S5, h5⟩, fun r δ5 h5 v σ5 F5 H5 e5 S5 r5 => L.rt r δ5 h5 v σ5 F5 H5 ((e'.trans base).trans e5) S5 r5,
      fun δ5 h5 σ5 F5 H5 e5 S5 => L.nx δ5 h5 σ5 F5 H5 ((e'.trans base).trans e5) S5, fun δ5 h5 σ5 F5 H5 e5 S5 => ⟨F5, δ5, base.trans e5, S5, h5⟩⟩
  · have hi' : i = items.length := by omega
    subst hi'
    rw [List.drop_length] at q
    exact Or.inl ⟨so.stop F2 σ2 H2 δ2 e2 S2, L.nx _ q σ2 F2 H2 (e'.trans e2) S2⟩

/-! ### while -/
def rWhile (t : DT) (body : DSt) (E : DE) : Nat → DS → Prop
  | 0, _ => False
  | n + 1, δ => t δ fun k δ1 => brD (k = true) (bx (A := body { nx := rWhile t body E n, rt := E.rt, bk := E.nx, ct := rWhile t body E n } δ1) (B := E.nx δ1))
def whileD (δ : DS) {f : List D → DS → Prop} (_ : BoxL f) : Prop := f [] δ
def sWhile (t : DT) (body : DSt) : DSt := fun E δ => whileD δ (BoxL.mk : BoxL (fun _ δ => ∃ n, rWhile t body E n δ))
theorem s_while {q : Expr} {body : List Stmt} {rb : DSt} (hp : PassesOwn (model X.prog X.w) X.A X.env X.xe) (hc : PT X q (liftT X.K t)) (hb : PSs X body (liftS X.K rb)) : PS X (.While q body [] pos) (liftS X.K (sWhile t rb)) := ps_wk (ps_while hp hc hb) fun D σ H ⟨c, F, δ, E, S, ⟨n, h⟩, L⟩ => by
  refine ⟨fun m σ H => ∃ F2 δ2, Same F F2 ∧ StOk X.K c F2 σ H δ2 ∧ rWhile t rb E m δ2, ⟨n, F, δ, Same.refl _, S, h⟩, ?_⟩
  rintro m σ2 H2 ⟨F2, δ2, e2, S2, q2⟩
  cases m with
  | zero => exact q2.elim
  | succ m =>
    refine ⟨c, F2, δ2, _, S2, q2, fun k δ3 h3 F3 H3 e3 S3 => ?_⟩
    cases k with
    | false =>
      replace h3 := h3.2 (by decide)
      simp only [if_false, Bool.false_eq_true]
      exact L.nx _ h3 _ F3 H3 (e2.trans e3) S3
    | true =>
      replace h3 := h3.1 rfl
      simp only [if_true]
      have base : Same F F3 := e2.trans e3
      exact ⟨fun σ' H' => ∃ F4 δ4, Same F F4 ∧ StOk X.K c F4 σ' H' δ4 ∧ rWhile t rb E m δ4, fun σ' H' ⟨F4, δ4, e4, S4, q4⟩ => ⟨m, Nat.lt_succ_self m, F4, δ4, e4, S4, q4⟩, c, F3, δ3, _, S3, h3,
        ⟨fun δ5 h5 σ5 F5 H5 e5 S5 => ⟨F5, δ5, base.trans e5, S5, h5⟩, fun r δ5 h5 v σ5 F5 H5 e5 S5 r5 => L.rt r δ5 h5 v σ5 F5 H5 (base.trans e5) S5 r5,
          fun δ5 h5 σ5 F5 H5 e5 S5 => L.nx δ5 h5 σ5 F5 H5 (base.trans e5) S5, fun δ5 h5 σ5 F5 H5 e5 S5 => ⟨F5, δ5, base.trans e5, S5, h5⟩⟩⟩
end
end Dl

/-! Dl: comprehensions, calls of the text's own defs, a def's promise at the level of data. -/
namespace Dl
open PySem L2

/-! ### comprehensions -/
theorem wipe_out' {σ : L2.St} {i : Nat} : ∀ {vs : List Nat}, i ∉ vs → (wipe σ vs)[i]? = σ[i]?
  | [], _ => rfl
  | v :: vs, h => by
    simp only [List.mem_cons, not_or] at h
    unfold wipe
    rw [List.getElem?_set_ne (fun z => h.1 z.symm)]
    exact wipe_out' h.2
theorem wipe_in {σ : L2.St} {i : Nat} : ∀ {vs : List Nat}, i ∈ vs → ∀ o, (wipe σ vs)[i]? = some o → o = none
  | [], h, _, _ => by cases h
  | v :: vs, h, o, e => by
    unfold wipe at e
    rcases getset e with ⟨_, e1⟩ | ⟨e1, e2⟩
    · exact e1
    · rcases List.mem_cons.mp h with z | z
      · exact absurd z e1
      · exact wipe_in z o e2
theorem wipe_eq {σ σ' : L2.St} {vs : List Nat} (a : Apart (wipe σ vs) σ' vs) : wipe σ' vs = wipe σ vs := by
  have hl : σ'.length = σ.length := by rw [a.1, wipe_length]
  refine List.ext_getElem? fun j => ?_
  by_cases hj : j ∈ vs
  · by_cases hlt : j < σ.length
    · have h1 : j < (wipe σ' vs).length := by rw [wipe_length, hl]; exact hlt
      have h2 : j < (wipe σ vs).length := by rw [wipe_length]; exact hlt
      rw [List.getElem?_eq_getElem h1, List.getElem?_eq_getElem h2, wipe_in hj _ (List.getElem?_eq_getElem h1), wipe_in hj _ (List.getElem?_eq_getElem h2)]
    · rw [List.getElem?_eq_none (by rw [wipe_length, hl]; omega), List.getElem?_eq_none (by rw [wipe_length]; omega)]
  · rw [wipe_out' hj, a.2 j hj]
/-- the block's own names are forgotten -/
def dWipe (δ : DS) : List Nat → DS
  | [] => δ
  | v :: vs => ss (dWipe δ vs) v .no
def okWipe (δ : DS) : List Nat → Bool
  | [] => true
  | v :: vs => okSet (dWipe δ vs) v && okWipe δ vs
section
variable {K : PySem.W.Frag} {c : Ct} {F H F' H' : Hp} {σ σ' : L2.St} {δ : DS}
theorem StOk.wipe : ∀ {vs : List Nat}, StOk K c F σ H δ → okWipe δ vs = true → StOk K c F σ H (dWipe δ vs)
  | [], S, _ => S
  | v :: vs, S, h => by
    unfold okWipe at h
    rw [Bool.and_eq_true] at h
    unfold dWipe
    rw [ss_eq]
    exact (StOk.wipe S h.2).forget (okSet_io h.1)
theorem dWipe_in : ∀ {vs : List Nat} {j : Nat} {s : Sl}, j ∈ vs → (dWipe δ vs)[j]? = some s → s = .no
  | [], _, _, h, _ => by cases h
  | v :: vs, j, s, h, e => by
    unfold dWipe at e
    rw [ss_eq] at e
    rcases getset e with ⟨_, e1⟩ | ⟨e1, e2⟩
    · exact e1
    · rcases List.mem_cons.mp h with z | z
      · exact absurd z e1
      · exact dWipe_in z e2
/-- the names outside are the same ones -/
theorem StOk.move {vs : List Nat} (S : StOk K c F σ H (dWipe δ vs)) (a : Apart σ σ' vs) : StOk K c F σ' H (dWipe δ vs) := by
  refine ⟨S.sub0, S.sub, S.fz, by rw [a.1]; exact S.len, fun i s o h1 h2 => ?_, fun i j l io x io' x' h1 h2 h3 h4 => ?_, fun p hp => ?_, S.tt, S.tz⟩
  · by_cases hi : i ∈ vs
    · rw [dWipe_in hi h1]
      trivial
    · rw [a.2 i hi] at h2
      exact S.sl i s o h1 h2
  · have hi : i ∉ vs := fun z => by cases dWipe_in z h1
    have hj : j ∉ vs := fun z => by cases dWipe_in z h2
    rw [a.2 i hi] at h3
    rw [a.2 j hj] at h4
    exact S.dis i j l io x io' x' h1 h2 h3 h4
  · obtain ⟨⟨x, h1⟩, h2⟩ := S.io p hp
    have hi : p.1 ∉ vs := fun z => by cases dWipe_in z h1
    exact ⟨⟨x, h1⟩, by rw [a.2 _ hi]; exact h2⟩
theorem Free.move {vs : List Nat} {p : Addr} (f : Free c F σ (dWipe δ vs) p) (a : Apart σ σ' vs) : Free c F σ' (dWipe δ vs) p := ⟨f.f, f.z, fun i io x h1 h2 => by
  have hi : i ∉ vs := fun z => by cases dWipe_in z h1
  rw [a.2 i hi] at h2
  exact f.o i io x h1 h2⟩
theorem Free.wipe {vs : List Nat} {p : Addr} (f : Free c F σ δ p) : Free c F σ (dWipe δ vs) p := ⟨f.f, f.z, fun i io x h1 h2 => by
  have : ∀ {vs : List Nat}, (dWipe δ vs)[i]? = some (.own io x) → δ[i]? = some (.own io x) := fun {vs} => by
    induction vs with
    | nil => exact id
    | cons v vs ih =>
      intro e
      unfold dWipe at e
      rw [ss_eq] at e
      rcases getset e with ⟨_, e1⟩ | ⟨_, e2⟩
      · cases e1
      · exact ih e2
  exact f.o i io x (this h1) h2⟩
/-- one more foreign object -/
def Ct.with (c : Ct) (p : Addr) (o : HO) : Ct := { c with Z := upd c.Z p o }
theorem StOk.guard (S : StOk K c F σ H δ) {p : Addr} {o : HO} (f : Free c F σ δ p) (h : H p = some o) (n : NT o := by trivial) : StOk K (c.with p o) F σ H δ := by
  refine ⟨S.sub0, S.sub, fun a u e => ?_, S.len, fun i s q h1 h2 => ?_, S.dis, S.io, S.tt, fun q hq => ?_⟩
  · by_cases ha : a = p
    · subst ha
      have e' : upd c.Z a o a = some u := e
      rw [upd_same] at e'
      cases e'
      exact ⟨h, f.f⟩
    · have e' : upd c.Z p o a = some u := e
      rw [upd_ne ha] at e'
      exact S.fz a u e'
  · have q0 := S.sl i s q h1 h2
    cases s with
    | no => trivial
    | frz d => exact q0
    | own io x =>
      obtain ⟨l, ho, k1, k2, k3, k4, k5⟩ := q0
      refine ⟨l, ho, k1, k2, ?_, k4, k5⟩
      show upd c.Z p o l = none
      rw [upd_ne fun z => f.o i io x h1 (by rw [h2, k1, z])]
      exact k3
  · show upd c.Z p o q.1 = none
    rw [upd_ne fun e => S.tt.nt hq (by rw [e]; exact h) n]
    exact S.tz q hq
theorem StOk.unguard {p : Addr} {o : HO} (hz : c.Z p = none) (S : StOk K (c.with p o) F σ H δ) : StOk K c F σ H δ ∧ Free c F σ δ p ∧ H p = some o := by
  obtain ⟨h1, h2⟩ := S.fz p o upd_same
  have hne : ∀ a u, c.Z a = some u → a ≠ p := fun a u e z => by
    subst z
    rw [hz] at e
    cases e
  refine ⟨⟨S.sub0, S.sub, fun a u e => S.fz a u (by show upd c.Z p o a = some u; rw [upd_ne (hne a u e)]; exact e), S.len, fun i s q k1 k2 => ?_, S.dis, S.io, S.tt, fun q hq => ?_⟩, ⟨h2, hz, fun i io x k1 k2 => ?_⟩, h1⟩
  · have q0 := S.sl i s q k1 k2
    cases s with
    | no => trivial
    | frz d => exact q0
    | own io x =>
      obtain ⟨l, ho, m1, m2, m3, m4, m5⟩ := q0
      refine ⟨l, ho, m1, m2, ?_, m4, m5⟩
      have m3' : upd c.Z p o l = none := m3
      by_cases hl : l = p
      · rw [hl]
        exact hz
      · rw [upd_ne hl] at m3'
        exact m3'
  · have z : upd c.Z p o q.1 = none := S.tz q hq
    by_cases e : q.1 = p
    · rw [e]
      exact hz
    · rw [upd_ne e] at z
      exact z
  · obtain ⟨l, ho, m1, m2, m3, m4, m5⟩ := S.sl i _ _ k1 k2
    cases m1
    have m3' : upd c.Z p o p = none := m3
    rw [upd_same] at m3'
    cases m3'
theorem StOk.updFree (S : StOk K c F σ H δ) {p : Addr} {o ho : HO} (f : Free c F σ δ p) (h : H p = some ho) (n : NT ho := by trivial) : StOk K c F σ (upd H p o) δ := by
  have hn : ∀ {a u}, F a = some u → a ≠ p := fun e => ne_of_none e f.f
  have hz : ∀ {a u}, c.Z a = some u → a ≠ p := fun e => ne_of_none e f.z
  refine ⟨S.sub0, fun a u e => by rw [upd_ne (hn e)]; exact S.sub a u e, fun a u e => by rw [upd_ne (hz e)]; exact S.fz a u e, S.len, fun i s q h1 h2 => ?_, S.dis, S.io, S.tt.put h n, S.tz⟩
  have q0 := S.sl i s q h1 h2
  cases s with
  | no => trivial
  | frz d => exact q0
  | own io x =>
    obtain ⟨l, ho, k1, k2, k3, k4, k5⟩ := q0
    refine ⟨l, ho, k1, k2, k3, ?_, k5⟩
    rw [upd_ne fun z => f.o i io x h1 (by rw [h2, k1, z])]
    exact k4
theorem Free.grow {F1 : Hp} {p : Addr} (f : Free c F σ δ p) (h : F1 p = none) : Free c F1 σ δ p := ⟨h, f.z, f.o⟩
end
def compGo (g : DG) (t : DT) (e : DV) (vs : List Nat) (Q : List D → DS → Prop) : List D → List D → DS → Prop
  | [], acc, δ => Q acc δ
  | d :: ds, acc, δ => g d δ fun δ1 => t δ1 fun b δ2 => brD (b = true) (bx (A := e δ2 fun w δ3 => match w with
      | .val y => acc.length < 16777216 ∧ okWipe δ3 vs = true ∧ compGo g t e vs Q ds (acc ++ [y]) (dWipe δ3 vs)
      | .slot _ => False) (B := okWipe δ2 vs = true ∧ compGo g t e vs Q ds acc (dWipe δ2 vs)))
def rComp (vs : List Nat) (rs : DI) (g : DG) (t : DT) (e : DV) : DF := fun δ Q => rs δ fun items δ1 => okWipe δ1 vs = true ∧ loopD items (dWipe δ1 vs) (BoxL.mk : BoxL fun items δ => compGo g t e vs (fun acc δ2 => okWipe δ2 vs = true ∧ Q acc (dWipe δ2 vs)) items [] δ)
def rYes : DT := fun δ Q => Q true δ
theorem apart_wipe {σ : L2.St} {vs : List Nat} : Apart σ (wipe σ vs) vs := ⟨wipe_length _ _, fun _ hj => wipe_out' hj⟩
theorem Apart.sym {σ σ' : L2.St} {vs : List Nat} (a : Apart σ σ' vs) : Apart σ' σ vs := ⟨a.1.symm, fun j hj => (a.2 j hj).symm⟩
theorem comp_sound {K : PySem.W.Frag} {rs : DI} {vs gv : List Nat} {g : DG} {t : DT} {e : DV} (hgv : ∀ j ∈ gv, j ∈ vs) : ∀ σ H Q, liftF K (rComp vs rs g t e) σ H Q → tLc (liftI K rs) (liftG K gv g) (liftT K t) (liftV K e) vs σ H Q := fun σ H Q ⟨c, F, δ, P, S, h, k⟩ => by
  refine ⟨c, F, δ, _, S, h, fun items δ' hP J F' H' e' S' so Dl hD => ?_⟩
  obtain ⟨ok0, hP⟩ := hP
  have S0 := (S'.wipe ok0).move (σ' := wipe σ vs) apart_wipe
  obtain ⟨S1, f1⟩ := S0.fresh (o := .lst []) hD
  refine ⟨fun i m H => m = items.length - i ∧ i ≤ items.length ∧ ∃ F2 δ2 acc us, Same F' F2 ∧ StOk K c F2 (wipe σ vs) H δ2 ∧ Free c F2 (wipe σ vs) δ2 Dl ∧ H Dl = some (.lst us) ∧ Reps K F2 acc us ∧
      compGo g t e vs (fun acc δ2 => okWipe δ2 vs = true ∧ P acc (dWipe δ2 vs)) (items.drop i) acc δ2, ⟨_, rfl, Nat.zero_le _, F', _, [], [], Same.refl _, S1, f1, upd_same, Reps.nil, hP⟩, ?_⟩
  rintro i m H2 ⟨rfl, hi, F2, δ2, acc, us, e2, S2, f2, h2, r2, q⟩
  by_cases hlt : i < items.length
  · have hd : items.drop i = items[i] :: items.drop (i + 1) := List.drop_eq_getElem_cons hlt
    rw [hd] at q
    refine Or.inr ⟨so.go i F2 _ H2 δ2 hlt e2 S2, fun H' => ∃ F3 δ3 acc us, Same F' F3 ∧ StOk K c F3 (wipe σ vs) H' δ3 ∧ Free c F3 (wipe σ vs) δ3 Dl ∧ H' Dl = some (.lst us) ∧ Reps K F3 acc us ∧
      compGo g t e vs (fun acc δ2 => okWipe δ2 vs = true ∧ P acc (dWipe δ2 vs)) (items.drop (i + 1)) acc δ3, fun H' ⟨F3, δ3, acc3, us3, e3, S3, f3, h3, r3, q3⟩ => ⟨items.length - (i + 1), by omega, rfl, hlt, F3, δ3, acc3, us3, e3, S3, f3, h3, r3, q3⟩, fun x H3 y => ?_⟩
    obtain ⟨F3, e3, S3, r3, kf⟩ := so.yld i items[i] F2 _ H2 δ2 x H3 (List.getElem?_eq_getElem hlt) e2 S2 y
    obtain ⟨f3, h3⟩ := kf Dl _ f2 h2
    have S3g := S3.guard f3 h3
    have hz := f3.z
    refine ⟨c.with Dl (.lst us), F3, δ2, items[i], _, S3g, r3, q, fun δ4 h4 σ4 F4 H4 e4 S4 a4 => ?_⟩
    have a4' : Apart (wipe σ vs) σ4 vs := ⟨a4.1, fun j hj => a4.2 j fun z => hj (hgv j z)⟩
    refine ⟨wipe_eq a4', c.with Dl (.lst us), F4, δ4, _, S4, h4, fun b δ5 h5 F5 H5 e5 S5 => ?_⟩
    cases b with
    | false =>
      replace h5 := h5.2 (by decide)
      simp only [if_false, Bool.false_eq_true]
      obtain ⟨ok5, h5⟩ := h5
      obtain ⟨S6, f6, h6⟩ := S5.unguard hz
      exact ⟨F5, _, acc, us, ((e2.trans e3).trans e4).trans e5, (S6.wipe ok5).move a4'.sym, f6.wipe.move a4'.sym, h6, Reps.mono ((e3.trans e4).trans e5) _ _ r2, h5⟩
    | true =>
      replace h5 := h5.1 rfl
      simp only [if_true]
      refine ⟨c.with Dl (.lst us), F5, δ5, _, S5, h5, fun w δ6 h6 v F6 H6 e6 S6 r6 => ?_⟩
      cases w with
      | slot j => exact h6.elim
      | val yd =>
        obtain ⟨hl, ok6, h6⟩ := h6
        obtain ⟨S7, f7, h7⟩ := S6.unguard hz
        have rr := Reps.mono (((e3.trans e4).trans e5).trans e6) _ _ r2
        refine ⟨us, h7, ?_, F6, _, acc ++ [yd], us ++ [v], (((e2.trans e3).trans e4).trans e5).trans e6, ?_, ?_, upd_same, Reps.append rr (Reps.cons r6 Reps.nil), h6⟩
        · have := rr.len
          rw [this, sizeLine_eq]
          exact hl
        · exact (S7.updFree f7 h7).wipe ok6 |>.move a4'.sym
        · exact f7.wipe.move a4'.sym
  · have hi' : i = items.length := by omega
    subst hi'
    rw [List.drop_length] at q
    obtain ⟨ok9, q⟩ := q
    have S9 := (S2.wipe ok9).move (σ' := σ) apart_wipe.sym
    exact Or.inl ⟨so.stop F2 _ H2 δ2 e2 S2, k _ _ q Dl us F2 H2 (e'.trans e2) S9 (f2.wipe.move apart_wipe.sym) h2 r2⟩

/-! ### a def's promise -/
inductive Ar where
  | val (d : D) | io (x : Cn)
/-- the arguments, with the addresses of those that come back -/
inductive ArsOk (K : PySem.W.Frag) (F H : Hp) : List Ar → List V → List Addr → Prop where
  | nil : ArsOk K F H [] [] []
  | val {d : D} {v : V} {as : List Ar} {vs : List V} {ls : List Addr} : Rep K F d v → ArsOk K F H as vs ls → ArsOk K F H (.val d :: as) (v :: vs) ls
  | io {x : Cn} {l : Addr} {ho : HO} {as : List Ar} {vs : List V} {ls : List Addr} : F l = none → H l = some ho → CRep K F x ho → ArsOk K F H as vs ls → ArsOk K F H (.io x :: as) (.ref l :: vs) (l :: ls)
inductive OutsOk (K : PySem.W.Frag) (F H : Hp) : List Cn → List Addr → Prop where
  | nil : OutsOk K F H [] []
  | cons {x : Cn} {l : Addr} {ho : HO} {xs : List Cn} {ls : List Addr} : F l = none → H l = some ho → CRep K F x ho → OutsOk K F H xs ls → OutsOk K F H (x :: xs) (l :: ls)
/-- the arguments; what is wanted of the result and of what comes back -/
abbrev DSp := List Ar → (Ret → List Cn → Prop) → Prop
def RRel (K : PySem.W.Frag) (F H H0 : Hp) (ls : List Addr) (r : Ret) (v : V) : Prop :=
  match r with
  | .v d => Rep K F d v
  | .f ds => ∃ p vs, v = .ref p ∧ F p = none ∧ H0 p = none ∧ H p = some (.lst vs) ∧ Reps K F ds vs
def spD (K : PySem.W.Frag) (n : Nat) (S : DSp) : Sp := fun vs H Q _ => ∃ F as ls P, vs.length = n ∧ Same F H ∧ ArsOk K F H as vs ls ∧ ls.Nodup ∧ TOk K F H ∧ S as P ∧
  ∀ r outs, P r outs → ∀ v F' H', Same F F' → Same F' H' → (∀ a o, H a = some o → F a = none → a ∉ ls → a ∉ (LTabs K).map (·.1) → H' a = some o ∧ F' a = none) → OutsOk K F' H' outs ls → TOk K F' H' → RRel K F' H' H ls r v → Q v H'

def startD : Nat → List Ar → DS
  | n, [] => List.replicate n .no
  | n, .val d :: as => .frz d :: startD (n - 1) as
  | n, .io x :: as => .own true x :: startD (n - 1) as
/-- what stands at the places of the arguments that come back -/
def outsOf : Nat → List Ar → DS → List Cn
  | n, .io _ :: as, δ => (match sg δ n with
    | .own _ x => x
    | _ => .lst []) :: outsOf (n + 1) as δ
  | n, .val _ :: as, δ => outsOf (n + 1) as δ
  | _, [], _ => []
def iosOf : Nat → List Ar → List Addr → List (Nat × Addr)
  | n, .io _ :: as, l :: ls => (n, l) :: iosOf (n + 1) as ls
  | n, .val _ :: as, ls => iosOf (n + 1) as ls
  | _, _, _ => []
end Dl

/-! Dl: a def's promise shown by its body; a call of such a def. -/
namespace Dl
open PySem PySem.Spec PyProof.Rows L2

section
variable {K : PySem.W.Frag} {F H : Hp}
theorem ArsOk.lens {as : List Ar} {vs : List V} {ls : List Addr} (h : ArsOk K F H as vs ls) : as.length = vs.length := by
  induction h with
  | nil => rfl
  | val _ _ ih => simp only [List.length_cons, ih]
  | io _ _ _ _ ih => simp only [List.length_cons, ih]
theorem ArsOk.mem {as : List Ar} {vs : List V} {ls : List Addr} (h : ArsOk K F H as vs ls) : ∀ l ∈ ls, F l = none ∧ ∃ ho, H l = some ho := by
  induction h with
  | nil => intro l hl; cases hl
  | val _ _ ih => exact ih
  | io h1 h2 _ _ ih =>
    intro l hl
    rcases List.mem_cons.mp hl with rfl | hl
    · exact ⟨h1, _, h2⟩
    · exact ih l hl
theorem startD_len : ∀ (as : List Ar) (n : Nat), as.length ≤ n → (startD n as).length = n
  | [], n, _ => by simp [startD]
  | .val d :: as, n, h => by
    simp only [List.length_cons] at h
    simp only [startD, List.length_cons, startD_len as (n - 1) (by omega)]
    omega
  | .io x :: as, n, h => by
    simp only [List.length_cons] at h
    simp only [startD, List.length_cons, startD_len as (n - 1) (by omega)]
    omega
theorem rep_none {m i : Nat} {s : Sl} (h : (List.replicate m Sl.no)[i]? = some s) : s = .no := by
  rw [List.getElem?_replicate] at h
  split at h
  · exact (Option.some.inj h).symm
  · cases h
theorem start_sl {c : Ct} {as : List Ar} {vs : List V} {ls : List Addr} (h : ArsOk K F H as vs ls) : ∀ (m : Nat), (∀ l ∈ ls, c.Z l = none) → ∀ (i : Nat) (s : Sl) (o : Option V), (startD (vs.length + m) as)[i]? = some s → (vs.map some ++ List.replicate m none)[i]? = some o → SlOk K c F H s o := by
  induction h with
  | nil =>
    intro m _ i s o h1 h2
    simp only [startD] at h1
    rw [rep_none h1]
    trivial
  | @val d v as vs ls r _ ih =>
    intro m hz i s o h1 h2
    simp only [startD, List.length_cons] at h1
    cases i with
    | zero =>
      simp at h1 h2
      subst h1 h2
      exact ⟨v, rfl, r⟩
    | succ i =>
      simp only [List.getElem?_cons_succ, List.map_cons, List.cons_append] at h1 h2
      rw [show vs.length + 1 + m - 1 = vs.length + m by omega] at h1
      exact ih m hz i s o h1 h2
  | @io x l ho as vs ls h1' h2' h3' _ ih =>
    intro m hz i s o h1 h2
    simp only [startD, List.length_cons] at h1
    cases i with
    | zero =>
      simp at h1 h2
      subst h1 h2
      exact ⟨l, ho, rfl, h1', hz l (List.mem_cons_self), h2', h3'⟩
    | succ i =>
      simp only [List.getElem?_cons_succ, List.map_cons, List.cons_append] at h1 h2
      rw [show vs.length + 1 + m - 1 = vs.length + m by omega] at h1
      exact ih m (fun l hl => hz l (List.mem_cons_of_mem _ hl)) i s o h1 h2
theorem start_own {as : List Ar} {vs : List V} {ls : List Addr} (h : ArsOk K F H as vs ls) : ∀ (m i : Nat) (io : Bool) (x : Cn) (l : Addr), (startD (vs.length + m) as)[i]? = some (.own io x) → (vs.map some ++ List.replicate m none)[i]? = some (some (.ref l)) → l ∈ ls := by
  induction h with
  | nil =>
    intro m i io x l h1 h2
    simp only [startD] at h1
    cases rep_none h1
  | @val d v as vs ls r _ ih =>
    intro m i io x l h1 h2
    simp only [startD, List.length_cons] at h1
    cases i with
    | zero =>
      simp at h1
    | succ i =>
      simp only [List.getElem?_cons_succ, List.map_cons, List.cons_append] at h1 h2
      rw [show vs.length + 1 + m - 1 = vs.length + m by omega] at h1
      exact ih m i io x l h1 h2
  | @io x' l' ho as vs ls h1' h2' h3' _ ih =>
    intro m i io x l h1 h2
    simp only [startD, List.length_cons] at h1
    cases i with
    | zero =>
      simp at h2
      subst h2
      exact List.mem_cons_self
    | succ i =>
      simp only [List.getElem?_cons_succ, List.map_cons, List.cons_append] at h1 h2
      rw [show vs.length + 1 + m - 1 = vs.length + m by omega] at h1
      exact List.mem_cons_of_mem _ (ih m i io x l h1 h2)
theorem start_dis {as : List Ar} {vs : List V} {ls : List Addr} (h : ArsOk K F H as vs ls) : ls.Nodup → ∀ (m i j : Nat) (l : Addr) (io : Bool) (x : Cn) (io' : Bool) (x' : Cn), (startD (vs.length + m) as)[i]? = some (.own io x) → (startD (vs.length + m) as)[j]? = some (.own io' x') →
    (vs.map some ++ List.replicate m none)[i]? = some (some (.ref l)) → (vs.map some ++ List.replicate m none)[j]? = some (some (.ref l)) → i = j := by
  induction h with
  | nil =>
    intro _ m i j l io x io' x' h1 h2 h3 h4
    simp only [startD] at h1
    cases rep_none h1
  | @val d v as vs ls r hh ih =>
    intro hn m i j l io x io' x' h1 h2 h3 h4
    simp only [startD, List.length_cons] at h1 h2
    cases i with
    | zero => simp at h1
    | succ i =>
      cases j with
      | zero => simp at h2
      | succ j =>
        simp only [List.getElem?_cons_succ, List.map_cons, List.cons_append] at h1 h2 h3 h4
        rw [show vs.length + 1 + m - 1 = vs.length + m by omega] at h1 h2
        rw [ih hn m i j l io x io' x' h1 h2 h3 h4]
  | @io x0 l0 ho as vs ls h1' h2' h3' hh ih =>
    intro hn m i j l io x io' x' h1 h2 h3 h4
    have hn' := List.nodup_cons.mp hn
    simp only [startD, List.length_cons] at h1 h2
    cases i with
    | zero =>
      cases j with
      | zero => rfl
      | succ j =>
        simp only [List.getElem?_cons_succ, List.map_cons, List.cons_append] at h1 h2 h3 h4
        rw [show vs.length + 1 + m - 1 = vs.length + m by omega] at h2
        simp at h3
        subst h3
        exact absurd (start_own hh m j io' x' _ h2 h4) hn'.1
    | succ i =>
      cases j with
      | zero =>
        simp only [List.getElem?_cons_succ, List.map_cons, List.cons_append] at h1 h2 h3 h4
        rw [show vs.length + 1 + m - 1 = vs.length + m by omega] at h1
        simp at h4
        subst h4
        exact absurd (start_own hh m i io x _ h1 h3) hn'.1
      | succ j =>
        simp only [List.getElem?_cons_succ, List.map_cons, List.cons_append] at h1 h2 h3 h4
        rw [show vs.length + 1 + m - 1 = vs.length + m by omega] at h1 h2
        rw [ih hn'.2 m i j l io x io' x' h1 h2 h3 h4]
theorem start_io {as : List Ar} {vs : List V} {ls : List Addr} (h : ArsOk K F H as vs ls) : ∀ (m n : Nat), ∀ p ∈ iosOf n as ls, ∃ j, p.1 = n + j ∧ (∃ x, (startD (vs.length + m) as)[j]? = some (.own true x)) ∧ (vs.map some ++ List.replicate m none)[j]? = some (some (.ref p.2)) := by
  induction h with
  | nil => intro m n p hp; cases hp
  | @val d v as vs ls r hh ih =>
    intro m n p hp
    simp only [iosOf] at hp
    obtain ⟨j, h1, ⟨x, h2⟩, h3⟩ := ih m (n + 1) p hp
    refine ⟨j + 1, by omega, ⟨x, ?_⟩, ?_⟩
    · simp only [startD, List.length_cons, List.getElem?_cons_succ]
      rw [show vs.length + 1 + m - 1 = vs.length + m by omega]
      exact h2
    · simp only [List.map_cons, List.cons_append, List.getElem?_cons_succ]
      exact h3
  | @io x0 l0 ho as vs ls h1' h2' h3' hh ih =>
    intro m n p hp
    simp only [iosOf] at hp
    rcases List.mem_cons.mp hp with rfl | hp
    · exact ⟨0, rfl, ⟨x0, by simp [startD]⟩, by simp⟩
    · obtain ⟨j, h1, ⟨x, h2⟩, h3⟩ := ih m (n + 1) p hp
      refine ⟨j + 1, by omega, ⟨x, ?_⟩, ?_⟩
      · simp only [startD, List.length_cons, List.getElem?_cons_succ]
        rw [show vs.length + 1 + m - 1 = vs.length + m by omega]
        exact h2
      · simp only [List.map_cons, List.cons_append, List.getElem?_cons_succ]
        exact h3
theorem outs_ok {as : List Ar} {vs : List V} {ls : List Addr} (h : ArsOk K F H as vs ls) {F' H' : Hp} {δ : DS} : ∀ (n : Nat), (∀ p ∈ iosOf n as ls, ∃ x ho, δ[p.1]? = some (.own true x) ∧ F' p.2 = none ∧ H' p.2 = some ho ∧ CRep K F' x ho) → OutsOk K F' H' (outsOf n as δ) ls := by
  induction h with
  | nil =>
    intro n _
    simp only [outsOf]
    exact .nil
  | @val d v as vs ls r hh ih =>
    intro n hp
    simp only [outsOf]
    exact ih (n + 1) fun p hp' => hp p (by simp only [iosOf]; exact hp')
  | @io x0 l0 ho as vs ls h1' h2' h3' hh ih =>
    intro n hp
    obtain ⟨x, ho, q1, q2, q3, q4⟩ := hp (n, l0) (by simp only [iosOf]; exact List.mem_cons_self)
    simp only [outsOf, at_sg q1]
    exact .cons q2 q3 q4 (ih (n + 1) fun p hp' => hp p (by simp only [iosOf]; exact List.mem_cons_of_mem _ hp'))
theorem ios_mem {as : List Ar} {vs : List V} {ls : List Addr} (h : ArsOk K F H as vs ls) : ∀ (n : Nat) (l : Addr), l ∈ ls → ∃ i, (i, l) ∈ iosOf n as ls := by
  induction h with
  | nil => intro n l hl; cases hl
  | val _ _ ih => exact fun n l hl => ih (n + 1) l hl
  | io _ _ _ _ ih =>
    intro n l hl
    rcases List.mem_cons.mp hl with rfl | hl
    · exact ⟨n, by simp only [iosOf]; exact List.mem_cons_self⟩
    · obtain ⟨i, hi⟩ := ih (n + 1) l hl
      exact ⟨i, by simp only [iosOf]; exact List.mem_cons_of_mem _ hi⟩
end

section
open Classical
variable {P : Program} {w : World} {mg : Str → Option Value} {K : PySem.W.Frag} {base : Heap}
/-- THE RULE for a def -/
theorem fn_d {x qual : Str} {st : Stmt} {f : Addr} {fd : FuncData} {N ps : List Str} {k : Nat} {S : DSp} (Fn : Fun K x qual st f fd) (Sc : FnScope N ps (defScope st)) (r : DSt)
    (der : ∀ (cdv : Value), fd.code = cdv → ∀ (A : Around) (outer : List Env) (s : Shared) (H : Hp) (E : XK), Room k (A.deeper (envOfC qual (defScope st) s.heap.objs.size f cdv)) → PSs (cxOf CX0 P w K mg base N qual (defScope st) f cdv A outer s H E).nox (defBody st) (liftS K r))
    (hbody : ∀ as P, as.length = ps.length → S as P → r { nx := fun δ => P (.v .non) (outsOf 0 as δ), rt := fun rt δ => P rt (outsOf 0 as δ) } (startD N.length as)) :
    FnOk P w K mg base CX0 (k + 1) f fd ps (spD K ps.length S) := by
  obtain ⟨oc, od, kV, doc, pm, an, cdv, ct, osl, rfl, lk, hcd⟩ := Fn.ex
  refine fn_of lk hcd Sc (fun vs H Q E h => ?_) (fun A outer s H vs Q E hr h => ?_)
  · obtain ⟨_, _, _, _, h, _⟩ := h
    exact h
  obtain ⟨F0, as, ls, Pd, hlen, hs, ha, hn, tk, hS, kk⟩ := h
  have hal : as.length = ps.length := by rw [ha.lens]; exact hlen
  have hNl : ps.length ≤ N.length := by
    rw [← Sc.pre, List.length_take]
    exact Nat.min_le_right _ _
  let c : Ct := { F0 := F0, Z := fun a => if F0 a = none ∧ a ∉ ls ∧ a ∉ (LTabs K).map (·.1) then H a else none, ios := iosOf 0 as ls }
  have hZ1 : ∀ a o, c.Z a = some o → F0 a = none ∧ (a ∉ ls ∧ a ∉ (LTabs K).map (·.1)) ∧ H a = some o := fun a o e => by
    have e' : (if F0 a = none ∧ a ∉ ls ∧ a ∉ (LTabs K).map (·.1) then H a else none) = some o := e
    split at e'
    · next q => exact ⟨q.1, q.2, e'⟩
    · cases e'
  have hZ2 : ∀ a o, H a = some o → F0 a = none → a ∉ ls → a ∉ (LTabs K).map (·.1) → c.Z a = some o := fun a o h1 h2 h3 h4 => by
    show (if F0 a = none ∧ a ∉ ls ∧ a ∉ (LTabs K).map (·.1) then H a else none) = some o
    rw [if_pos ⟨h2, h3, h4⟩]
    exact h1
  have hZ3 : ∀ l ∈ ls, c.Z l = none := fun l hl => by
    cases q : c.Z l with
    | none => rfl
    | some o => exact absurd hl (hZ1 l o q).2.1.1
  have hst : start N vs = vs.map some ++ List.replicate (N.length - vs.length) none := rfl
  have hN : N.length = vs.length + (N.length - vs.length) := by omega
  have S0 : StOk K c F0 (start N vs) H (startD N.length as) := by
    rw [hst]
    refine ⟨Same.refl _, hs, fun a o e => ⟨(hZ1 a o e).2.2, (hZ1 a o e).1⟩, ?_, ?_, ?_, ?_, tk, fun p hp => ?_⟩
    · rw [startD_len as _ (by omega), List.length_append, List.length_map, List.length_replicate]
      omega
    · intro i s o h1 h2
      rw [hN] at h1
      exact start_sl ha _ hZ3 i s o h1 h2
    · intro i j l io x io' x' h1 h2 h3 h4
      rw [hN] at h1 h2
      exact start_dis ha hn _ i j l io x io' x' h1 h2 h3 h4
    · intro p hp
      obtain ⟨j, h1, h2, h3⟩ := start_io ha (N.length - vs.length) 0 p hp
      rw [Nat.zero_add] at h1
      rw [h1]
      rw [← hN] at h2
      exact ⟨h2, h3⟩
    · cases q : c.Z p.1 with
      | none => rfl
      | some o => exact absurd (List.mem_map.mpr ⟨p, hp, rfl⟩) (hZ1 _ o q).2.1.2
  have fin : ∀ (rt : Ret) (δ' : DS), Pd rt (outsOf 0 as δ') → ∀ v σ' F' H', Same F0 F' → StOk K c F' σ' H' δ' → RetRel K c F' σ' H' δ' rt v → Q v H' := fun rt δ' hp v σ' F' H' e1 S1 rr => by
    have hio : ∀ p ∈ iosOf 0 as ls, ∃ x ho, δ'[p.1]? = some (.own true x) ∧ F' p.2 = none ∧ H' p.2 = some ho ∧ CRep K F' x ho := fun p hp => by
      obtain ⟨⟨x, h1⟩, h2⟩ := S1.io p hp
      obtain ⟨l, ho, g1, g2, g3, g4, g5⟩ := S1.own h1
      rw [h2] at g1
      cases g1
      exact ⟨x, ho, h1, g2, g4, g5⟩
    refine kk rt _ hp v F' H' e1 S1.sub (fun a o h1 h2 h3 h4 => S1.fz a o (hZ2 a o h1 h2 h3 h4)) ?_ S1.tt ?_
    · exact outs_ok ha 0 hio
    · cases rt with
      | v d => exact rr
      | f ds =>
        obtain ⟨p, us, rfl, fr, hp', r2⟩ := rr
        refine ⟨p, us, rfl, fr.f, ?_, hp', r2⟩
        cases q : H p with
        | none => rfl
        | some o =>
          have hF : F0 p = none := by
            cases q2 : F0 p with
            | none => rfl
            | some u =>
              have := e1 _ _ q2
              rw [fr.f] at this
              cases this
          by_cases hpl : p ∈ ls
          · obtain ⟨i, hi⟩ := ios_mem ha 0 p hpl
            obtain ⟨⟨x, h1⟩, h2⟩ := S1.io _ hi
            exact absurd h2 (fr.o i true x h1)
          · by_cases hpt : p ∈ (LTabs K).map (·.1)
            · obtain ⟨t, ht, et⟩ := List.mem_map.mp hpt
              exact (S1.tt.nt (o := .lst us) ht (by rw [et]; exact hp') trivial).elim
            · have := hZ2 p o q hF hpl hpt
              rw [fr.z] at this
              cases this
  refine (fun ⟨t, h, q⟩ => ⟨t, PSs.nox h, q⟩ : (∃ t, PSs (cxOf CX0 P w K mg base N qual (defScope st) f cdv A outer s H E).nox (defBody st) t ∧ t { nx := fun _ H' => Q .non H', rt := Q } (start N vs) H) → _) ?_
  exact ⟨liftS K r, der cdv rfl A outer s H E hr, c, F0, startD N.length as, _, S0, hbody as Pd hal hS,
    ⟨fun δ' h σ' F' H' e1 S1 => fin (.v .non) δ' h .non σ' F' H' e1 S1 (by show Rep _ _ _ _; simp only [Rep]), fun rt δ' h v σ' F' H' e1 S1 rr => fin rt δ' h v σ' F' H' e1 S1 rr, fun _ h => h.elim, fun _ h => h.elim⟩⟩
end

/-! ### a call -/
def arsOf (δ : DS) : List Vw → Option (List Ar)
  | [] => some []
  | .val d :: ws => match arsOf δ ws with
    | some as => some (.val d :: as)
    | none => none
  | .slot i :: ws => match sg δ i, arsOf δ ws with
    | .own _ x, some as => some (.io x :: as)
    | _, _ => none
def slotsOf : List Vw → List Nat
  | [] => []
  | .val _ :: ws => slotsOf ws
  | .slot i :: ws => i :: slotsOf ws
def putCn (δ : DS) (i : Nat) (x : Cn) : DS := match sg δ i with
  | .own io _ => ss δ i (.own io x)
  | _ => δ
def putOuts : List Nat → List Cn → DS → DS
  | i :: is, x :: xs, δ => putOuts is xs (putCn δ i x)
  | _, _, δ => δ
def noDup : List Nat → Bool
  | [] => true
  | i :: is => !(is.contains i) && noDup is
theorem noDup_ok : ∀ {is : List Nat}, noDup is = true → is.Nodup
  | [], _ => List.nodup_nil
  | i :: is, h => by
    unfold noDup at h
    rw [Bool.and_eq_true] at h
    refine List.nodup_cons.mpr ⟨fun z => ?_, noDup_ok h.2⟩
    have := List.contains_iff_mem.mpr z
    rw [this] at h
    exact absurd h.1 (by decide)
/-- a promise asked for -/
inductive BoxK (k : Ret → List Cn → Prop) : Type where
  | mk
def callD (S : DSp) (as : List Ar) {k : Ret → List Cn → Prop} (_ : BoxK k) : Prop := S as k
def rCall (n : Nat) (S : DSp) (rs : DA) : DV := fun δ Q => rs δ fun ws δ1 => match arsOf δ1 ws with
  | some as => ws.length = n ∧ noDup (slotsOf ws) = true ∧ callD S as (BoxK.mk : BoxK fun r outs => match r with
    | .v d => Q (.val d) (putOuts (slotsOf ws) outs δ1)
    | .f ds => Q (.val (.lst ds)) (putOuts (slotsOf ws) outs δ1))
  | none => False
def rCallF (n : Nat) (S : DSp) (rs : DA) : DF := fun δ Q => rs δ fun ws δ1 => match arsOf δ1 ws with
  | some as => ws.length = n ∧ noDup (slotsOf ws) = true ∧ callD S as (BoxK.mk : BoxK fun r outs => match r with
    | .v _ => False
    | .f ds => Q ds (putOuts (slotsOf ws) outs δ1))
  | none => False
section
variable {K : PySem.W.Frag} {c : Ct} {F H F' H' : Hp} {σ : L2.St} {δ : DS}
theorem VwsRel.len : ∀ {ws : List Vw} {vs : List V}, VwsRel K F σ ws vs → vs.length = ws.length
  | [], vs, h => by rw [show vs = [] from h]; rfl
  | w :: ws, vs, h => by
    obtain ⟨v, us, rfl, _, h2⟩ := h
    simp only [List.length_cons, VwsRel.len h2]
/-- the slots and their addresses -/
inductive SlAd (σ : L2.St) : List Nat → List Addr → Prop where
  | nil : SlAd σ [] []
  | cons {i : Nat} {l : Addr} {is : List Nat} {ls : List Addr} : σ[i]? = some (some (.ref l)) → SlAd σ is ls → SlAd σ (i :: is) (l :: ls)
theorem SlAd.mem {is : List Nat} {ls : List Addr} (h : SlAd σ is ls) : ∀ l ∈ ls, ∃ i ∈ is, σ[i]? = some (some (.ref l)) := by
  induction h with
  | nil => intro l hl; cases hl
  | cons h1 _ ih =>
    intro l hl
    rcases List.mem_cons.mp hl with rfl | hl
    · exact ⟨_, List.mem_cons_self, h1⟩
    · obtain ⟨i, hi, e⟩ := ih l hl
      exact ⟨i, List.mem_cons_of_mem _ hi, e⟩
theorem ars_ok (S : StOk K c F σ H δ) : ∀ {ws : List Vw} {vs : List V} {as : List Ar}, VwsRel K F σ ws vs → arsOf δ ws = some as → ∃ ls, ArsOk K F H as vs ls ∧ SlAd σ (slotsOf ws) ls ∧ ∀ i ∈ slotsOf ws, ∃ io x, δ[i]? = some (.own io x)
  | [], vs, as, h, e => by
    cases e
    rw [show vs = [] from h]
    exact ⟨[], .nil, .nil, fun i hi => by cases hi⟩
  | .val d :: ws, vs, as, h, e => by
    obtain ⟨v, us, rfl, h1, h2⟩ := h
    unfold arsOf at e
    cases q : arsOf δ ws with
    | none => simp only [q] at e; cases e
    | some as' =>
      simp only [q] at e
      cases e
      obtain ⟨ls, g1, g2, g3⟩ := ars_ok S h2 q
      exact ⟨ls, .val h1 g1, g2, g3⟩
  | .slot i :: ws, vs, as, h, e => by
    obtain ⟨v, us, rfl, h1, h2⟩ := h
    unfold arsOf at e
    cases q0 : sg δ i with
    | no => simp only [q0] at e; cases e
    | frz _ => simp only [q0] at e; cases e
    | own io x =>
      cases q : arsOf δ ws with
      | none => simp only [q0, q] at e; cases e
      | some as' =>
        simp only [q0, q] at e
        cases e
        have hq := sg_at q0 (by intro z; cases z)
        obtain ⟨l, ho, k1, k2, k3, k4, k5⟩ := S.own hq
        have hv : v = .ref l := by
          have z : σ[i]? = some (some v) := h1
          rw [k1] at z
          cases z
          rfl
        subst hv
        obtain ⟨ls, g1, g2, g3⟩ := ars_ok S h2 q
        refine ⟨l :: ls, .io k2 k4 k5 g1, .cons k1 g2, fun j hj => ?_⟩
        rcases List.mem_cons.mp hj with rfl | hj
        · exact ⟨io, x, hq⟩
        · exact g3 j hj
theorem slad_nodup (S : StOk K c F σ H δ) {is : List Nat} {ls : List Addr} (h : SlAd σ is ls) : is.Nodup → (∀ i ∈ is, ∃ io x, δ[i]? = some (.own io x)) → ls.Nodup := by
  induction h with
  | nil => intro _ _; exact List.nodup_nil
  | cons h1 h2 ih =>
    intro hn ho
    have hn' := List.nodup_cons.mp hn
    refine List.nodup_cons.mpr ⟨fun hl => ?_, ih hn'.2 fun i hi => ho i (List.mem_cons_of_mem _ hi)⟩
    obtain ⟨j, hj, e⟩ := h2.mem _ hl
    obtain ⟨_, _, o1⟩ := ho _ List.mem_cons_self
    obtain ⟨_, _, o2⟩ := ho j (List.mem_cons_of_mem _ hj)
    have := S.dis _ _ _ _ _ _ _ o1 o2 h1 e
    rw [this] at hn'
    exact hn'.1 hj
theorem putCn_len {i : Nat} {x : Cn} : (putCn δ i x).length = δ.length := by
  unfold putCn
  split
  · rw [ss_eq, List.length_set]
  · rfl
theorem putCn_get {i j : Nat} {x : Cn} {s : Sl} (h : (putCn δ i x)[j]? = some s) : (∃ io y, j = i ∧ s = .own io x ∧ δ[j]? = some (.own io y)) ∨ (δ[j]? = some s ∧ (j = i → ∀ io y, s ≠ .own io y)) := by
  unfold putCn at h
  cases q : sg δ i with
  | no =>
    simp only [q] at h
    exact Or.inr ⟨h, fun e io y z => by subst e; rw [at_sg h, z] at q; cases q⟩
  | frz d =>
    simp only [q] at h
    exact Or.inr ⟨h, fun e io y z => by subst e; rw [at_sg h, z] at q; cases q⟩
  | own io y =>
    simp only [q] at h
    rw [ss_eq] at h
    rcases getset h with ⟨e, e1⟩ | ⟨e, e1⟩
    · exact Or.inl ⟨io, y, e, e1, by rw [e]; exact sg_at q (by intro z; cases z)⟩
    · exact Or.inr ⟨e1, fun z => absurd z e⟩
theorem putCn_io {i j : Nat} {x y : Cn} {io : Bool} (h : δ[j]? = some (.own io y)) : ∃ z, (putCn δ i x)[j]? = some (.own io z) := by
  unfold putCn
  cases q : sg δ i with
  | no => exact ⟨y, h⟩
  | frz d => exact ⟨y, h⟩
  | own io' y' =>
    show ∃ z, (ss δ i (.own io' x))[j]? = some (.own io z)
    rw [ss_eq]
    by_cases e : i = j
    · subst e
      have hh := at_sg h
      rw [q] at hh
      cases hh
      exact ⟨x, by rw [List.getElem?_set_self (List.getElem?_eq_some_iff.mp h).1]⟩
    · exact ⟨y, by rw [List.getElem?_set_ne e]; exact h⟩
/-- behind a call: what stands at a place -/
theorem putOuts_ok {is : List Nat} {ls : List Addr} (h : SlAd σ is ls) : ∀ {δ : DS} {outs : List Cn}, is.Nodup → OutsOk K F' H' outs ls → (putOuts is outs δ).length = δ.length ∧
    (∀ (j : Nat) (io : Bool) (y : Cn), δ[j]? = some (.own io y) → ∃ z, (putOuts is outs δ)[j]? = some (.own io z)) ∧
    ∀ (j : Nat) (s : Sl), (putOuts is outs δ)[j]? = some s → (j ∉ is ∧ δ[j]? = some s) ∨ (j ∈ is ∧ δ[j]? = some s ∧ ∀ io y, s ≠ .own io y) ∨ (∃ io x y l ho, j ∈ is ∧ s = .own io x ∧ δ[j]? = some (.own io y) ∧ σ[j]? = some (some (.ref l)) ∧ F' l = none ∧ H' l = some ho ∧ CRep K F' x ho) := by
  induction h with
  | nil =>
    intro δ outs _ ho
    cases ho
    exact ⟨rfl, fun j io y e => ⟨y, e⟩, fun j s e => Or.inl ⟨fun z => (by cases z), e⟩⟩
  | @cons i l is ls h1 h2 ih =>
    intro δ outs hn ho
    cases ho with
    | @cons x _ ho0 xs _ o1 o2 o3 o4 =>
      have hn' := List.nodup_cons.mp hn
      obtain ⟨g1, g2, g3⟩ := ih (δ := putCn δ i x) hn'.2 o4
      refine ⟨g1.trans putCn_len, fun j io y e => ?_, fun j s e => ?_⟩
      · obtain ⟨z, e1⟩ := putCn_io (i := i) (x := x) e
        exact g2 j io z e1
      · rcases g3 j s e with ⟨n1, e1⟩ | ⟨m1, e1, e2⟩ | ⟨io, x', y, l', ho', m1, e0, e1, e2⟩
        · rcases putCn_get e1 with ⟨io, y, e2, e3, e4⟩ | ⟨e2, e3⟩
          · exact Or.inr (Or.inr ⟨io, x, y, l, ho0, by rw [e2]; exact List.mem_cons_self, e3, e4, by rw [e2]; exact h1, o1, o2, o3⟩)
          · by_cases hj : j = i
            · exact Or.inr (Or.inl ⟨by rw [hj]; exact List.mem_cons_self, e2, e3 hj⟩)
            · exact Or.inl ⟨fun z => by
                rcases List.mem_cons.mp z with z | z
                · exact hj z
                · exact n1 z, e2⟩
        · rcases putCn_get e1 with ⟨io, y, _, e3, _⟩ | ⟨e3, _⟩
          · exact absurd e3 (e2 io x)
          · exact Or.inr (Or.inl ⟨List.mem_cons_of_mem _ m1, e3, e2⟩)
        · rcases putCn_get e1 with ⟨_, _, e3, _, _⟩ | ⟨e3, _⟩
          · rw [e3] at m1
            exact absurd m1 hn'.1
          · exact Or.inr (Or.inr ⟨io, x', y, l', ho', List.mem_cons_of_mem _ m1, e0, e3, e2⟩)
theorem StOk.called (S : StOk K c F σ H δ) {is : List Nat} {ls : List Addr} {outs : List Cn} (sa : SlAd σ is ls) (hn : is.Nodup) (hio : ∀ i ∈ is, ∃ io x, δ[i]? = some (.own io x)) (e1 : Same F F') (e2 : Same F' H')
    (fr : ∀ a o, H a = some o → F a = none → a ∉ ls → a ∉ (LTabs K).map (·.1) → H' a = some o ∧ F' a = none) (ho : OutsOk K F' H' outs ls) (tk : TOk K F' H') : StOk K c F' σ H' (putOuts is outs δ) := by
  obtain ⟨g1, g2, g3⟩ := putOuts_ok sa (δ := δ) hn ho
  have own' : ∀ {j : Nat} {io : Bool} {x : Cn}, (putOuts is outs δ)[j]? = some (.own io x) → ∃ y, δ[j]? = some (.own io y) := fun {j io x} h => by
    rcases g3 j _ h with ⟨_, e⟩ | ⟨_, _, e⟩ | ⟨io', x', y, l, ho, _, e, e3, _⟩
    · exact ⟨x, e⟩
    · exact absurd rfl (e io x)
    · cases e
      exact ⟨y, e3⟩
  refine ⟨S.sub0.trans e1, e2, fun a o e => ?_, by rw [g1]; exact S.len, fun i s o h1 h2 => ?_, fun i j l io x io' x' h1 h2 h3 h4 => ?_, fun p hp => ?_, tk, S.tz⟩
  · obtain ⟨h1, h2⟩ := S.fz a o e
    refine fr a o h1 h2 (fun hl => ?_) fun hm => by
      obtain ⟨t, ht, et⟩ := List.mem_map.mp hm
      rw [← et, S.tz t ht] at e
      cases e
    obtain ⟨i, hi, hs⟩ := sa.mem a hl
    obtain ⟨io, x, hx⟩ := hio i hi
    obtain ⟨l, ho, k1, k2, k3, _⟩ := S.own hx
    rw [hs] at k1
    cases k1
    rw [e] at k3
    cases k3
  · rcases g3 i s h1 with ⟨n1, e⟩ | ⟨m1, e, en⟩ | ⟨io, x, y, l, ho, m1, e, e3, e4, e5, e6, e7⟩
    · have q0 := S.sl i s o e h2
      cases s with
      | no => trivial
      | frz d =>
        obtain ⟨v, k1, k2⟩ := q0
        exact ⟨v, k1, Rep.mono e1 _ _ k2⟩
      | own io x =>
        obtain ⟨l, ho, k1, k2, k3, k4, k5⟩ := q0
        have hl : l ∉ ls := fun hl => by
          obtain ⟨j, hj, hs⟩ := sa.mem l hl
          obtain ⟨io', x', hx⟩ := hio j hj
          rw [k1] at h2
          have := S.dis i j l _ _ _ _ e hx h2 hs
          rw [this] at n1
          exact n1 hj
        obtain ⟨m1, m2⟩ := fr l ho k4 k2 hl fun hm => by
          obtain ⟨t, ht, et⟩ := List.mem_map.mp hm
          exact (S.tt.nt ht (by rw [et]; exact k4) k5.nt).elim
        exact ⟨l, ho, k1, m2, k3, m1, k5.mono e1⟩
    · have q0 := S.sl i s o e h2
      cases s with
      | no => trivial
      | frz d =>
        obtain ⟨v, k1, k2⟩ := q0
        exact ⟨v, k1, Rep.mono e1 _ _ k2⟩
      | own io x => exact absurd rfl (en io x)
    · subst e
      obtain ⟨l', ho', k1, k2, k3, _⟩ := S.own e3
      rw [e4] at k1
      cases k1
      rw [e4] at h2
      cases h2
      exact ⟨l, ho, rfl, e5, k3, e6, e7⟩
  · obtain ⟨_, q1⟩ := own' h1
    obtain ⟨_, q2⟩ := own' h2
    exact S.dis i j l _ _ _ _ q1 q2 h3 h4
  · obtain ⟨⟨x, h1⟩, h2⟩ := S.io p hp
    obtain ⟨z, h3⟩ := g2 _ _ _ h1
    exact ⟨⟨z, h3⟩, h2⟩
end
section
variable {X : Cx} {k : Nat} {f : Addr} {fd : FuncData} {ps : List Str} {S : DSp} {x : Str} {p pos : Pos} {e : Expr} {es : List Expr} {rs : DA}
theorem call_sound {n : Nat} : ∀ σ H Q, liftV X.K (rCall n S rs) σ H Q → tCall (spD X.K n S) [] E0 (liftA X.K rs) σ H Q := fun σ H Q ⟨c, F, δ, P, S0, h, kk⟩ => ⟨c, F, δ, _, S0, h, fun ws δ1 h1 vs F1 H1 e1 S1 r1 => by
  cases q : arsOf δ1 ws with
  | none => simp only [q] at h1
  | some as =>
    simp only [q] at h1
    obtain ⟨hl, hn, hS⟩ := h1
    have hn' := noDup_ok hn
    obtain ⟨ls, ha, sa, hio⟩ := ars_ok S1 r1 q
    rw [List.append_nil]
    refine ⟨F1, as, ls, _, by rw [r1.len]; exact hl, S1.sub, ha, slad_nodup S1 sa hn' hio, S1.tt, hS, fun r outs hp v F2 H2 e2 e3 fr ho tk rr => ?_⟩
    have S2 := S1.called sa hn' hio e2 e3 fr ho tk
    cases r with
    | v d => exact kk _ _ hp v F2 H2 (e1.trans e2) S2 rr
    | f ds =>
      obtain ⟨p, us, rfl, f1, f2, f3, f4⟩ := rr
      have free : Free c F2 σ (putOuts (slotsOf ws) outs δ1) p := by
        refine ⟨f1, ?_, fun i io x h1 h2 => ?_⟩
        · cases q2 : c.Z p with
          | none => rfl
          | some o =>
            rw [(S1.fz p o q2).1] at f2
            cases f2
        · obtain ⟨l, ho', k1, k2, k3, k4, _⟩ := S2.own h1
          obtain ⟨_, _, g3⟩ := putOuts_ok sa (δ := δ1) hn' ho
          have : ∃ y, δ1[i]? = some (.own io y) := by
            rcases g3 i _ h1 with ⟨_, e⟩ | ⟨_, _, e⟩ | ⟨io', x', y, l, ho, _, e, e3, _⟩
            · exact ⟨x, e⟩
            · exact absurd rfl (e io x)
            · cases e
              exact ⟨y, e3⟩
          obtain ⟨y, hy⟩ := this
          obtain ⟨l2, ho2, m1, m2, m3, m4, _⟩ := S1.own hy
          rw [h2] at m1
          cases m1
          rw [m4] at f2
          cases f2
      obtain ⟨s3, S3⟩ := S2.freeze f3 free
      refine kk _ _ hp _ _ H2 ((e1.trans e2).trans s3) S3 ?_
      show Rep X.K _ (.lst ds) (.ref p)
      simp only [Rep]
      exact ⟨p, us, rfl, upd_same, Reps.mono s3 _ _ f4⟩⟩
theorem callF_sound {n : Nat} : ∀ σ H Q, liftF X.K (rCallF n S rs) σ H Q → tCall (spD X.K n S) [] E0 (liftA X.K rs) σ H Q := fun σ H Q ⟨c, F, δ, P, S0, h, kk⟩ => ⟨c, F, δ, _, S0, h, fun ws δ1 h1 vs F1 H1 e1 S1 r1 => by
  cases q : arsOf δ1 ws with
  | none => simp only [q] at h1
  | some as =>
    simp only [q] at h1
    obtain ⟨hl, hn, hS⟩ := h1
    have hn' := noDup_ok hn
    obtain ⟨ls, ha, sa, hio⟩ := ars_ok S1 r1 q
    rw [List.append_nil]
    refine ⟨F1, as, ls, _, by rw [r1.len]; exact hl, S1.sub, ha, slad_nodup S1 sa hn' hio, S1.tt, hS, fun r outs hp v F2 H2 e2 e3 fr ho tk rr => ?_⟩
    have S2 := S1.called sa hn' hio e2 e3 fr ho tk
    cases r with
    | v d => exact hp.elim
    | f ds =>
      obtain ⟨p, us, rfl, f1, f2, f3, f4⟩ := rr
      have free : Free c F2 σ (putOuts (slotsOf ws) outs δ1) p := by
        refine ⟨f1, ?_, fun i io x h1 h2 => ?_⟩
        · cases q2 : c.Z p with
          | none => rfl
          | some o =>
            rw [(S1.fz p o q2).1] at f2
            cases f2
        · obtain ⟨_, _, g3⟩ := putOuts_ok sa (δ := δ1) hn' ho
          have : ∃ y, δ1[i]? = some (.own io y) := by
            rcases g3 i _ h1 with ⟨_, e⟩ | ⟨_, _, e⟩ | ⟨io', x', y, l, ho, _, e, e3, _⟩
            · exact ⟨x, e⟩
            · exact absurd rfl (e io x)
            · cases e
              exact ⟨y, e3⟩
          obtain ⟨y, hy⟩ := this
          obtain ⟨l2, ho2, m1, m2, m3, m4, _⟩ := S1.own hy
          rw [h2] at m1
          cases m1
          rw [m4] at f2
          cases f2
      exact kk _ _ hp p us F2 H2 (e1.trans e2) S2 free f3 f4⟩
end
section
variable {X : Cx} {k j : Nat} {f : Addr} {fd : FuncData} {ps : List Str} {S : DSp} {x : Str} {p pos : Pos} {e : Expr} {es : List Expr} {rs : DA}
theorem e_call (G : FnOk X.prog X.w X.K X.mg X.base CX0 k f fd ps (spD X.K ps.length S)) (hr : Room j X.A) (hkj : k ≤ j) (hm : X.mg x = some (.ref f)) (hk : PySem.W.keepIn X.K (.ref f) = true) (hb : Binds X.K fd ps []) (hg : Gl X x) (ha : PA X (e :: es) (liftA X.K rs)) (hdb : (x == ("__debug__" : Str)) = false := by decide) (he : starEach (e :: es) X.env = (false, eval e X.env) :: starEach es X.env := by rfl) (hpl : (backTo pos (starEach es X.env)).any (·.1) = false := by rfl) :
    PE X (.Call (.Name x p) (e :: es) [] pos) (liftV X.K (rCall ps.length S rs)) := pe_wk (pe_call (E := E0) G (hr.mono hkj) hg hm hk hb .nil pass0 ha hdb he hpl) call_sound
theorem e_callF (G : FnOk X.prog X.w X.K X.mg X.base CX0 k f fd ps (spD X.K ps.length S)) (hr : Room j X.A) (hkj : k ≤ j) (hm : X.mg x = some (.ref f)) (hk : PySem.W.keepIn X.K (.ref f) = true) (hb : Binds X.K fd ps []) (hg : Gl X x) (ha : PA X (e :: es) (liftA X.K rs)) (hdb : (x == ("__debug__" : Str)) = false := by decide) (he : starEach (e :: es) X.env = (false, eval e X.env) :: starEach es X.env := by rfl) (hpl : (backTo pos (starEach es X.env)).any (·.1) = false := by rfl) :
    PE X (.Call (.Name x p) (e :: es) [] pos) (liftF X.K (rCallF ps.length S rs)) := pe_wk (pe_call (E := E0) G (hr.mono hkj) hg hm hk hb .nil pass0 ha hdb he hpl) callF_sound
end
end Dl

/-! Dl: the operations. -/
namespace Dl
open PySem L2 PySem.Spec PyProof.Rows

def addR : R2D
  | .int i, .int j, P => P (.int (i + j))
  | .str s, .str t, P => s.length + t.length ≤ 16777216 ∧ P (.str (s ++ t))
  | .tup xs, .tup ys, P => xs.length + ys.length ≤ 16777216 ∧ P (.tup (xs ++ ys))
  | _, _, _ => False
def subR : R2D
  | .int i, .int j, P => P (.int (i - j))
  | _, _, _ => False
def mulR : R2D
  | .int i, .int j, P => ((-(2 ^ 64) < i ∧ i < 2 ^ 64) ∨ (-(2 ^ 64) < j ∧ j < 2 ^ 64)) ∧ P (.int (i * j))
  | _, _, _ => False
def divR : R2D
  | .int i, .int j, P => (0 < j ∧ j < 1073741824) ∧ P (.int (i / j))
  | _, _, _ => False
def modR : R2D
  | .int i, .int j, P => 0 < j ∧ P (.int (i % j))
  | _, _, _ => False
def powR : R2D
  | .int i, .int j, P => (0 ≤ j ∧ j ≤ 1000000 ∧ i.natAbs < 2 ^ 64) ∧ P (.int (i ^ j.toNat))
  | _, _, _ => False
def cmpR (f : Int → Int → Bool) : R2D
  | .int i, .int j, P => P (.bl (f i j))
  | _, _, _ => False
abbrev ltR : R2D := cmpR fun i j => decide (i < j)
abbrev leR : R2D := cmpR fun i j => decide (i ≤ j)
abbrev gtR : R2D := cmpR fun i j => decide (j < i)
abbrev geR : R2D := cmpR fun i j => decide (j ≤ i)
def isNon : D → Bool
  | .non => true
  | _ => false
def isNR : R2D
  | a, .non, P => P (.bl (isNon a))
  | _, _, _ => False
def isnNR : R2D
  | a, .non, P => P (.bl (!isNon a))
  | _, _, _ => False
def negR : D → (D → Prop) → Prop
  | .int i, P => P (.int (-i))
  | _, _ => False
/-! as the library's data -/
mutual
def toPy : D → PyData
  | .non => .none
  | .bl b => .bool b
  | .int i => .int i
  | .str x => .str x
  | .tup ds => .tuple (toPys ds)
  | .lst ds => .list (toPys ds)
  | .rol ds => .list (toPys ds)
def toPys : List D → List PyData
  | [] => []
  | d :: ds => toPy d :: toPys ds
end
def eqP (a b : D) : Bool := PyData.eqv (toPy a) (toPy b)
def shP (a : D) : Bool := SeqAt.shaped (toPy a)
def eqR : R2D
  | .int i, .int j, P => P (.bl (decide (i = j)))
  | .str i, .str j, P => P (.bl (decide (i = j)))
  | .bl i, .bl j, P => P (.bl (decide (i = j)))
  | .non, .non, P => P (.bl true)
  | .non, .int _, P => P (.bl false)
  | .int _, .non, P => P (.bl false)
  | .non, .str _, P => P (.bl false)
  | .str _, .non, P => P (.bl false)
  | .non, .bl _, P => P (.bl false)
  | .bl _, .non, P => P (.bl false)
  | a, b, P => (shP a = true ∧ shP b = true) ∧ P (.bl (eqP a b))
def neR : R2D
  | .int i, .int j, P => P (.bl (!decide (i = j)))
  | .str i, .str j, P => P (.bl (!decide (i = j)))
  | .bl i, .bl j, P => P (.bl (!decide (i = j)))
  | .non, .non, P => P (.bl false)
  | .non, .int _, P => P (.bl true)
  | .int _, .non, P => P (.bl true)
  | .non, .str _, P => P (.bl true)
  | .str _, .non, P => P (.bl true)
  | .non, .bl _, P => P (.bl true)
  | .bl _, .non, P => P (.bl true)
  | a, b, P => (shP a = true ∧ shP b = true) ∧ P (.bl (!eqP a b))
inductive BoxD (f : D → Prop) : Type where
  | mk
/-- an item, if it is there -/
def optD (o : Option D) {f : D → Prop} (_ : BoxD f) : Prop := match o with
  | some d => f d
  | none => False
theorem optD_some {d : D} {f : D → Prop} {b : BoxD f} : optD (some d) b = f d := rfl
theorem optD_of {o : Option D} {f : D → Prop} {b : BoxD f} (h : optD o b) : ∃ d, o = some d ∧ f d := by
  cases o with
  | none => exact h.elim
  | some d => exact ⟨d, rfl, h⟩
def sgn1 (n : Nat) : D := .str ⟨#[n]⟩
def ixR : R2D
  | .lst ds, .int i, P => optD (atI ds i) (BoxD.mk : BoxD P)
  | .rol ds, .int i, P => optD (atI ds i) (BoxD.mk : BoxD P)
  | .tup ds, .int i, P => optD (atI ds i) (BoxD.mk : BoxD P)
  | .str x, .int i, P => x.length ≤ 16777216 ∧ optD ((atI x.cps.toList i).map sgn1) (BoxD.mk : BoxD P)
  | _, _, _ => False
def flatD : D → Bool
  | .non => true
  | .bl _ => true
  | .int _ => true
  | .str _ => true
  | _ => false
def eqF : D → D → Bool
  | .non, .non => true
  | .bl a, .bl b => a == b
  | .bl p, .int m => (if p then 1 else 0) == m
  | .int m, .bl p => m == (if p then 1 else 0)
  | .int a, .int b => a == b
  | .str a, .str b => a == b
  | _, _ => false
def inF (x : D) (xs : List D) : Bool := xs.any fun y => eqF y x
def inR (neg : Bool) : R2D
  | x, .lst ds, P => (flatD x = true ∧ ds.all flatD = true) ∧ P (.bl (if neg then !inF x ds else inF x ds))
  | x, .rol ds, P => (flatD x = true ∧ ds.all flatD = true) ∧ P (.bl (if neg then !inF x ds else inF x ds))
  | x, .tup ds, P => (flatD x = true ∧ ds.all flatD = true) ∧ P (.bl (if neg then !inF x ds else inF x ds))
  | _, _, _ => False

section
variable {K : PySem.W.Frag} {F H : Hp} {v x y : V}
theorem rI_ {i : Int} : Rep K F (.int i) (.int i) := by simp only [Rep]
theorem rB_ {i : Bool} : Rep K F (.bl i) (.bl i) := by simp only [Rep]
theorem rS_ {i : Str} : Rep K F (.str i) (.str i) := by simp only [Rep]
theorem rN_ : Rep K F .non .non := by simp only [Rep]
theorem int_v {i : Int} (h : RepV K F H (.int i) v) : v = .int i := by simpa only [RepV, Rep] using h
theorem str_v {i : Str} (h : RepV K F H (.str i) v) : v = .str i := by simpa only [RepV, Rep] using h
theorem bl_v {i : Bool} (h : RepV K F H (.bl i) v) : v = .bl i := by simpa only [RepV, Rep] using h
theorem non_v (h : RepV K F H .non v) : v = .non := by simpa only [RepV, Rep] using h
theorem tup_v {ds : List D} (h : RepV K F H (.tup ds) v) : ∃ a vs, v = .ref a ∧ SqT K F a vs ∧ Reps K F ds vs := by simpa only [RepV, Rep] using h
theorem rol_v {ds : List D} (h : RepV K F H (.rol ds) v) : ∃ a vs, v = .ref a ∧ SqL K F a vs ∧ Reps K F ds vs := by simpa only [RepV, Rep] using h
theorem lst_v {ds : List D} (h : RepV K F H (.lst ds) v) : ∃ a vs, v = .ref a ∧ H a = some (.lst vs) ∧ Reps K F ds vs := h
theorem tup_r {a : Addr} {vs : List V} {ds : List D} (h : SqT K F a vs) (r : Reps K F ds vs) : Rep K F (.tup ds) (.ref a) := by
  simp only [Rep]
  exact ⟨a, vs, rfl, h, r⟩
theorem stay {P : Prop} : Grow F H F H := Or.inl ⟨rfl, rfl⟩
/-- a new tuple -/
theorem Grow.tup {p : Addr} {vs : List V} (h : H p = none) : Grow F H (upd F p (.tup vs)) (upd H p (.tup vs)) := Or.inr ⟨p, _, h, rfl, rfl⟩
theorem new_tup {p : Addr} {vs : List V} {ds : List D} (e : Same F H) (h : H p = none) (r : Reps K F ds vs) : Rep K (upd F p (.tup vs)) (.tup ds) (.ref p) :=
  tup_r (SqT.of upd_same) (Reps.mono (same_upd (e.free h)) _ _ r)
/-- two ints -/
theorem os_int {C : Int → Int → Prop} {g : Int → Int → V} {g' : Int → Int → D} {R : R2D} (hg : ∀ F i j, Rep K F (g' i j) (g i j)) (hR : ∀ a b P, R a b P → ∃ i j, a = .int i ∧ b = .int j ∧ C i j ∧ P (g' i j)) : OpS K (rI C g) R := fun F H a b x y P Q e ha hb h k => by
  obtain ⟨i, j, rfl, rfl, hc, hp⟩ := hR a b P h
  exact ⟨i, j, int_v ha, int_v hb, hc, k _ _ F H hp (Or.inl ⟨rfl, rfl⟩) (hg F i j)⟩
theorem os_int0 {g : Int → Int → V} {g' : Int → Int → D} {R : R2D} (hg : ∀ F i j, Rep K F (g' i j) (g i j)) (hR : ∀ a b P, R a b P → ∃ i j, a = .int i ∧ b = .int j ∧ P (g' i j)) : OpS K (rI0 g) R := fun F H a b x y P Q e ha hb h k => by
  obtain ⟨i, j, rfl, rfl, hp⟩ := hR a b P h
  exact ⟨i, j, int_v ha, int_v hb, k _ _ F H hp (Or.inl ⟨rfl, rfl⟩) (hg F i j)⟩
theorem os_sub : OpS K (rI0 fun i j => .int (i - j)) subR := os_int0 (g' := fun i j => .int (i - j)) (fun F i j => rI_) fun a b P h => by
  unfold subR at h
  split at h
  · exact ⟨_, _, rfl, rfl, h⟩
  · exact h.elim
theorem os_cmp {f : Int → Int → Bool} : OpS K (rI0 fun i j => .bl (f i j)) (cmpR f) := os_int0 (g' := fun i j => .bl (f i j)) (fun F i j => rB_) fun a b P h => by
  unfold cmpR at h
  split at h
  · exact ⟨_, _, rfl, rfl, h⟩
  · exact h.elim
theorem os_mul : OpS K (rI CMul fun i j => .int (i * j)) mulR := os_int (g' := fun i j => .int (i * j)) (fun F i j => rI_) fun a b P h => by
  unfold mulR at h
  split at h
  · exact ⟨_, _, rfl, rfl, h.1, h.2⟩
  · exact h.elim
theorem os_div : OpS K (rI CDiv fun i j => .int (i / j)) divR := os_int (g' := fun i j => .int (i / j)) (fun F i j => rI_) fun a b P h => by
  unfold divR at h
  split at h
  · exact ⟨_, _, rfl, rfl, h.1, h.2⟩
  · exact h.elim
theorem os_mod : OpS K (rI (fun _ j => 0 < j) fun i j => .int (i % j)) modR := os_int (g' := fun i j => .int (i % j)) (fun F i j => rI_) fun a b P h => by
  unfold modR at h
  split at h
  · exact ⟨_, _, rfl, rfl, h.1, h.2⟩
  · exact h.elim
theorem os_pow : OpS K (rI CPow fun i j => .int (i ^ j.toNat)) powR := os_int (g' := fun i j => .int (i ^ j.toNat)) (fun F i j => rI_) fun a b P h => by
  unfold powR at h
  split at h
  · exact ⟨_, _, rfl, rfl, h.1, h.2⟩
  · exact h.elim
theorem us_neg : UnS K (rU fun i => .int (-i)) negR := fun F H a x P Q e ha h k => by
  unfold negR at h
  split at h
  · exact ⟨_, int_v ha, k _ _ F H h (Or.inl ⟨rfl, rfl⟩) rI_⟩
  · exact h.elim
theorem nil_iff {ds : List D} {vs : List V} (r : Reps K F ds vs) : vs = [] ↔ ds = [] := by
  have := r.len
  constructor
  · intro e
    subst e
    exact List.eq_nil_of_length_eq_zero this.symm
  · intro e
    subst e
    exact r.unnil
theorem os_add : OpS K (fun x y H Q => (rI0 fun i j => .int (i + j)) x y H Q ∨ (∃ i j, x = .str i ∧ y = .str j ∧ i.length + j.length ≤ sizeLine ∧ Q (.str (i ++ j)) H) ∨ rCatA K x y H Q) addR := fun F H a b x y P Q e ha hb h k => by
  unfold addR at h
  split at h
  · exact Or.inl ⟨_, _, int_v ha, int_v hb, k _ _ F H h (Or.inl ⟨rfl, rfl⟩) rI_⟩
  · exact Or.inr (Or.inl ⟨_, _, str_v ha, str_v hb, line_le h.1, k _ _ F H h.2 (Or.inl ⟨rfl, rfl⟩) rS_⟩)
  · obtain ⟨p, us, rfl, s1, r1⟩ := tup_v ha
    obtain ⟨q, ws, rfl, s2, r2⟩ := tup_v hb
    refine Or.inr (Or.inr ⟨p, q, us, ws, rfl, rfl, same_t e s1, same_t e s2, by rw [r1.len, r2.len]; exact line_le h.1, fun z => ?_, fun z1 z2 => ?_, fun z1 z2 m hm => ?_⟩)
    · refine k _ _ F H h.2 (Or.inl ⟨rfl, rfl⟩) ?_
      rw [(nil_iff r1).mp z]
      exact tup_r s2 r2
    · refine k _ _ F H h.2 (Or.inl ⟨rfl, rfl⟩) ?_
      rw [(nil_iff r2).mp z2, List.append_nil]
      exact tup_r s1 r1
    · exact k _ _ _ _ h.2 (Grow.tup hm) (new_tup e hm (Reps.append r1 r2))
  · exact h.elim
theorem op_addD {X : Cx} : OpR X (binaryOp .Add) (fun x y H Q => (rI0 fun i j => .int (i + j)) x y H Q ∨ (∃ i j, x = .str i ∧ y = .str j ∧ i.length + j.length ≤ sizeLine ∧ Q (.str (i ++ j)) H) ∨ rCatA X.K x y H Q) := op_add.or (op_add_str.or op_catA)
theorem isNon_v {a : D} (r : RepV K F H a x) : decide (x = .non) = isNon a := by
  cases a with
  | non => rw [non_v r]; rfl
  | bl _ => rw [bl_v r]; rfl
  | int _ => rw [int_v r]; rfl
  | str _ => rw [str_v r]; rfl
  | tup _ => obtain ⟨_, _, rfl, _⟩ := tup_v r; rfl
  | lst _ => obtain ⟨_, _, rfl, _⟩ := lst_v r; rfl
  | rol _ => obtain ⟨_, _, rfl, _⟩ := rol_v r; rfl
theorem os_isN : OpS K (fun x y H Q => y = .non ∧ Q (.bl (decide (x = .non))) H) isNR := fun F H a b x y P Q e ha hb h k => by
  unfold isNR at h
  split at h
  · refine ⟨non_v hb, ?_⟩
    rw [isNon_v ha]
    exact k _ _ F H h (Or.inl ⟨rfl, rfl⟩) rB_
  · exact h.elim
theorem os_isnN : OpS K (fun x y H Q => y = .non ∧ Q (.bl (!decide (x = .non))) H) isnNR := fun F H a b x y P Q e ha hb h k => by
  unfold isnNR at h
  split at h
  · refine ⟨non_v hb, ?_⟩
    rw [isNon_v ha]
    exact k _ _ F H h (Or.inl ⟨rfl, rfl⟩) rB_
  · exact h.elim
/-! == at any depth -/
mutual
theorem dp_of (e : Same F H) : ∀ (d : D) (v : V), Rep K F d v → Dp K H v (toPy d)
  | .non, v, h => by
    have : v = .non := by simpa only [Rep] using h
    subst this
    exact .non
  | .bl b, v, h => by
    have : v = .bl b := by simpa only [Rep] using h
    subst this
    exact .bl b
  | .int b, v, h => by
    have : v = .int b := by simpa only [Rep] using h
    subst this
    exact .int b
  | .str b, v, h => by
    have : v = .str b := by simpa only [Rep] using h
    subst this
    exact .str b
  | .tup ds, v, h => by
    simp only [Rep] at h
    obtain ⟨a, vs, rfl, h1, h2⟩ := h
    exact .tup (same_t e h1) (dps_of e ds vs h2)
  | .lst ds, v, h => by
    simp only [Rep] at h
    obtain ⟨a, vs, rfl, h1, h2⟩ := h
    exact .lst (SqL.of (e _ _ h1)) (dps_of e ds vs h2)
  | .rol ds, v, h => by
    simp only [Rep] at h
    obtain ⟨a, vs, rfl, h1, h2⟩ := h
    exact .lst (same_l e h1) (dps_of e ds vs h2)
theorem dps_of (e : Same F H) : ∀ (ds : List D) (vs : List V), Reps K F ds vs → DpAll K H vs (toPys ds)
  | [], vs, h => by
    rw [h.unnil]
    exact .nil
  | d :: ds, vs, h => by
    obtain ⟨v, us, rfl, h1, h2⟩ := h.uncons
    exact .cons (dp_of e d v h1) (dps_of e ds us h2)
end
theorem dp_v (e : Same F H) {d : D} (h : RepV K F H d v) : Dp K H v (toPy d) := by
  cases d with
  | lst ds =>
    obtain ⟨a, vs, rfl, h1, h2⟩ := lst_v h
    exact .lst (SqL.of h1) (dps_of e ds vs h2)
  | _ => exact dp_of e _ _ h
theorem os_eq : OpS K (fun x y H Q => rEq x y H Q ∨ rEqD K x y H Q) eqR := fun F H a b x y P Q e ha hb h k => by
  have deep : ((shP a = true ∧ shP b = true) ∧ P (.bl (eqP a b))) → rEqD K x y H Q := fun h => ⟨_, _, dp_v e ha, dp_v e hb, h.1.1, h.1.2, k _ _ F H h.2 (Or.inl ⟨rfl, rfl⟩) rB_⟩
  have sc : ∀ {q : Bool}, scal x y = true → P (.bl q) → decide (x = y) = q → rEq x y H Q := fun s p z => ⟨s, by rw [z]; exact k _ _ F H p (Or.inl ⟨rfl, rfl⟩) rB_⟩
  unfold eqR at h
  split at h
  · refine Or.inl (sc ?_ h ?_) <;> rw [int_v ha, int_v hb]
    · rfl
    · simp only [V.int.injEq]
  · refine Or.inl (sc ?_ h ?_) <;> rw [str_v ha, str_v hb]
    · rfl
    · simp only [V.str.injEq]
  · refine Or.inl (sc ?_ h ?_) <;> rw [bl_v ha, bl_v hb]
    · rfl
    · simp only [V.bl.injEq]
  · refine Or.inl (sc ?_ h ?_) <;> rw [non_v ha, non_v hb]
    · rfl
    · rfl
  · refine Or.inl (sc ?_ h ?_) <;> rw [non_v ha, int_v hb] <;> rfl
  · refine Or.inl (sc ?_ h ?_) <;> rw [int_v ha, non_v hb] <;> rfl
  · refine Or.inl (sc ?_ h ?_) <;> rw [non_v ha, str_v hb] <;> rfl
  · refine Or.inl (sc ?_ h ?_) <;> rw [str_v ha, non_v hb] <;> rfl
  · refine Or.inl (sc ?_ h ?_) <;> rw [non_v ha, bl_v hb] <;> rfl
  · refine Or.inl (sc ?_ h ?_) <;> rw [bl_v ha, non_v hb] <;> rfl
  · exact Or.inr (deep h)
theorem os_ne : OpS K (fun x y H Q => rNe x y H Q ∨ rNeD K x y H Q) neR := fun F H a b x y P Q e ha hb h k => by
  have deep : ((shP a = true ∧ shP b = true) ∧ P (.bl (!eqP a b))) → rNeD K x y H Q := fun h => ⟨_, _, dp_v e ha, dp_v e hb, h.1.1, h.1.2, k _ _ F H h.2 (Or.inl ⟨rfl, rfl⟩) rB_⟩
  have sc : ∀ {q : Bool}, scal x y = true → P (.bl q) → (!decide (x = y)) = q → rNe x y H Q := fun s p z => ⟨s, by rw [z]; exact k _ _ F H p (Or.inl ⟨rfl, rfl⟩) rB_⟩
  unfold neR at h
  split at h
  · refine Or.inl (sc ?_ h ?_) <;> rw [int_v ha, int_v hb]
    · rfl
    · simp only [V.int.injEq]
  · refine Or.inl (sc ?_ h ?_) <;> rw [str_v ha, str_v hb]
    · rfl
    · simp only [V.str.injEq]
  · refine Or.inl (sc ?_ h ?_) <;> rw [bl_v ha, bl_v hb]
    · rfl
    · simp only [V.bl.injEq]
  · refine Or.inl (sc ?_ h ?_) <;> rw [non_v ha, non_v hb]
    · rfl
    · rfl
  · refine Or.inl (sc ?_ h ?_) <;> rw [non_v ha, int_v hb] <;> rfl
  · refine Or.inl (sc ?_ h ?_) <;> rw [int_v ha, non_v hb] <;> rfl
  · refine Or.inl (sc ?_ h ?_) <;> rw [non_v ha, str_v hb] <;> rfl
  · refine Or.inl (sc ?_ h ?_) <;> rw [str_v ha, non_v hb] <;> rfl
  · refine Or.inl (sc ?_ h ?_) <;> rw [non_v ha, bl_v hb] <;> rfl
  · refine Or.inl (sc ?_ h ?_) <;> rw [bl_v ha, non_v hb] <;> rfl
  · exact Or.inr (deep h)
/-! items -/
theorem at_reps {ds : List D} {vs : List V} {i : Int} {d : D} (r : Reps K F ds vs) (h : atI ds i = some d) : ∃ v, atI vs i = some v ∧ Rep K F d v := by
  unfold atI at h ⊢
  rw [r.len]
  cases q : ixN ds.length i with
  | none => rw [q] at h; cases h
  | some j =>
    rw [q] at h
    obtain ⟨v, h1, h2⟩ := r.get (show ds[j]? = some d from h)
    exact ⟨v, h1, h2⟩
theorem os_ix : OpS K (rIx K) ixR := fun F H a b x y P Q e ha hb h k => by
  unfold ixR at h
  split at h
  · obtain ⟨p, vs, rfl, h1, h2⟩ := lst_v ha
    obtain ⟨d, q, h⟩ := optD_of h
    obtain ⟨v, g1, g2⟩ := at_reps h2 q
    exact Or.inl ⟨p, vs, _, v, rfl, int_v hb, SqL.of h1, g1, k _ _ F H h (Or.inl ⟨rfl, rfl⟩) g2⟩
  · obtain ⟨p, vs, rfl, h1, h2⟩ := rol_v ha
    obtain ⟨d, q, h⟩ := optD_of h
    obtain ⟨v, g1, g2⟩ := at_reps h2 q
    exact Or.inl ⟨p, vs, _, v, rfl, int_v hb, same_l e h1, g1, k _ _ F H h (Or.inl ⟨rfl, rfl⟩) g2⟩
  · obtain ⟨p, vs, rfl, h1, h2⟩ := tup_v ha
    obtain ⟨d, q, h⟩ := optD_of h
    obtain ⟨v, g1, g2⟩ := at_reps h2 q
    exact Or.inr (Or.inl ⟨p, vs, _, v, rfl, int_v hb, same_t e h1, g1, k _ _ F H h (Or.inl ⟨rfl, rfl⟩) g2⟩)
  · obtain ⟨hl, h⟩ := h
    obtain ⟨d, q, h⟩ := optD_of h
    obtain ⟨n, q2, rfl⟩ := Option.map_eq_some_iff.mp q
    exact Or.inr (Or.inr ⟨_, _, n, str_v ha, int_v hb, line_le hl, q2, k _ _ F H h (Or.inl ⟨rfl, rfl⟩) rS_⟩)
  · exact h.elim
theorem flat_v {d : D} (f : flatD d = true) (r : RepV K F H d v) : flatV v = true ∧ ∀ d' v', flatD d' = true → RepV K F H d' v' → eqV v v' = eqF d d' := by
  have go : ∀ {d : D} {v : V}, flatD d = true → RepV K F H d v → (d = .non ∧ v = .non) ∨ (∃ b, d = .bl b ∧ v = .bl b) ∨ (∃ b, d = .int b ∧ v = .int b) ∨ ∃ b, d = .str b ∧ v = .str b := fun {d v} f r => by
    cases d with
    | non => exact Or.inl ⟨rfl, non_v r⟩
    | bl b => exact Or.inr (Or.inl ⟨b, rfl, bl_v r⟩)
    | int b => exact Or.inr (Or.inr (Or.inl ⟨b, rfl, int_v r⟩))
    | str b => exact Or.inr (Or.inr (Or.inr ⟨b, rfl, str_v r⟩))
    | _ => cases f
  refine ⟨?_, fun d' v' f' r' => ?_⟩
  · rcases go f r with ⟨_, rfl⟩ | ⟨_, _, rfl⟩ | ⟨_, _, rfl⟩ | ⟨_, _, rfl⟩ <;> rfl
  · rcases go f r with ⟨rfl, rfl⟩ | ⟨_, rfl, rfl⟩ | ⟨_, rfl, rfl⟩ | ⟨_, rfl, rfl⟩ <;> rcases go f' r' with ⟨rfl, rfl⟩ | ⟨_, rfl, rfl⟩ | ⟨_, rfl, rfl⟩ | ⟨_, rfl, rfl⟩ <;> rfl
theorem flats_v (e : Same F H) {x : D} {u : V} (fx : flatD x = true) (rx : RepV K F H x u) : ∀ {ds : List D} {vs : List V}, Reps K F ds vs → ds.all flatD = true → vs.all flatV = true ∧ inV u vs = inF x ds
  | [], vs, r, _ => by
    rw [r.unnil]
    exact ⟨rfl, rfl⟩
  | d :: ds, vs, r, h => by
    obtain ⟨v, us, rfl, h1, h2⟩ := r.uncons
    simp only [List.all_cons, Bool.and_eq_true] at h
    have rd : RepV K F H d v := Rep.view e h1
    obtain ⟨g1, g2⟩ := flat_v h.1 rd
    obtain ⟨k1, k2⟩ := flats_v e fx rx h2 h.2
    refine ⟨by simp only [List.all_cons, g1, k1, Bool.and_self], ?_⟩
    unfold inV inF at *
    simp only [List.any_cons, k2, g2 x u fx rx]
theorem os_in {neg : Bool} : OpS K (rIn K neg) (inR neg) := fun F H a b x y P Q e ha hb h k => by
  unfold inR at h
  split at h
  · obtain ⟨p, vs, rfl, h1, h2⟩ := lst_v hb
    obtain ⟨⟨f1, f2⟩, h⟩ := h
    obtain ⟨g1, g2⟩ := flats_v e f1 ha h2 f2
    refine ⟨p, vs, rfl, Or.inl (SqL.of h1), (flat_v f1 ha).1, g1, ?_⟩
    rw [g2]
    exact k _ _ F H h (Or.inl ⟨rfl, rfl⟩) rB_
  · obtain ⟨p, vs, rfl, h1, h2⟩ := rol_v hb
    obtain ⟨⟨f1, f2⟩, h⟩ := h
    obtain ⟨g1, g2⟩ := flats_v e f1 ha h2 f2
    refine ⟨p, vs, rfl, Or.inl (same_l e h1), (flat_v f1 ha).1, g1, ?_⟩
    rw [g2]
    exact k _ _ F H h (Or.inl ⟨rfl, rfl⟩) rB_
  · obtain ⟨p, vs, rfl, h1, h2⟩ := tup_v hb
    obtain ⟨⟨f1, f2⟩, h⟩ := h
    obtain ⟨g1, g2⟩ := flats_v e f1 ha h2 f2
    refine ⟨p, vs, rfl, Or.inr (same_t e h1), (flat_v f1 ha).1, g1, ?_⟩
    rw [g2]
    exact k _ _ F H h (Or.inl ⟨rfl, rfl⟩) rB_
  · exact h.elim
end

/-! ### calls of built-ins -/
def lenR : RND
  | [.lst ds], P => P (.int (ds.length : Nat))
  | [.rol ds], P => P (.int (ds.length : Nat))
  | [.tup ds], P => P (.int (ds.length : Nat))
  | [.str x], P => x.length ≤ 16777216 ∧ P (.int (x.length : Nat))
  | _, _ => False
def absR : RND
  | [.int i], P => P (.int (if i < 0 then -i else i))
  | _, _ => False
def intR : RND
  | [.int i], P => P (.int i)
  | [.bl b], P => P (.int (if b then 1 else 0))
  | _, _ => False
def boolR : RND
  | [.int i], P => P (.bl (i != 0))
  | [.bl b], P => P (.bl b)
  | _, _ => False
def max2R : RND
  | [.int i, .int j], P => P (.int (if j > i then j else i))
  | _, _ => False
def min2R : RND
  | [.int i, .int j], P => P (.int (if j < i then j else i))
  | _, _ => False
def listR : List D → (List D → Prop) → Prop
  | [.lst ds], P => P ds
  | [.rol ds], P => P ds
  | [.tup ds], P => P ds
  | _, _ => False
def tupleR : RND
  | [.lst ds], P => P (.tup ds)
  | [.rol ds], P => P (.tup ds)
  | [.tup ds], P => P (.tup ds)
  | _, _ => False
/-- ints -/
def intsD : List D → Option (List Int)
  | [] => some []
  | .int i :: ds => match intsD ds with
    | some ns => some (i :: ns)
    | none => none
  | _ :: _ => none
theorem intsD_eq : ∀ {ds : List D} {ns : List Int}, intsD ds = some ns → ds = ns.map D.int
  | [], ns, h => by
    cases h
    rfl
  | .int i :: ds, ns, h => by
    unfold intsD at h
    cases q : intsD ds with
    | none => simp only [q] at h; cases h
    | some ms =>
      simp only [q] at h
      cases h
      rw [intsD_eq q]
      rfl
  | .non :: _, _, h => by cases h
  | .bl _ :: _, _, h => by cases h
  | .str _ :: _, _, h => by cases h
  | .tup _ :: _, _, h => by cases h
  | .lst _ :: _, _, h => by cases h
  | .rol _ :: _, _, h => by cases h
theorem intsD_map : ∀ (ns : List Int), intsD (ns.map D.int) = some ns
  | [] => rfl
  | n :: ns => by
    show (match intsD (ns.map D.int) with
      | some ms => some (n :: ms)
      | none => none) = _
    rw [intsD_map ns]
def sumR : RND
  | [.lst ds], P => match intsD ds with
    | some ns => P (.int ns.sum)
    | none => False
  | [.tup ds], P => match intsD ds with
    | some ns => P (.int ns.sum)
    | none => False
  | _, _ => False
/-- sum(..) of a tuple: the library has the call; here in terms of data -/
def rSumT (K : PySem.W.Frag) : List V → Hp → VK → Prop := fun args Hs k => ∃ (tp : Addr) (zs : List Int), args = [V.ref tp] ∧ SqT K Hs tp (zs.map V.int) ∧ k (.int zs.sum) Hs
theorem cr_sumT {X : Cx} (calm : X.calm = true) : CallR X (.builtin "sum") (rSumT X.K) := by
  intro pins st σ Hs vs args Q inv rd hyp
  rcases hyp with ⟨tp, zs, eqv, sq, post⟩
  subst eqv
  rcases inv.tuple sq with ⟨items, reads, atT, _⟩
  have allI : PyProof.Rows.IntsAre items zs := reads.ints
  rcases allI.allInts.items with ⟨ys, eqI⟩
  have nums : preSum (numAt ys) ys.size = zs.sum := by
    have z : numsOf (intItems ys).toList = zs := eqI ▸ allI.numsOf
    rw [preSum_eq, List.take_of_length_le (Nat.le_of_eq (by simp)), ← nums_intItems, z]
  have tup : st.heap.IsTuple tp (intItems ys) := eqI ▸ (show st.heap.IsTuple tp items.toArray from atT)
  rw [Vals.ref1 rd]
  exact PySem.W.ktm_sumG (inv.ok.hd calm) tup fun hp tok tk keep => nums ▸ ⟨.int zs.sum, Hs, inv.kept keep, ⟨_, rfl⟩, post⟩
/-- sorted(..) of ints -/
def sortedR : List D → (List D → Prop) → Prop
  | [.lst ds], P => match intsD ds with
    | some ns => ∀ ms : List Int, ms.Perm ns → ms.Pairwise (· ≤ ·) → P (ms.map D.int)
    | none => False
  | _, _ => False
section
variable {K : PySem.W.Frag} {F H : Hp} {v x y : V}
theorem one_v {d : D} {xs : List V} (h : RepVs K F H [d] xs) : ∃ v, xs = [v] ∧ RepV K F H d v := by
  obtain ⟨v, us, rfl, h1, h2⟩ := h
  rw [show us = [] from h2]
  exact ⟨v, rfl, h1⟩
theorem two_v {d e : D} {xs : List V} (h : RepVs K F H [d, e] xs) : ∃ v w, xs = [v, w] ∧ RepV K F H d v ∧ RepV K F H e w := by
  obtain ⟨v, us, rfl, h1, w, ws, rfl, h2, h3⟩ := h
  rw [show ws = [] from h3]
  exact ⟨v, w, rfl, h1, h2⟩
theorem cs_len : CallS K (fun xs H Q => ∃ x n, xs = [x] ∧ LenV K x H n ∧ Q (.int n) H) lenR := fun F H ds xs P Q e hr h k => by
  unfold lenR at h
  split at h
  · obtain ⟨v, rfl, r⟩ := one_v hr
    obtain ⟨p, vs, rfl, h1, h2⟩ := lst_v r
    exact ⟨_, _, rfl, Or.inl ⟨vs, SqL.of h1, h2.len.symm⟩, k _ _ F H h (Or.inl ⟨rfl, rfl⟩) rI_⟩
  · obtain ⟨v, rfl, r⟩ := one_v hr
    obtain ⟨p, vs, rfl, h1, h2⟩ := rol_v r
    exact ⟨_, _, rfl, Or.inl ⟨vs, same_l e h1, h2.len.symm⟩, k _ _ F H h (Or.inl ⟨rfl, rfl⟩) rI_⟩
  · obtain ⟨v, rfl, r⟩ := one_v hr
    obtain ⟨p, vs, rfl, h1, h2⟩ := tup_v r
    exact ⟨_, _, rfl, Or.inr ⟨vs, same_t e h1, h2.len.symm⟩, k _ _ F H h (Or.inl ⟨rfl, rfl⟩) rI_⟩
  · obtain ⟨v, rfl, r⟩ := one_v hr
    rw [str_v r]
    exact ⟨_, _, rfl, ⟨line_le h.1, rfl⟩, k _ _ F H h.2 (Or.inl ⟨rfl, rfl⟩) rI_⟩
  · exact h.elim
theorem cs_abs : CallS K (fun xs H Q => ∃ i, xs = [.int i] ∧ Q (.int (if i < 0 then -i else i)) H) absR := fun F H ds xs P Q e hr h k => by
  unfold absR at h
  split at h
  · obtain ⟨v, rfl, r⟩ := one_v hr
    rw [int_v r]
    exact ⟨_, rfl, k _ _ F H h (Or.inl ⟨rfl, rfl⟩) rI_⟩
  · exact h.elim
theorem cs_int : CallS K (fun xs H Q => (∃ i, xs = [.int i] ∧ Q (.int i) H) ∨ ∃ k, xs = [.bl k] ∧ Q (.int (if k then 1 else 0)) H) intR := fun F H ds xs P Q e hr h k => by
  unfold intR at h
  split at h
  · obtain ⟨v, rfl, r⟩ := one_v hr
    rw [int_v r]
    exact Or.inl ⟨_, rfl, k _ _ F H h (Or.inl ⟨rfl, rfl⟩) rI_⟩
  · obtain ⟨v, rfl, r⟩ := one_v hr
    rw [bl_v r]
    exact Or.inr ⟨_, rfl, k _ _ F H h (Or.inl ⟨rfl, rfl⟩) rI_⟩
  · exact h.elim
theorem cs_bool : CallS K (fun xs H Q => (∃ i, xs = [.int i] ∧ Q (.bl (i != 0)) H) ∨ ∃ k, xs = [.bl k] ∧ Q (.bl k) H) boolR := fun F H ds xs P Q e hr h k => by
  unfold boolR at h
  split at h
  · obtain ⟨v, rfl, r⟩ := one_v hr
    rw [int_v r]
    exact Or.inl ⟨_, rfl, k _ _ F H h (Or.inl ⟨rfl, rfl⟩) rB_⟩
  · obtain ⟨v, rfl, r⟩ := one_v hr
    rw [bl_v r]
    exact Or.inr ⟨_, rfl, k _ _ F H h (Or.inl ⟨rfl, rfl⟩) rB_⟩
  · exact h.elim
theorem cs_max2 : CallS K (fun xs H Q => ∃ i j, xs = [.int i, .int j] ∧ Q (.int (if j > i then j else i)) H) max2R := fun F H ds xs P Q e hr h k => by
  unfold max2R at h
  split at h
  · obtain ⟨v, w, rfl, r1, r2⟩ := two_v hr
    rw [int_v r1, int_v r2]
    exact ⟨_, _, rfl, k _ _ F H h (Or.inl ⟨rfl, rfl⟩) rI_⟩
  · exact h.elim
theorem cs_min2 : CallS K (fun xs H Q => ∃ i j, xs = [.int i, .int j] ∧ Q (.int (if j < i then j else i)) H) min2R := fun F H ds xs P Q e hr h k => by
  unfold min2R at h
  split at h
  · obtain ⟨v, w, rfl, r1, r2⟩ := two_v hr
    rw [int_v r1, int_v r2]
    exact ⟨_, _, rfl, k _ _ F H h (Or.inl ⟨rfl, rfl⟩) rI_⟩
  · exact h.elim
theorem cf_list : CallF K (fun xs H Q => ∃ p ys, xs = [.ref p] ∧ (SqL K H p ys ∨ SqT K H p ys) ∧ ∀ l, H l = none → Q (.ref l) (upd H l (.lst ys))) listR := fun F H ds xs P Q e hr h k => by
  unfold listR at h
  split at h
  · obtain ⟨v, rfl, r⟩ := one_v hr
    obtain ⟨p, vs, rfl, h1, h2⟩ := lst_v r
    exact ⟨p, vs, rfl, Or.inl (SqL.of h1), fun l hl => k _ l vs h hl h2⟩
  · obtain ⟨v, rfl, r⟩ := one_v hr
    obtain ⟨p, vs, rfl, h1, h2⟩ := rol_v r
    exact ⟨p, vs, rfl, Or.inl (same_l e h1), fun l hl => k _ l vs h hl h2⟩
  · obtain ⟨v, rfl, r⟩ := one_v hr
    obtain ⟨p, vs, rfl, h1, h2⟩ := tup_v r
    exact ⟨p, vs, rfl, Or.inr (same_t e h1), fun l hl => k _ l vs h hl h2⟩
  · exact h.elim
theorem cs_tuple : CallS K (fun xs H Q => ∃ p ys, xs = [.ref p] ∧ ((SqL K H p ys ∧ ∀ l, H l = none → Q (.ref l) (upd H l (.tup ys))) ∨ (SqT K H p ys ∧ Q (.ref p) H))) tupleR := fun F H ds xs P Q e hr h k => by
  unfold tupleR at h
  split at h
  · obtain ⟨v, rfl, r⟩ := one_v hr
    obtain ⟨p, vs, rfl, h1, h2⟩ := lst_v r
    exact ⟨p, vs, rfl, Or.inl ⟨SqL.of h1, fun l hl => k _ _ _ _ h (Grow.tup hl) (new_tup e hl h2)⟩⟩
  · obtain ⟨v, rfl, r⟩ := one_v hr
    obtain ⟨p, vs, rfl, h1, h2⟩ := rol_v r
    exact ⟨p, vs, rfl, Or.inl ⟨same_l e h1, fun l hl => k _ _ _ _ h (Grow.tup hl) (new_tup e hl h2)⟩⟩
  · obtain ⟨v, rfl, r⟩ := one_v hr
    obtain ⟨p, vs, rfl, h1, h2⟩ := tup_v r
    exact ⟨p, vs, rfl, Or.inr ⟨same_t e h1, k _ _ F H h (Or.inl ⟨rfl, rfl⟩) (tup_r h1 h2)⟩⟩
  · exact h.elim
theorem cs_sum : CallS K (fun xs H Q => rSum K xs H Q ∨ rSumT K xs H Q) sumR := fun F H ds xs P Q e hr h k => by
  unfold sumR at h
  split at h
  · obtain ⟨v, rfl, r⟩ := one_v hr
    obtain ⟨p, vs, rfl, h1, h2⟩ := lst_v r
    split at h
    · next ns q =>
      rw [intsD_eq q] at h2
      exact Or.inl ⟨p, ns, rfl, by rw [← h2.ints]; exact SqL.of h1, k _ _ F H h (Or.inl ⟨rfl, rfl⟩) rI_⟩
    · exact h.elim
  · obtain ⟨v, rfl, r⟩ := one_v hr
    obtain ⟨p, vs, rfl, h1, h2⟩ := tup_v r
    split at h
    · next ns q =>
      rw [intsD_eq q] at h2
      exact Or.inr ⟨p, ns, rfl, by rw [← h2.ints]; exact same_t e h1, k _ _ F H h (Or.inl ⟨rfl, rfl⟩) rI_⟩
    · exact h.elim
  · exact h.elim
theorem cf_sorted : CallF K (rSortedI K) sortedR := fun F H ds xs P Q e hr h k => by
  unfold sortedR at h
  split at h
  · obtain ⟨v, rfl, r⟩ := one_v hr
    obtain ⟨p, vs, rfl, h1, h2⟩ := lst_v r
    split at h
    · next ns q =>
      rw [intsD_eq q] at h2
      exact ⟨p, ns, rfl, by rw [← h2.ints]; exact SqL.of h1, fun ms l g1 g2 hl => k _ l _ (h ms g1 g2) hl (Reps.of_ints ms)⟩
    · exact h.elim
  · exact h.elim
end
/-! ### isinstance -/
def tyD : D → String
  | .non => "NoneType"
  | .bl _ => "bool"
  | .int _ => "int"
  | .str _ => "str"
  | .tup _ => "tuple"
  | .lst _ => "list"
  | .rol _ => "list"
theorem tyX_v {K : PySem.W.Frag} {F H : Hp} {v : V} {d : D} (e : Same F H) (r : RepV K F H d v) : TyX K H v (.type (tyD d)) := by
  cases d with
  | non => rw [non_v r]; exact .base .non
  | bl b => rw [bl_v r]; exact .base (.bl b)
  | int b => rw [int_v r]; exact .base (.int b)
  | str b => rw [str_v r]; exact .base (.str b)
  | tup ds =>
    obtain ⟨a, vs, rfl, h1, h2⟩ := tup_v r
    rcases same_t e h1 with (h | ⟨o, h⟩) | ⟨o, its, n, h, hc, _⟩
    · exact .base (.tup h)
    · exact .fTuple h
    · exact .kTuple h hc
  | lst ds =>
    obtain ⟨a, vs, rfl, h1, h2⟩ := lst_v r
    exact .base (.lst h1)
  | rol ds =>
    obtain ⟨a, vs, rfl, h1, h2⟩ := rol_v r
    rcases same_l e h1 with (h | ⟨o, h⟩) | ⟨o, its, n, h, hc, _⟩
    · exact .base (.lst h)
    · exact .base (.frz h)
    · exact .kList h hc
def isiD (T : String) (d : D) : Bool := tyD d == T || (tyD d == "bool" && T == "int")
theorem isi_all : ∀ t ∈ ["NoneType", "bool", "int", "str", "tuple", "list"], ∀ T ∈ ["tuple", "str", "int", "bool", "list"], kitB t T = some (t == T || (t == "bool" && T == "int")) := by decide +kernel
theorem tyD_mem (d : D) : tyD d ∈ ["NoneType", "bool", "int", "str", "tuple", "list"] := by cases d <;> simp [tyD]
theorem isi_ok {T : String} (h : T = "tuple" ∨ T = "str" ∨ T = "int" ∨ T = "bool" ∨ T = "list") (d : D) : kitB (tyD d) T = some (isiD T d) :=
  isi_all _ (tyD_mem d) T (by rcases h with rfl | rfl | rfl | rfl | rfl <;> simp)
def rIsiD (T : String) (r : DV) : DV := fun δ Q => r δ fun w δ1 => match vget δ1 w with
  | some d => Q (.val (.bl (isiD T d))) δ1
  | none => False
theorem e_isi {X : Cx} {T : String} {y : Str} {e : Expr} {ra : DV} {p p2 pos : Pos} (hT : T = "tuple" ∨ T = "str" ∨ T = "int" ∨ T = "bool" ∨ T = "list") (hg : Gl X "isinstance") (hm : X.mg "isinstance" = none) (he : PE X e (liftV X.K ra)) (hy : PE X (.Name y p2) (tC (.ty T)))
    (h1 : starEach (e :: [.Name y p2]) X.env = (false, eval e X.env) :: starEach [.Name y p2] X.env := by rfl) (h2 : starEach (.Name y p2 :: []) X.env = (false, eval (.Name y p2) X.env) :: starEach [] X.env := by rfl) (hpl : (backTo pos (starEach [.Name y p2] X.env)).any (·.1) = false := by rfl) :
    PE X (.Call (.Name "isinstance" p) [e, .Name y p2] [] pos) (liftV X.K (rIsiD T ra)) :=
  pe_wk (pe_callB call_isi hg hm PyProof.Rows.boot_isinstance (pa_cons he (pa_cons hy pa_nil h2) h1) (he := h1) (hpl := hpl)) fun σ H Q ⟨c, F, δ, P, S, h, k⟩ => ⟨c, F, δ, _, S, h, fun w δ1 h1 v F1 H1 e1 S1 r1 => by
    cases q : vget δ1 w with
    | none => simp only [q] at h1
    | some d =>
      simp only [q] at h1
      exact ⟨v, .ty T, .type (tyD d), .type T, isiD T d, rfl, .ty T, tyX_v S1.sub (S1.view r1 q), kit_ty (isi_ok hT d), k _ _ h1 _ F1 H1 e1 S1 bl_rel⟩⟩
end Dl

/-! Dl: own lists changed; names changed by an operator; slices; texts joined. -/
namespace Dl
open PySem L2 PySem.Spec PyProof.Rows

/-- x.append(e), x an own list -/
def sApp (i : Nat) (r : DV) : DSt := fun E δ => match sg δ i with
  | .own _ (.lst _) => r δ fun w δ1 => match w, sg δ1 i with
    | .val d, .own io (.lst ds) => ds.length < 16777216 ∧ E.nx (ss δ1 i (.own io (.lst (ds ++ [d]))))
    | _, _ => False
  | _ => False
/-- x[k] = e, x an own list -/
def setG (i : Nat) (E : DE) (w w2 : Vw) (δ2 : DS) : Prop := match w, w2, sg δ2 i with
  | .val d, .val (.int k), .own io (.lst ds) => match ixN ds.length k with
    | some j => E.nx (ss δ2 i (.own io (.lst (ds.set j d))))
    | none => False
  | _, _, _ => False
def sSetI (i : Nat) (rv ri : DV) : DSt := fun E δ => rv δ fun w δ1 => match sg δ1 i with
  | .own _ (.lst _) => ri δ1 fun w2 δ2 => setG i E w w2 δ2
  | _ => False
/-- x op= e -/
def sAug (i : Nat) (R : R2D) (r : DV) : DSt := fun E δ => match sg δ i with
  | .frz a => r δ fun w δ1 => match vget δ1 w with
    | some b => R a b fun d => okSet δ1 i = true ∧ E.nx (ss δ1 i (.frz d))
    | none => False
  | _ => False
section
variable {X : Cx} {e o : Expr} {es : List Expr} {ra rb : DV} {pos apos : Pos}
theorem app_sound {i : Nat} : ∀ D σ H, liftS X.K (sApp i ra) D σ H → tDrop (tBM X.K "list" rAppend (tVar i) (tCons (liftV X.K ra) tNil)) D σ H := fun D σ H ⟨c, F, δ, E, S, h, L⟩ => by
    unfold sApp at h
    cases q : sg δ i with
    | no => simp only [q] at h
    | frz _ => simp only [q] at h
    | own io0 x0 =>
      cases x0 with
      | dic _ => simp only [q] at h
      | dicT _ => simp only [q] at h
      | lst ds0 =>
        simp only [q] at h
        obtain ⟨l, ho, h1, h2, h3, h4, vs, rfl, h5⟩ := S.own (sg_at q (by intro z; cases z))
        refine ⟨_, h1, Or.inl ⟨rfl, vs, SqL.of h4⟩, c, F, δ, _, S, h, fun w δ1 g v F1 H1 e1 S1 r1 => ?_⟩
        cases w with
        | slot j => exact g.elim
        | val d =>
          cases q1 : sg δ1 i with
          | no => simp only [q1] at g
          | frz _ => simp only [q1] at g
          | own io1 x1 =>
            cases x1 with
            | dic _ => simp only [q1] at g
            | dicT _ => simp only [q1] at g
            | lst ds =>
              simp only [q1] at g
              have hq1 := sg_at q1 (by intro z; cases z)
              obtain ⟨l1, ho1, k1, k2, k3, k4, us, rfl, k5⟩ := S1.own hq1
              rw [h1] at k1
              cases k1
              rw [ss_eq] at g
              exact ⟨l, us, v, rfl, rfl, k4, by rw [k5.len, sizeLine_eq]; exact g.1, L.nx _ g.2 σ F1 _ e1 (S1.put hq1 h1 ⟨_, rfl, Reps.append k5 (Reps.cons r1 Reps.nil)⟩)⟩
theorem s_setI (i : Nat) {x : Str} {p spos : Pos} {k : Expr} (h : PE X (.Name x p) (tVar i)) (hv : PE X e (liftV X.K ra)) (hk : PE X k (liftV X.K rb))
    (ha : ∀ v, assign (.Subscript (.Name x p) k spos) X.env v = (do
      let ov ← holding [v] (eval (.Name x p) X.env)
      let iv ← holding [v, ov] (eval k X.env)
      standAt spos
      holding [v, ov, iv] <| setItem ov iv v
      release [v, ov, iv] []) := by intro _; rfl)
    (hs : swapsWithSole [.Subscript (.Name x p) k spos] e pos.line X.env = pure false := by rfl) (hw : swappedStores [.Subscript (.Name x p) k spos] e X.env = pure none := by rfl)
    (h1 : (assignEach [.Subscript (.Name x p) k spos] X.env).map (·.2) = [assign (.Subscript (.Name x p) k spos) X.env] := by rfl) :
    PS X (.Assign [.Subscript (.Name x p) k spos] e pos) (liftS X.K (sSetI i ra rb)) :=
  ps_wk (ps_asg hv (pg_sub h hk set_list ha) hs hw h1) fun D σ H ⟨c, F, δ, E, S, h, L⟩ => ⟨c, F, δ, _, S, h, fun w δ1 g v F1 H1 e1 S1 r1 => by
    cases q : sg δ1 i with
    | no => simp only [q] at g
    | frz _ => simp only [q] at g
    | own io0 x0 =>
      cases x0 with
      | dic _ => simp only [q] at g
      | dicT _ => simp only [q] at g
      | lst ds0 =>
        simp only [q] at g
        obtain ⟨l, ho, k1, _⟩ := S1.own (sg_at q (by intro z; cases z))
        refine ⟨.ref l, k1, c, F1, δ1, _, S1, g, fun w2 δ2 g v2 F2 H2 e2 S2 r2 => ?_⟩
        unfold setG at g
        cases w with
        | slot j => exact g.elim
        | val d =>
          cases w2 with
          | slot j => exact g.elim
          | val d2 =>
            cases d2 with
            | int kk =>
              cases q1 : sg δ2 i with
              | no => simp only [q1] at g
              | frz _ => simp only [q1] at g
              | own io1 x1 =>
                cases x1 with
                | dic _ => simp only [q1] at g
                | dicT _ => simp only [q1] at g
                | lst ds =>
                  simp only [q1] at g
                  have hq1 := sg_at q1 (by intro z; cases z)
                  obtain ⟨l1, ho1, m1, m2, m3, m4, us, rfl, m5⟩ := S2.own hq1
                  rw [k1] at m1
                  cases m1
                  cases q2 : ixN ds.length kk with
                  | none => simp only [q2] at g
                  | some j =>
                    simp only [q2] at g
                    rw [ss_eq] at g
                    have r1' : Rep X.K F2 d v := Rep.mono e2 _ _ r1
                    refine ⟨l, us, kk, j, rfl, int_of r2, m4, by rw [m5.len]; exact q2, L.nx _ g σ F2 _ (e1.trans e2) (S2.put hq1 k1 ⟨_, rfl, Reps.set j m5 r1'⟩)⟩
            | _ => exact g.elim⟩
theorem s_aug {i : Nat} {x : Str} {op : Operator} {r : R2} {R : R2D} {pos' : Pos} (hN : X.N.Nodup) (hi : X.N[i]? = some x) (hx : Loc X.env.scope x) (ho : OpR X (inplaceOp op) r) (hs : OpS X.K r R) (he : PE X e (liftV X.K ra)) (hf : X.fn x = true ∨ X.env.scope.names.lookup x = some .local := by first | exact .inl rfl | exact .inr rfl | assumption) :
    PS X (.AugAssign (.Name x pos') op e pos) (liftS X.K (sAug i R ra)) :=
  ps_wk (ps_aug (ti := r) hN hi hx he (fun pins s σ H x y v u Q I r1 r2 h => ho pins s σ H x y v u Q I r1 r2 h) hf) fun D σ H ⟨c, F, δ, E, S, h, L⟩ => by
    unfold sAug at h
    cases q : sg δ i with
    | no => simp only [q] at h
    | own _ _ => simp only [q] at h
    | frz a =>
      simp only [q] at h
      obtain ⟨o, h1, v0, rfl, h2⟩ := S.at (sg_at q (by intro z; cases z))
      refine ⟨v0, h1, c, F, δ, _, S, h, fun w δ1 g v F1 H1 e1 S1 r1 => ?_⟩
      cases q1 : vget δ1 w with
      | none => simp only [q1] at g
      | some b =>
        simp only [q1] at g
        refine hs F1 H1 a b v0 v _ _ S1.sub (Rep.view S1.sub (Rep.mono e1 _ _ h2)) (S1.view r1 q1) g fun d z F2 H2 hd gr rz => ?_
        obtain ⟨e2, S2⟩ := S1.grow gr
        rw [ss_eq] at hd
        exact L.nx _ hd.2 _ F2 H2 (e1.trans e2) (S2.asg (okSet_io hd.1) rz)
/-! ### slices -/
abbrev DO := DS → (Option Int → DS → Prop) → Prop
def liftO (K : PySem.W.Frag) (r : DO) : TO := fun σ H Q => ∃ c F δ P, StOk K c F σ H δ ∧ r δ P ∧ ∀ o δ', P o δ' → ∀ F' H', Same F F' → StOk K c F' σ H' δ' → Q o H'
def oNone : DO := fun δ Q => Q none δ
def oSome (r : DV) : DO := fun δ Q => r δ fun w δ1 => match w with
  | .val (.int i) => Q (some i) δ1
  | _ => False
theorem po_wk {e : Option Expr} {t t' : TO} (h : PO X e t) (w : ∀ σ H Q, t' σ H Q → t σ H Q) : PO X e t' := ⟨fun pins s σ H Q I q => h.run pins s σ H Q I (w σ H Q q)⟩
theorem o_none : PO X none (liftO X.K oNone) := po_wk po_none fun σ H Q ⟨c, F, δ, P, S, h, k⟩ => k _ _ h F H (Same.refl _) S
theorem o_some (he : PE X e (liftV X.K ra)) : PO X (some e) (liftO X.K (oSome ra)) := po_wk (po_some he) fun σ H Q ⟨c, F, δ, P, S, h, k⟩ => ⟨c, F, δ, _, S, h, fun w δ1 g v F1 H1 e1 S1 r1 => by
  cases w with
  | slot j => exact g.elim
  | val d =>
    cases d with
    | int i => exact ⟨i, int_of r1, k _ _ g F1 H1 e1 S1⟩
    | _ => exact g.elim⟩
def cutD {α : Type} (xs : List α) (lo hi : Option Int) : List α := (xs.drop (HT.sIx xs.length 0 lo)).take (HT.sIx xs.length xs.length hi - HT.sIx xs.length 0 lo)
/-- a slice of a tuple, of a text -/
def slR (d : D) (lo hi : Option Int) (P : D → Prop) : Prop := match d with
  | .tup ds => P (.tup (cutD ds lo hi))
  | .str x => x.length ≤ 16777216 ∧ P (.str (cutS x lo hi))
  | _ => False
def slFR (d : D) (lo hi : Option Int) (P : List D → Prop) : Prop := match d with
  | .lst ds => P (cutD ds lo hi)
  | .rol ds => P (cutD ds lo hi)
  | _ => False
def rSl (r : DV) (lo hi : DO) : DV := fun δ Q => r δ fun w δ1 => lo δ1 fun l δ2 => hi δ2 fun u δ3 => match vget δ3 w with
  | some d => slR d l u fun e => Q (.val e) δ3
  | none => False
def rSlF (r : DV) (lo hi : DO) : DF := fun δ Q => r δ fun w δ1 => lo δ1 fun l δ2 => hi δ2 fun u δ3 => match vget δ3 w with
  | some d => slFR d l u fun es => Q es δ3
  | none => False
theorem Reps.cut {K : PySem.W.Frag} {F : Hp} {ds : List D} {vs : List V} (r : Reps K F ds vs) (lo hi : Option Int) : Reps K F (cutD ds lo hi) (cutV vs lo hi) := by
  unfold cutD cutV
  rw [r.len]
  exact (r.drop _).take _
theorem e_sl {lo hi : Option Expr} {dl dh : DO} {p2 : Pos} (he : PE X e (liftV X.K ra)) (hl : PO X lo (liftO X.K dl)) (hu : PO X hi (liftO X.K dh)) : PE X (.Subscript e (.Slice lo hi none p2) pos) (liftV X.K (rSl ra dl dh)) :=
  pe_wk (pe_slice (sl_tupA.or sl_str) he hl hu) fun σ H Q ⟨c, F, δ, P, S, h, k⟩ => ⟨c, F, δ, _, S, h, fun w δ1 g v F1 H1 e1 S1 r1 => ⟨c, F1, δ1, _, S1, g, fun l δ2 g F2 H2 e2 S2 => ⟨c, F2, δ2, _, S2, g, fun u δ3 g F3 H3 e3 S3 => by
    cases q : vget δ3 w with
    | none => simp only [q] at g
    | some d =>
      simp only [q] at g
      have rv := S3.view (r1.mono (e2.trans e3)) q
      unfold slR at g
      have e13 := (e1.trans e2).trans e3
      split at g
      · obtain ⟨a, vs, rfl, h1, h2⟩ := tup_v rv
        refine Or.inl ⟨a, vs, rfl, same_t S3.sub h1, fun hw => ?_, fun _ p hp => ?_⟩
        · refine k _ _ g _ F3 H3 e13 S3 (tup_r h1 ?_)
          have : cutV vs l u = vs := by
            unfold cutV
            rw [hw.1, hw.2, List.drop_zero, Nat.sub_zero, List.take_length]
          rw [← this]
          exact h2.cut l u
        · obtain ⟨e4, S4⟩ := S3.alloc (o := .tup (cutV vs l u)) hp
          exact k _ _ g _ _ _ (e13.trans e4) S4 (new_tup S3.sub hp (h2.cut l u))
      · rw [str_v rv]
        exact Or.inr ⟨_, rfl, line_le g.1, k _ _ g.2 _ F3 H3 e13 S3 (by show Rep _ _ _ _; exact rS_)⟩
      · exact g.elim⟩⟩⟩
theorem e_slF {lo hi : Option Expr} {dl dh : DO} {p2 : Pos} (he : PE X e (liftV X.K ra)) (hl : PO X lo (liftO X.K dl)) (hu : PO X hi (liftO X.K dh)) : PE X (.Subscript e (.Slice lo hi none p2) pos) (liftF X.K (rSlF ra dl dh)) :=
  pe_wk (pe_slice sl_list he hl hu) fun σ H Q ⟨c, F, δ, P, S, h, k⟩ => ⟨c, F, δ, _, S, h, fun w δ1 g v F1 H1 e1 S1 r1 => ⟨c, F1, δ1, _, S1, g, fun l δ2 g F2 H2 e2 S2 => ⟨c, F2, δ2, _, S2, g, fun u δ3 g F3 H3 e3 S3 => by
    cases q : vget δ3 w with
    | none => simp only [q] at g
    | some d =>
      simp only [q] at g
      have rv := S3.view (r1.mono (e2.trans e3)) q
      unfold slFR at g
      have e13 := (e1.trans e2).trans e3
      split at g
      · obtain ⟨a, vs, rfl, h1, h2⟩ := lst_v rv
        refine ⟨a, vs, rfl, SqL.of h1, fun p hp => ?_⟩
        obtain ⟨S4, fr⟩ := S3.fresh (o := .lst (cutV vs l u)) hp
        exact k _ _ g p _ F3 _ e13 S4 fr upd_same (h2.cut l u)
      · obtain ⟨a, vs, rfl, h1, h2⟩ := rol_v rv
        refine ⟨a, vs, rfl, same_l S3.sub h1, fun p hp => ?_⟩
        obtain ⟨S4, fr⟩ := S3.fresh (o := .lst (cutV vs l u)) hp
        exact k _ _ g p _ F3 _ e13 S4 fr upd_same (h2.cut l u)
      · exact g.elim⟩⟩⟩
/-! ### lists joined, repeated -/
def catR : D → D → (List D → Prop) → Prop
  | .lst xs, .lst ys, P => xs.length + ys.length ≤ 16777216 ∧ P (xs ++ ys)
  | _, _, _ => False
def repR : D → D → (List D → Prop) → Prop
  | .lst xs, .int k, P => (-(2 ^ 63) ≤ k ∧ k < 2 ^ 63 ∧ xs.length * k.toNat ≤ 16777216) ∧ P (List.replicate k.toNat xs).flatten
  | _, _, _ => False
theorem of_cat {K : PySem.W.Frag} : OpF K rCat catR := fun F H a b x y P Q e ha hb h k => by
  unfold catR at h
  split at h
  · obtain ⟨p, vs, rfl, h1, h2⟩ := lst_v ha
    obtain ⟨q, us, rfl, g1, g2⟩ := lst_v hb
    exact ⟨p, q, vs, us, rfl, rfl, h1, g1, by rw [h2.len, g2.len]; exact line_le h.1, fun l hl => k _ l _ h.2 hl (h2.append g2)⟩
  · exact h.elim
end
end Dl

/-! Dl: what the printed derivations use. -/
namespace Dl
open PySem L2 PySem.Spec PyProof.Rows

section
variable {X : Cx} {tg e : Expr} {tl : TE} {ra : DV}
def iSeq (K : PySem.W.Frag) (tl : TE) : TI := fun σ H R => tl σ H fun x H1 => (∃ z, x = .str z ∧ R (Its z) H1) ∨ ∃ a, x = .ref a ∧ (((∃ xs, SqL K H1 a xs) ∧ R (Itl K a) H1) ∨ ((∃ xs, SqT K H1 a xs) ∧ R (Itt K a) H1))
/-- a loop's source that is a text, a list or a tuple, whichever the reading finds -/
theorem pi_seq {le : Expr} (pl : PE X le tl) : PI X tg le (iSeq X.K tl) := ⟨fun pins st σ H after inv hyp => by
  refine thn (pl.run pins st σ H _ inv hyp) fun u st' hu => ?_
  rcases hu with ⟨_, H', inv', same, ⟨z, eqz, go⟩ | ⟨adr, eqx, cases2⟩⟩
  · subst eqz
    obtain ⟨tk, rfl⟩ := same
    cases asc : z.cps.all (· < 128)
    · exact wpAny_pyIter_wide asc (pi_one (tk := st'.toks) inv' _ (turn_str _ z tk "str_iterator" (.inr rfl)) ⟨_, Heap.get?_push_size _ rfl, rfl, rfl⟩ go)
    · exact wpAny_pyIter_ascii asc (pi_one (tk := st'.toks) inv' _ (turn_str _ z tk "str_ascii_iterator" (.inl rfl)) ⟨_, Heap.get?_push_size _ rfl, rfl, rfl⟩ go)
  subst eqx; cases same
  have up : ∀ {ob : Obj} (b : Addr) (o : Obj), st'.heap.get? b = some o → (st'.heap.push ob).get? b = some o := fun b o e => Heap.get?_push_of_some _ e
  have own : ∀ b ∈ [st'.heap.objs.size], FpOk X pins H' b := fun b hb => by rw [List.mem_singleton.mp hb]; exact inv'.fpOk (Nat.le_refl _) (inv'.hok.fresh (Nat.le_refl _))
  rcases cases2 with ⟨⟨_, sq⟩, go⟩ | ⟨⟨_, sq⟩, go⟩
  · rcases inv'.list sq with ⟨_, _, isl, _⟩
    exact wpAny_pyIter_list isl.isList ⟨_, _, _, _, H', rfl, inv'.kept (t' := st'.toks) up, turn_list adr _, ⟨_, Heap.get?_push_size _ rfl, rfl, rfl⟩, own, go⟩
  · rcases inv'.tuple sq with ⟨arr, _, ist, _⟩
    exact wpAny_pyIter_tuple (show Heap.IsTuple st'.heap adr arr.toArray from ist) ⟨_, _, _, _, H', rfl, inv'.kept (t' := st'.toks) up, turn_tuple adr _, ⟨_, Heap.get?_push_size _ rfl, rfl, rfl⟩, own, go⟩⟩
theorem src_str {K : PySem.W.Frag} {c : Ct} {x : Str} {F0 : Hp} : SrcOk K c (Its x) F0 (x.cps.toList.map fun c => .str ⟨#[c]⟩) := by
  have sz : x.cps.size = x.cps.toList.length := rfl
  refine ⟨fun F σ H δ e S => ?_, fun i F σ H δ hi e S => ?_, fun i d F σ H δ y H' hi e S q => ?_⟩
  · show x.cps.size ≤ _
    rw [List.length_map, sz]
    exact Nat.le_refl _
  · rw [List.length_map] at hi
    exact hi
  · obtain ⟨rfl, c, hc, rfl⟩ := q
    rw [List.getElem?_map, Array.getElem?_toList, hc] at hi
    cases hi
    exact ⟨F, Same.refl _, S, by simp only [Rep], fun p o f hp => ⟨f, hp⟩⟩
/-- a text, a list or a tuple, as data -/
def iSeqD (r : DV) : DI := fun δ Q => r δ fun w δ1 => match w with
  | .val (.lst ds) => Q ds δ1
  | .val (.rol ds) => Q ds δ1
  | .val (.tup ds) => Q ds δ1
  | .val (.str x) => Q (x.cps.toList.map fun c => .str ⟨#[c]⟩) δ1
  | _ => False
theorem i_seq (h : PE X e (liftV X.K ra)) : PI X tg e (liftI X.K (iSeqD ra)) := pi_wk (pi_seq h) fun σ H R ⟨c, F, δ, P, S, h, k⟩ => ⟨c, F, δ, _, S, h, fun w δ1 h1 v F1 H1 e1 S1 r1 => by
  cases w with
  | slot i => exact h1.elim
  | val d =>
    cases d with
    | lst ds =>
      have r : Rep X.K F1 (.lst ds) v := r1
      simp only [Rep] at r
      obtain ⟨a, vs, rfl, g1, g2⟩ := r
      exact Or.inr ⟨a, rfl, Or.inl ⟨⟨vs, SqL.of (S1.sub _ _ g1)⟩, k _ _ h1 _ F1 H1 e1 S1 (src_list g1 g2)⟩⟩
    | rol ds =>
      have r : Rep X.K F1 (.rol ds) v := r1
      simp only [Rep] at r
      obtain ⟨a, vs, rfl, g1, g2⟩ := r
      exact Or.inr ⟨a, rfl, Or.inl ⟨⟨vs, same_l S1.sub g1⟩, k _ _ h1 _ F1 H1 e1 S1 (src_rol g1 g2)⟩⟩
    | tup ds =>
      have r : Rep X.K F1 (.tup ds) v := r1
      simp only [Rep] at r
      obtain ⟨a, vs, rfl, g1, g2⟩ := r
      exact Or.inr ⟨a, rfl, Or.inr ⟨⟨vs, same_t S1.sub g1⟩, k _ _ h1 _ F1 H1 e1 S1 (src_tup g1 g2)⟩⟩
    | str x =>
      have ex : v = .str x := by simpa only [VwRel, Rep] using r1
      exact Or.inl ⟨x, ex, k _ _ h1 _ F1 H1 e1 S1 src_str⟩
    | _ => exact h1.elim⟩
theorem asgF_by {i : Nat} {r : DF} {te : TE} (w : ∀ σ H Q, liftF X.K r σ H Q → te σ H Q) : ∀ D σ H, liftS X.K (sAsgF i r) D σ H → tAsg te (gName i) D σ H := fun D σ H ⟨c, F, δ, E, S, h, L⟩ => w σ H _ ⟨c, F, δ, _, S, h, fun ds δ1 h1 p vs F1 H1 e1 S1 fr hp r1 => by
  obtain ⟨h2, h3⟩ := h1
  rw [ss_eq] at h3
  exact L.nx _ h3 _ F1 H1 e1 (S1.asgO (okSet_io h2) fr hp ⟨vs, rfl, r1⟩)⟩
end
section
variable {X : Cx} {a b e : Expr} {ra rb rc : DV} {pos : Pos}
theorem pts_yes : PTs X [] (liftT X.K rYes) := ⟨fun pins s σ H Q I ⟨c, F, δ, P, S, h, k⟩ => pts_nil.run pins s σ H Q I (k _ _ h F H (Same.refl _) S)⟩
theorem chain_sound {r r' : R2} {R R' : R2D} (hs : OpS X.K r R) (hs' : OpS X.K r' R') : ∀ σ H Q, liftV X.K (rChain R R' ra rb rc) σ H Q → tChain r r' (liftV X.K ra) (liftV X.K rb) (liftV X.K rc) σ H Q := fun σ H Q ⟨c, F, δ, P, S, h, k⟩ =>
  ⟨c, F, δ, _, S, h, fun w1 δ1 h1 x F1 H1 e1 S1 r1 => ⟨c, F1, δ1, _, S1, h1, fun w2 δ2 h2 y F2 H2 e2 S2 r2 => by
    cases q1 : vget δ2 w1 with
    | none => simp only [q1] at h2
    | some d1 =>
      cases q2 : vget δ2 w2 with
      | none => simp only [q1, q2] at h2
      | some d2 =>
        simp only [q1, q2] at h2
        refine hs F2 H2 d1 d2 x y _ _ S2.sub (S2.view (r1.mono e2) q1) (S2.view r2 q2) h2 fun d v F3 H3 hd g rv => ?_
        obtain ⟨e3, S3⟩ := S2.grow g
        cases d with
        | bl kk =>
          have ev : v = .bl kk := by simpa only [Rep] using rv
          refine ⟨kk, ev, ?_⟩
          cases kk with
          | false =>
            replace hd := hd.2 (by decide)
            simp only [if_false, Bool.false_eq_true]
            exact k _ _ hd _ F3 H3 ((e1.trans e2).trans e3) S3 bl_rel
          | true =>
            replace hd := hd.1 rfl
            simp only [if_true]
            refine ⟨c, F3, δ2, _, S3, hd, fun w3 δ3 h3 z F4 H4 e4 S4 r3 => ?_⟩
            cases p1 : vget δ3 w2 with
            | none => simp only [p1] at h3
            | some b' =>
              cases p2 : vget δ3 w3 with
              | none => simp only [p1, p2] at h3
              | some c' =>
                simp only [p1, p2] at h3
                refine hs' F4 H4 b' c' y z _ _ S4.sub (S4.view (r2.mono (e3.trans e4)) p1) (S4.view r3 p2) h3 fun d v F5 H5 hd g rv => ?_
                obtain ⟨e5, S5⟩ := S4.grow g
                exact k _ _ hd v F5 H5 ((((e1.trans e2).trans e3).trans e4).trans e5) S5 rv
        | _ => exact hd.elim⟩⟩
def iaddR : R2D
  | .int i, .int j, P => P (.int (i + j))
  | .str s, .str t, P => s.length + t.length ≤ 16777216 ∧ P (.str (s ++ t))
  | _, _, _ => False
theorem os_iadd {K : PySem.W.Frag} : OpS K (fun x y H Q => (rI0 fun i j => .int (i + j)) x y H Q ∨ ∃ i j, x = .str i ∧ y = .str j ∧ i.length + j.length ≤ sizeLine ∧ Q (.str (i ++ j)) H) iaddR := fun F H a b x y P Q e ha hb h k => by
  unfold iaddR at h
  split at h
  · exact Or.inl ⟨_, _, int_v ha, int_v hb, k _ _ F H h (Or.inl ⟨rfl, rfl⟩) rI_⟩
  · exact Or.inr ⟨_, _, str_v ha, str_v hb, line_le h.1, k _ _ F H h.2 (Or.inl ⟨rfl, rfl⟩) rS_⟩
  · exact h.elim
theorem iop_addD : OpR X (inplaceOp .Add) (fun x y H Q => (rI0 fun i j => .int (i + j)) x y H Q ∨ ∃ i j, x = .str i ∧ y = .str j ∧ i.length + j.length ≤ sizeLine ∧ Q (.str (i ++ j)) H) := iop_add.or iop_add_str
end
/-- a def that may be called -/
structure Cal (P : Program) (w : World) (K : PySem.W.Frag) (mg : Str → Option Value) (base : Heap) (k : Nat) (x : Str) (ps : List Str) (S : DSp) : Prop where
  ex : ∃ f fd, FnOk P w K mg base CX0 k f fd ps (spD K ps.length S) ∧ mg x = some (.ref f) ∧ PySem.W.keepIn K (.ref f) = true ∧ Binds K fd ps []
section
variable {X : Cx} {k j : Nat} {ps : List Str} {S : DSp} {x : Str} {p pos : Pos} {e : Expr} {es : List Expr} {rs : DA}
theorem e_cal {n : Nat} (C : Cal X.prog X.w X.K X.mg X.base k x ps S) (hr : Room j X.A) (hkj : k ≤ j) (hg : Gl X x) (ha : PA X (e :: es) (liftA X.K rs)) (hn : ps.length = n := by rfl) (hdb : (x == ("__debug__" : Str)) = false := by decide) (he : starEach (e :: es) X.env = (false, eval e X.env) :: starEach es X.env := by rfl) (hpl : (backTo pos (starEach es X.env)).any (·.1) = false := by rfl) :
    PE X (.Call (.Name x p) (e :: es) [] pos) (liftV X.K (rCall n S rs)) := by
  subst hn
  obtain ⟨f, fd, G, hm, hk, hb⟩ := C.ex
  exact e_call G hr hkj hm hk hb hg ha hdb he hpl
theorem e_calF {n : Nat} (C : Cal X.prog X.w X.K X.mg X.base k x ps S) (hr : Room j X.A) (hkj : k ≤ j) (hg : Gl X x) (ha : PA X (e :: es) (liftA X.K rs)) (hn : ps.length = n := by rfl) (hdb : (x == ("__debug__" : Str)) = false := by decide) (he : starEach (e :: es) X.env = (false, eval e X.env) :: starEach es X.env := by rfl) (hpl : (backTo pos (starEach es X.env)).any (·.1) = false := by rfl) :
    PE X (.Call (.Name x p) (e :: es) [] pos) (liftF X.K (rCallF n S rs)) := by
  subst hn
  obtain ⟨f, fd, G, hm, hk, hb⟩ := C.ex
  exact e_callF G hr hkj hm hk hb hg ha hdb he hpl
end
/-- a def of the text, as the head leaves it -/
structure Df (K : PySem.W.Frag) (x : Str) (st : Stmt) : Prop where
  ex : ∃ (f : Addr) (oc : Value) (od an : Option Addr) (osl : Array (Option Value)) (kV doc pm cdv ct : Value), PySem.W.nsIn K mainGlobals x = some (some (.ref f)) ∧
    K.lookup f = some ⟨oc, od, .func (PySem.W.fnOf x x (defArgs st) (defBody st) (defScope st) .none kV doc pm an cdv ct), osl⟩ ∧ PySem.W.codeIn K cdv x = true ∧ PySem.W.keepIn K (.ref f) = true
theorem df_mk {K : PySem.W.Frag} {x : Str} {st : Stmt} {f : Addr} {oc : Value} {od an : Option Addr} {osl : Array (Option Value)} {kV doc pm cdv ct : Value} (a : PySem.W.nsIn K mainGlobals x = some (some (.ref f)))
    (l : K.lookup f = some ⟨oc, od, .func (PySem.W.fnOf x x (defArgs st) (defBody st) (defScope st) .none kV doc pm an cdv ct), osl⟩) (c : PySem.W.codeIn K cdv x = true) (k : PySem.W.keepIn K (.ref f) = true) : Df K x st :=
  ⟨f, oc, od, an, osl, kV, doc, pm, cdv, ct, a, l, c, k⟩
section
variable {P : Program} {w : World} {mg : Str → Option Value} {K : PySem.W.Frag} {base : Heap}
/-- from the head's facts and the body to what callers use -/
theorem cal_mk {x : Str} {st : Stmt} {N ps : List Str} {k : Nat} {S : DSp} {h : Heap} (X : K.In h) (G : h.Ns mainGlobals mg) (d : Df K x st) (Sc : FnScope N ps (defScope st)) (r : DSt)
    (hb : ∀ (kV doc pm : Value) (an : Option Addr) (cdv ct : Value) (us : List Value), us.length = ps.length → bindArgs (PySem.W.fnOf x x (defArgs st) (defBody st) (defScope st) .none kV doc pm an cdv ct) ⟨us, []⟩ = pure (ps.zip us))
    (der : ∀ (f : Addr) (cdv : Value) (A : Around) (outer : List Env) (s : Shared) (H : Hp) (E : XK), Room k (A.deeper (envOfC x (defScope st) s.heap.objs.size f cdv)) → PSs (cxOf CX0 P w K mg base N x (defScope st) f cdv A outer s H E).nox (defBody st) (liftS K r))
    (hbody : ∀ as P, as.length = ps.length → S as P → r { nx := fun δ => P (.v .non) (outsOf 0 as δ), rt := fun rt δ => P rt (outsOf 0 as δ) } (startD N.length as)) : Cal P w K mg base (k + 1) x ps S := by
  obtain ⟨f, oc, od, an, osl, kV, doc, pm, cdv, ct, a, l, c, kp⟩ := d.ex
  have F := fun_mk (st := st) l c kp
  exact ⟨f, _, fn_d F Sc r (fun cdv _ => der f cdv) hbody, PySem.W.mg_of X G a, kp, F.binds hb⟩
end
section
variable {P : Program} {w : World} {mg : Str → Option Value} {K : PySem.W.Frag} {base : Heap}
/-- a promise that nobody asks for -/
theorem cal_none {x : Str} {st : Stmt} {ps : List Str} {k : Nat} {h : Heap} (X : K.In h) (G : h.Ns mainGlobals mg) (d : Df K x st)
    (hb : ∀ (kV doc pm : Value) (an : Option Addr) (cdv ct : Value) (us : List Value), us.length = ps.length → bindArgs (PySem.W.fnOf x x (defArgs st) (defBody st) (defScope st) .none kV doc pm an cdv ct) ⟨us, []⟩ = pure (ps.zip us)) : Cal P w K mg base k x ps (fun _ _ => False) := by
  obtain ⟨f, oc, od, an, osl, kV, doc, pm, cdv, ct, a, l, c, kp⟩ := d.ex
  have F := fun_mk (st := st) l c kp
  exact ⟨f, _, ⟨fun vs H Q E ⟨_, _, _, _, _, _, _, _, _, z, _⟩ => z.elim, fun A outer s H args us vs Q E _ _ _ _ ⟨_, _, _, _, _, _, _, _, _, z, _⟩ => z.elim⟩, PySem.W.mg_of X G a, kp, F.binds hb⟩
end
/-- the built-ins' names are the built-ins' -/
structure Blt (mg : Str → Option Value) : Prop where
  abs : mg "abs" = none
  int : mg "int" = none
  max : mg "max" = none
  min : mg "min" = none
  len : mg "len" = none
  range : mg "range" = none
  list : mg "list" = none
  tuple : mg "tuple" = none
  isinstance : mg "isinstance" = none
  sum : mg "sum" = none
  sorted : mg "sorted" = none
  zip : mg "zip" = none
  enumerate : mg "enumerate" = none
  bool : mg "bool" = none
  str : mg "str" = none
  set : mg "set" = none
  any : mg "any" = none
  all : mg "all" = none
  reversed : mg "reversed" = none
theorem blt_mk {K : PySem.W.Frag} {h : Heap} {mg : Str → Option Value} (X : K.In h) (G : h.Ns mainGlobals mg) (z1 : PySem.W.nsIn K mainGlobals "abs" = some none) (z2 : PySem.W.nsIn K mainGlobals "int" = some none) (z3 : PySem.W.nsIn K mainGlobals "max" = some none)
    (z4 : PySem.W.nsIn K mainGlobals "min" = some none) (z5 : PySem.W.nsIn K mainGlobals "len" = some none) (z6 : PySem.W.nsIn K mainGlobals "range" = some none) (z7 : PySem.W.nsIn K mainGlobals "list" = some none) (z8 : PySem.W.nsIn K mainGlobals "tuple" = some none)
    (z9 : PySem.W.nsIn K mainGlobals "isinstance" = some none) (z10 : PySem.W.nsIn K mainGlobals "sum" = some none) (z11 : PySem.W.nsIn K mainGlobals "sorted" = some none) (z12 : PySem.W.nsIn K mainGlobals "zip" = some none) (z13 : PySem.W.nsIn K mainGlobals "enumerate" = some none)
    (z14 : PySem.W.nsIn K mainGlobals "bool" = some none) (z15 : PySem.W.nsIn K mainGlobals "str" = some none) (z16 : PySem.W.nsIn K mainGlobals "set" = some none) (z17 : PySem.W.nsIn K mainGlobals "any" = some none) (z18 : PySem.W.nsIn K mainGlobals "all" = some none) (z19 : PySem.W.nsIn K mainGlobals "reversed" = some none) : Blt mg :=
  ⟨PySem.W.mg_none_of X G z1, PySem.W.mg_none_of X G z2, PySem.W.mg_none_of X G z3, PySem.W.mg_none_of X G z4, PySem.W.mg_none_of X G z5, PySem.W.mg_none_of X G z6, PySem.W.mg_none_of X G z7, PySem.W.mg_none_of X G z8, PySem.W.mg_none_of X G z9, PySem.W.mg_none_of X G z10,
   PySem.W.mg_none_of X G z11, PySem.W.mg_none_of X G z12, PySem.W.mg_none_of X G z13, PySem.W.mg_none_of X G z14, PySem.W.mg_none_of X G z15, PySem.W.mg_none_of X G z16, PySem.W.mg_none_of X G z17, PySem.W.mg_none_of X G z18, PySem.W.mg_none_of X G z19⟩
theorem ci_mk {K : PySem.W.Frag} {h : Heap} {mg : Str → Option Value} {x : Str} {i : Int} {t : Tok} (X : K.In h) (G : h.Ns mainGlobals mg) (e : PySem.W.nsIn K mainGlobals x = some (some (.int i t))) : ∃ t, mg x = some (.int i t) := ⟨t, PySem.W.mg_of X G e⟩
theorem cs_mk {K : PySem.W.Frag} {h : Heap} {mg : Str → Option Value} {x i : Str} {t : Tok} (X : K.In h) (G : h.Ns mainGlobals mg) (e : PySem.W.nsIn K mainGlobals x = some (some (.str i t))) : ∃ t, mg x = some (.str i t) := ⟨t, PySem.W.mg_of X G e⟩
/-- the law: True for every script of at most 63 ints -/
def S_law : DSp := fun as P => ∃ ns : List Int, as = [.val (.rol (ns.map D.int))] ∧ ns.length ≤ 63 ∧ P (.v (.bl true)) []
theorem walk {l : PySem.W.OpenLaw} {q : Program} {loose : List Str} {XP : (Str → Option Value) → Heap → Prop} {YP : World → Heap → Prop} {d : DefRec} {K : Params → PySem.W.Frag} {k : Nat} (hk : k ≤ 100) (hT : ∀ w : World, LTabs (K w.params) = []) (hn : l.most = some 63) (hdf : d.params.defaults = [])
    (hY : ∀ (wd : World) (hp : Heap), YP wd hp → (K wd.params).In hp) (F : ∀ (w : World) (mg : Str → Option Value) (fa : Addr) (hp : Heap), (K w.params).In hp → hp.Ns mainGlobals mg → mg d.name = some (.ref fa) →
      ∃ fd : FuncData, (∀ (s : Shared) (u : Value), BindsTo s fd ⟨[u], []⟩ [("script", u)]) ∧ ∀ base : Heap, (K w.params).In base → base.Ns mainGlobals mg → FnOk l.prog w (K w.params) mg base CX0 k fa fd ["script"] (spD (K w.params) 1 S_law)) :
    PySem.W.WalkO q loose XP YP l.row.toRowW d []
      (fun g us => PySem.call g us) :=
  L2.walk_of (n := 63) (k := k) (x := "script") (CX := fun _ => CX0) (sp := fun w => spD (K w.params) 1 S_law) hn (by decide) hdf (Room.mono (k := 100) ⟨rfl, by decide, by decide⟩ hk) hY F
    (fun w H a ns hl _ hS => ⟨H, [.val (.rol (ns.map D.int))], [], fun r outs => r = .v (.bl true), rfl, Same.refl _, .val (by simp only [Rep]; exact ⟨a, _, rfl, hS, Reps.of_ints ns⟩) .nil, List.nodup_nil, ⟨by rw [hT w]; exact fun p hp => (by cases hp), by rw [hT w]; exact fun p hp => (by cases hp)⟩, ⟨ns, rfl, hl, rfl⟩,
      fun r outs hr v F' H' _ _ _ _ _ rr => by
        subst hr
        have : Rep (K w.params) F' (.bl true) v := rr
        simpa only [Rep] using this⟩) fun _ _ _ _ _ z => z
theorem law_end {P : Program} {w : World} {K : PySem.W.Frag} {mg : Str → Option Value} {k : Nat} {st : Stmt} {h : Heap} {N : List Str} {r : DSt} {fa : Addr} (X : K.In h) (G : h.Ns mainGlobals mg) (d : Df K "law" st) (hfa : mg "law" = some (.ref fa)) (Sc : FnScope N ["script"] (defScope st))
    (hb : ∀ (kV doc pm : Value) (an : Option Addr) (cdv ct : Value) (s : Shared) (v : Value), BindsTo s (PySem.W.fnOf "law" "law" (defArgs st) (defBody st) (defScope st) .none kV doc pm an cdv ct) ⟨[v], []⟩ [("script", v)])
    (der : ∀ (base : Heap), K.In base → base.Ns mainGlobals mg → ∀ (f : Addr) (cdv : Value) (A : Around) (outer : List Env) (s : Shared) (H : Hp) (E : XK), Room k (A.deeper (envOfC "law" (defScope st) s.heap.objs.size f cdv)) → PSs (cxOf CX0 P w K mg base N "law" (defScope st) f cdv A outer s H E).nox (defBody st) (liftS K r))
    (hbody : ∀ as P, as.length = ["script"].length → S_law as P → r { nx := fun δ => P (.v .non) (outsOf 0 as δ), rt := fun rt δ => P rt (outsOf 0 as δ) } (startD N.length as)) :
    ∃ fd : FuncData, (∀ (s : Shared) (u : Value), BindsTo s fd ⟨[u], []⟩ [("script", u)]) ∧ ∀ base : Heap, K.In base → base.Ns mainGlobals mg → FnOk P w K mg base CX0 (k + 1) fa fd ["script"] (spD K 1 S_law) := by
  obtain ⟨f, oc, od, an, osl, kV, doc, pm, cdv, ct, a, l, c, kp⟩ := d.ex
  have e := hfa.symm.trans (PySem.W.mg_of X G a)
  cases e
  exact ⟨_, fun s u => hb kV doc pm an cdv ct s u, fun base kb gb => fn_d (fun_mk (st := st) l c kp) Sc r (fun cdv _ => der base kb gb fa cdv) hbody⟩
end Dl

/-! Dl: how a reading is evaluated: what stands behind is named, so that simp does not look into it. -/
namespace Dl
open PySem L2
section
variable {δ : DS} {E : DE} {Q : Vw → DS → Prop} {QB : Bool → DS → Prop} {QF : List D → DS → Prop} {QA : List Vw → DS → Prop} {QO : Option Int → DS → Prop} {w w1 w2 : Vw} {ws : List Vw} {i n : Nat} {d d1 d2 : D} {ds es : List D} {a b : DSt} {r ra rb rc : DV} {rs : DA} {rf : DF} {t u : DT} {g : DG} {gs : DGs} {ri : DI} {k : Bool} {R R' : R2D} {P : D → Prop} {PL : List D → Prop} {io : Bool} {x : Cn} {S : DSp} {vs : List Nat}
inductive BoxV (Q : Vw → DS → Prop) : Type where
  | mk
inductive BoxE (E : DE) : Type where
  | mk
inductive BoxDV (r : DV) : Type where
  | mk
inductive BoxP (P : D → Prop) : Type where
  | mk
inductive BoxR (R : D → D → (D → Prop) → Prop) : Type where
  | mk
inductive BoxA (f : List Vw → Prop) : Type where
  | mk
/-! sequences -/
def DE.seq (E : DE) (b : DSt) : DE := { E with nx := fun δ1 => b E δ1 }
theorem ev_seq {a b : DSt} : sSeq a b E δ = a (E.seq b) δ := rfl
theorem ev_nx : (E.seq b).nx δ = b E δ := rfl
theorem ev_rt {z : Ret} : (E.seq b).rt z δ = E.rt z δ := rfl
theorem ev_bk : (E.seq b).bk δ = E.bk δ := rfl
theorem ev_ct : (E.seq b).ct δ = E.ct δ := rfl
theorem ev_next : sNext E δ = E.nx δ := rfl
theorem ev_break : sBreak E δ = E.bk δ := rfl
theorem ev_cont : sCont E δ = E.ct δ := rfl
theorem ev_never : sNever E δ = False := rfl
theorem ev_retN : sRetN E δ = E.rt (.v .non) δ := rfl
def kDrop (E : DE) : Vw → DS → Prop := fun _ δ => E.nx δ
theorem ev_drop : sDrop r E δ = r δ (kDrop E) := rfl
theorem ev_kdrop : kDrop E w δ = E.nx δ := rfl
def kRet (E : DE) : Vw → DS → Prop := fun w δ1 => match w with
  | .val d => E.rt (.v d) δ1
  | .slot _ => False
theorem ev_ret : sRet r E δ = r δ (kRet E) := rfl
theorem ev_kret : kRet E (.val d) δ = E.rt (.v d) δ := rfl
def kRetF (E : DE) : List D → DS → Prop := fun ds δ1 => E.rt (.f ds) δ1
theorem ev_retF : sRetF rf E δ = rf δ (kRetF E) := rfl
theorem ev_kretF : kRetF E ds δ = E.rt (.f ds) δ := rfl
def selM (s : Sl) (i : Nat) (δ : DS) {E : DE} (_ : BoxE E) : Prop := match s with
  | .own false (.lst ds) => E.rt (.f ds) (ss δ i .no)
  | _ => False
theorem ev_retM : sRetM i E δ = selM (sg δ i) i δ (BoxE.mk : BoxE E) := rfl
theorem ev_selM {z : BoxE E} : selM (.own false (.lst ds)) i δ z = E.rt (.f ds) (ss δ i .no) := rfl
def kIf (a b : DSt) (E : DE) : Bool → DS → Prop := fun k δ => brD (k = true) (bx (A := a E δ) (B := b E δ))
theorem ev_if : sIf t a b E δ = t δ (kIf a b E) := rfl
theorem ev_kif : kIf a b E k δ = brD (k = true) (bx (A := a E δ) (B := b E δ)) := rfl
def kAsg (i : Nat) (E : DE) : Vw → DS → Prop := fun w δ1 => match w with
  | .val d => okSet δ1 i = true ∧ E.nx (ss δ1 i (.frz d))
  | .slot _ => False
theorem ev_asg : sAsg i r E δ = r δ (kAsg i E) := rfl
theorem ev_kasg : kAsg i E (.val d) δ = (okSet δ i = true ∧ E.nx (ss δ i (.frz d))) := rfl
def kAsgF (i : Nat) (E : DE) : List D → DS → Prop := fun ds δ1 => okSet δ1 i = true ∧ E.nx (ss δ1 i (.own false (.lst ds)))
theorem ev_asgF : sAsgF i rf E δ = rf δ (kAsgF i E) := rfl
theorem ev_kasgF : kAsgF i E ds δ = (okSet δ i = true ∧ E.nx (ss δ i (.own false (.lst ds)))) := rfl
def selApp0 (s : Sl) (δ : DS) (i : Nat) {r : DV} (_ : BoxDV r) {E : DE} (_ : BoxE E) : Prop := match s with
  | .own _ (.lst _) => r δ fun w δ1 => match w, sg δ1 i with
    | .val d, .own io (.lst ds) => ds.length < 16777216 ∧ E.nx (ss δ1 i (.own io (.lst (ds ++ [d]))))
    | _, _ => False
  | _ => False
def selApp (s : Sl) (i : Nat) (d : D) (δ : DS) {E : DE} (_ : BoxE E) : Prop := match s with
  | .own io (.lst ds) => ds.length < 16777216 ∧ E.nx (ss δ i (.own io (.lst (ds ++ [d]))))
  | _ => False
def kApp (i : Nat) (E : DE) : Vw → DS → Prop := fun w δ1 => match w, sg δ1 i with
  | .val d, .own io (.lst ds) => ds.length < 16777216 ∧ E.nx (ss δ1 i (.own io (.lst (ds ++ [d]))))
  | _, _ => False
theorem ev_app : sApp i r E δ = selApp0 (sg δ i) δ i (BoxDV.mk : BoxDV r) (BoxE.mk : BoxE E) := rfl
theorem ev_app0 {z : BoxDV r} {z2 : BoxE E} : selApp0 (.own io (.lst ds)) δ i z z2 = r δ (kApp i E) := rfl
theorem ev_kapp : kApp i E (.val d) δ = selApp (sg δ i) i d δ (BoxE.mk : BoxE E) := by
  unfold kApp selApp
  cases sg δ i with
  | own io x => cases x <;> rfl
  | _ => rfl
theorem ev_selApp {z : BoxE E} : selApp (.own io (.lst ds)) i d δ z = (ds.length < 16777216 ∧ E.nx (ss δ i (.own io (.lst (ds ++ [d]))))) := rfl
def kSet1 (i : Nat) (ri : DV) (E : DE) : Vw → DS → Prop := fun w δ1 => match sg δ1 i with
  | .own _ (.lst _) => ri δ1 fun w2 δ2 => setG i E w w2 δ2
  | _ => False
def selSet1 (s : Sl) (δ : DS) {ri : DV} (_ : BoxDV ri) {Q : Vw → DS → Prop} (_ : BoxV Q) : Prop := match s with
  | .own _ (.lst _) => ri δ Q
  | _ => False
def kSet2 (i : Nat) (E : DE) (w : Vw) : Vw → DS → Prop := fun w2 δ2 => setG i E w w2 δ2
def selSet (s : Sl) (i : Nat) (d : D) (k : Int) (δ : DS) {E : DE} (_ : BoxE E) : Prop := match s with
  | .own io (.lst ds) => match ixN ds.length k with
    | some j => E.nx (ss δ i (.own io (.lst (ds.set j d))))
    | none => False
  | _ => False
def selSetJ (o : Option Nat) (io : Bool) (ds : List D) (i : Nat) (d : D) (δ : DS) {E : DE} (_ : BoxE E) : Prop := match o with
  | some j => E.nx (ss δ i (.own io (.lst (ds.set j d))))
  | none => False
theorem ev_set {ri : DV} : sSetI i r ri E δ = r δ (kSet1 i ri E) := rfl
theorem ev_kset1 {ri : DV} : kSet1 i ri E w δ = selSet1 (sg δ i) δ (BoxDV.mk : BoxDV ri) (BoxV.mk : BoxV (kSet2 i E w)) := rfl
theorem ev_selSet1 {ri : DV} {z : BoxDV ri} {z2 : BoxV Q} : selSet1 (.own io (.lst ds)) δ z z2 = ri δ Q := rfl
theorem ev_kset2 {k : Int} : kSet2 i E (.val d) (.val (.int k)) δ = selSet (sg δ i) i d k δ (BoxE.mk : BoxE E) := by
  unfold kSet2 setG selSet
  cases sg δ i with
  | own io x => cases x <;> rfl
  | _ => rfl
theorem ev_selSet {k : Int} {z : BoxE E} : selSet (.own io (.lst ds)) i d k δ z = selSetJ (ixN ds.length k) io ds i d δ z := rfl
theorem ev_selSetJ {j : Nat} {z : BoxE E} : selSetJ (some j) io ds i d δ z = E.nx (ss δ i (.own io (.lst (ds.set j d)))) := rfl
def selAug (s : Sl) (δ : DS) (i : Nat) {R : R2D} (_ : BoxR R) {r : DV} (_ : BoxDV r) {E : DE} (_ : BoxE E) : Prop := match s with
  | .frz a => r δ fun w δ1 => match vget δ1 w with
    | some b => R a b fun d => okSet δ1 i = true ∧ E.nx (ss δ1 i (.frz d))
    | none => False
  | _ => False
def kAugD (i : Nat) (E : DE) (δ : DS) : D → Prop := fun d => okSet δ i = true ∧ E.nx (ss δ i (.frz d))
def selAug2 (o : Option D) (a : D) {R : R2D} (_ : BoxR R) {P : D → Prop} (_ : BoxP P) : Prop := match o with
  | some b => R a b P
  | none => False
def kAug (i : Nat) (R : R2D) (a : D) (E : DE) : Vw → DS → Prop := fun w δ1 => match vget δ1 w with
  | some b => R a b fun d => okSet δ1 i = true ∧ E.nx (ss δ1 i (.frz d))
  | none => False
theorem ev_aug : sAug i R r E δ = selAug (sg δ i) δ i (BoxR.mk : BoxR R) (BoxDV.mk : BoxDV r) (BoxE.mk : BoxE E) := rfl
theorem ev_selAug {z : BoxE E} {z2 : BoxR R} {z3 : BoxDV r} : selAug (.frz d) δ i z2 z3 z = r δ (kAug i R d E) := rfl
theorem ev_kaug : kAug i R d E w δ = selAug2 (vget δ w) d (BoxR.mk : BoxR R) (BoxP.mk : BoxP (kAugD i E δ)) := rfl
theorem ev_selAug2 {z : BoxR R} {z2 : BoxP P} : selAug2 (some d1) d z z2 = R d d1 P := rfl
theorem ev_kaugD : kAugD i E δ d = (okSet δ i = true ∧ E.nx (ss δ i (.frz d))) := rfl
def kTgt (g : DG) (E : DE) : Vw → DS → Prop := fun w δ1 => match w with
  | .val d => g d δ1 E.nx
  | .slot _ => False
theorem ev_tgt : sTgt r g E δ = r δ (kTgt g E) := rfl
theorem ev_ktgt : kTgt g E (.val d) δ = g d δ E.nx := rfl
def kFor (g : DG) (b : DSt) (E : DE) : List D → DS → Prop := fun items δ1 => loopD items δ1 (BoxL.mk : BoxL (rLoop g b E))
theorem ev_for : sFor ri g b E δ = ri δ (kFor g b E) := rfl
theorem ev_kfor : kFor g b E ds δ = loopD ds δ (BoxL.mk : BoxL (rLoop g b E)) := rfl
theorem ev_while : sWhile t b E δ = whileD δ (BoxL.mk : BoxL (fun _ δ => ∃ n, rWhile t b E n δ)) := rfl
/-! targets -/
theorem ev_dname {q : DS → Prop} : dName i d δ q = (okSet δ i = true ∧ q (ss δ i (.frz d))) := rfl
def kDC (gs : DGs) (ds : List D) (q : DS → Prop) : DS → Prop := fun δ1 => gs ds δ1 q
theorem ev_dtup {q : DS → Prop} : dTup n gs (.tup ds) δ q = (ds.length = n ∧ gs ds δ q) := rfl
theorem ev_dcons {q : DS → Prop} : dCons g gs (d :: ds) δ q = g d δ (kDC gs ds q) := rfl
theorem ev_kdc {q : DS → Prop} : kDC gs ds q δ = gs ds δ q := rfl
theorem ev_dnil {q : DS → Prop} : dNil [] δ q = q δ := rfl
/-! expressions -/
def selV (s : Sl) (i : Nat) (δ : DS) {Q : Vw → DS → Prop} (_ : BoxV Q) : Prop := match s with
  | .frz d => Q (.val d) δ
  | .own _ _ => Q (.slot i) δ
  | .no => False
theorem ev_name : rName i δ Q = selV (sg δ i) i δ (BoxV.mk : BoxV Q) := rfl
theorem ev_selF {z : BoxV Q} : selV (.frz d) i δ z = Q (.val d) δ := rfl
theorem ev_selO {z : BoxV Q} : selV (.own io x) i δ z = Q (.slot i) δ := rfl
theorem ev_c : rC d δ Q = Q (.val d) δ := rfl
def kVal (Q : Vw → DS → Prop) : Vw → DS → Prop := fun w δ1 => match w with
  | .val d => Q (.val d) δ1
  | .slot i => match sg δ1 i with
    | .own false (.lst ds) => Q (.val (.lst ds)) (ss δ1 i (.frz (.lst ds)))
    | _ => False
def selVal (s : Sl) (i : Nat) (δ : DS) {Q : Vw → DS → Prop} (_ : BoxV Q) : Prop := match s with
    | .own false (.lst ds) => Q (.val (.lst ds)) (ss δ i (.frz (.lst ds)))
    | _ => False
theorem ev_val : rVal r δ Q = r δ (kVal Q) := rfl
theorem ev_kval : kVal Q (.val d) δ = Q (.val d) δ := rfl
theorem ev_kvalS : kVal Q (.slot i) δ = selVal (sg δ i) i δ (BoxV.mk : BoxV Q) := rfl
theorem ev_selVal {z : BoxV Q} : selVal (.own false (.lst ds)) i δ z = Q (.val (.lst ds)) (ss δ i (.frz (.lst ds))) := rfl
def kFz (Q : Vw → DS → Prop) : List D → DS → Prop := fun ds δ => Q (.val (.lst ds)) δ
theorem ev_fz : rFz rf δ Q = rf δ (kFz Q) := rfl
theorem ev_kfz : kFz Q ds δ = Q (.val (.lst ds)) δ := rfl
def kD (Q : Vw → DS → Prop) (δ : DS) : D → Prop := fun d => Q (.val d) δ
theorem ev_kD : kD Q δ d = Q (.val d) δ := rfl
def kL (Q : List D → DS → Prop) (δ : DS) : List D → Prop := fun d => Q d δ
theorem ev_kL : kL QF δ ds = QF ds δ := rfl
def elim2 (o1 o2 : Option D) {R : R2D} (_ : BoxR R) {P : D → Prop} (_ : BoxP P) : Prop := match o1, o2 with
  | some a, some b => R a b P
  | _, _ => False
def kOp1 (R : R2D) (rb : DV) (Q : Vw → DS → Prop) : Vw → DS → Prop := fun w1 δ1 => rb δ1 fun w2 δ2 => match vget δ2 w1, vget δ2 w2 with
  | some a, some b => R a b fun d => Q (.val d) δ2
  | _, _ => False
def kOp2 (R : R2D) (w1 : Vw) (Q : Vw → DS → Prop) : Vw → DS → Prop := fun w2 δ2 => match vget δ2 w1, vget δ2 w2 with
  | some a, some b => R a b fun d => Q (.val d) δ2
  | _, _ => False
theorem ev_op : rOp R ra rb δ Q = ra δ (kOp1 R rb Q) := rfl
theorem ev_kop1 : kOp1 R rb Q w δ = rb δ (kOp2 R w Q) := rfl
theorem ev_kop2 : kOp2 R w1 Q w2 δ = elim2 (vget δ w1) (vget δ w2) (BoxR.mk : BoxR R) (BoxP.mk : BoxP (kD Q δ)) := rfl
theorem ev_elim2 {z : BoxR R} {z2 : BoxP P} : elim2 (some d1) (some d2) z z2 = R d1 d2 P := rfl
inductive BoxRL (R : D → D → (List D → Prop) → Prop) : Type where
  | mk
inductive BoxPL (P : List D → Prop) : Type where
  | mk
def elim2F (o1 o2 : Option D) {R : D → D → (List D → Prop) → Prop} (_ : BoxRL R) {P : List D → Prop} (_ : BoxPL P) : Prop := match o1, o2 with
  | some a, some b => R a b P
  | _, _ => False
def kOpF1 (R : D → D → (List D → Prop) → Prop) (rb : DV) (Q : List D → DS → Prop) : Vw → DS → Prop := fun w1 δ1 => rb δ1 fun w2 δ2 => match vget δ2 w1, vget δ2 w2 with
  | some a, some b => R a b fun ds => Q ds δ2
  | _, _ => False
def kOpF2 (R : D → D → (List D → Prop) → Prop) (w1 : Vw) (Q : List D → DS → Prop) : Vw → DS → Prop := fun w2 δ2 => match vget δ2 w1, vget δ2 w2 with
  | some a, some b => R a b fun ds => Q ds δ2
  | _, _ => False
theorem ev_opF {R : D → D → (List D → Prop) → Prop} : rOpF R ra rb δ QF = ra δ (kOpF1 R rb QF) := rfl
theorem ev_kopF1 {R : D → D → (List D → Prop) → Prop} : kOpF1 R rb QF w δ = rb δ (kOpF2 R w QF) := rfl
theorem ev_kopF2 {R : D → D → (List D → Prop) → Prop} : kOpF2 R w1 QF w2 δ = elim2F (vget δ w1) (vget δ w2) (BoxRL.mk : BoxRL R) (BoxPL.mk : BoxPL (kL QF δ)) := rfl
theorem ev_elim2F {R : D → D → (List D → Prop) → Prop} {z : BoxRL R} {z2 : BoxPL PL} : elim2F (some d1) (some d2) z z2 = R d1 d2 PL := rfl
inductive BoxR1 (R : D → (D → Prop) → Prop) : Type where
  | mk
def elim1 (o1 : Option D) {R : D → (D → Prop) → Prop} (_ : BoxR1 R) {P : D → Prop} (_ : BoxP P) : Prop := match o1 with
  | some a => R a P
  | none => False
def kUn (R : D → (D → Prop) → Prop) (Q : Vw → DS → Prop) : Vw → DS → Prop := fun w δ => elim1 (vget δ w) (BoxR1.mk : BoxR1 R) (BoxP.mk : BoxP (kD Q δ))
theorem ev_un {R : D → (D → Prop) → Prop} : rUn R r δ Q = r δ (kUn R Q) := rfl
theorem ev_kun {R : D → (D → Prop) → Prop} : kUn R Q w δ = elim1 (vget δ w) (BoxR1.mk : BoxR1 R) (BoxP.mk : BoxP (kD Q δ)) := rfl
theorem ev_elim1 {R : D → (D → Prop) → Prop} {z : BoxR1 R} {z2 : BoxP P} : elim1 (some d) z z2 = R d P := rfl
def kCA1 (rs : DA) (Q : List Vw → DS → Prop) : Vw → DS → Prop := fun w δ1 => rs δ1 fun ws δ2 => Q (w :: ws) δ2
def kCA2 (w : Vw) (Q : List Vw → DS → Prop) : List Vw → DS → Prop := fun ws δ2 => Q (w :: ws) δ2
theorem ev_nilA : rNilA δ QA = QA [] δ := rfl
theorem ev_consA : rConsA r rs δ QA = r δ (kCA1 rs QA) := rfl
theorem ev_kca1 : kCA1 rs QA w δ = rs δ (kCA2 w QA) := rfl
theorem ev_kca2 : kCA2 w QA ws δ = QA (w :: ws) δ := rfl
inductive BoxRN (R : List D → (D → Prop) → Prop) : Type where
  | mk
def elimN (o : Option (List D)) {R : List D → (D → Prop) → Prop} (_ : BoxRN R) {P : D → Prop} (_ : BoxP P) : Prop := match o with
  | some ds => R ds P
  | none => False
def kCB (R : RND) (Q : Vw → DS → Prop) : List Vw → DS → Prop := fun ws δ => elimN (vgets δ ws) (BoxRN.mk : BoxRN R) (BoxP.mk : BoxP (kD Q δ))
inductive BoxRNL (R : List D → (List D → Prop) → Prop) : Type where
  | mk
def elimNF (o : Option (List D)) {R : List D → (List D → Prop) → Prop} (_ : BoxRNL R) {P : List D → Prop} (_ : BoxPL P) : Prop := match o with
  | some ds => R ds P
  | none => False
def kCBF (R : List D → (List D → Prop) → Prop) (Q : List D → DS → Prop) : List Vw → DS → Prop := fun ws δ => elimNF (vgets δ ws) (BoxRNL.mk : BoxRNL R) (BoxPL.mk : BoxPL (kL Q δ))
theorem ev_cb {R : RND} : rCB R rs δ Q = rs δ (kCB R Q) := rfl
theorem ev_kcb {R : RND} : kCB R Q ws δ = elimN (vgets δ ws) (BoxRN.mk : BoxRN R) (BoxP.mk : BoxP (kD Q δ)) := rfl
theorem ev_elimN {R : RND} {z : BoxRN R} {z2 : BoxP P} : elimN (some ds) z z2 = R ds P := rfl
theorem ev_cbF {R : List D → (List D → Prop) → Prop} : rCBF R rs δ QF = rs δ (kCBF R QF) := rfl
theorem ev_kcbF {R : List D → (List D → Prop) → Prop} : kCBF R QF ws δ = elimNF (vgets δ ws) (BoxRNL.mk : BoxRNL R) (BoxPL.mk : BoxPL (kL QF δ)) := rfl
theorem ev_elimNF {R : List D → (List D → Prop) → Prop} {z : BoxRNL R} {z2 : BoxPL PL} : elimNF (some ds) z z2 = R ds PL := rfl
def elimT (o : Option (List D)) (δ : DS) {Q : Vw → DS → Prop} (_ : BoxV Q) : Prop := match o with
  | some ds => ds.length ≤ 16777216 ∧ Q (.val (.tup ds)) δ
  | none => False
def kTup (Q : Vw → DS → Prop) : List Vw → DS → Prop := fun ws δ => elimT (valsOf ws) δ (BoxV.mk : BoxV Q)
inductive BoxF (Q : List D → DS → Prop) : Type where
  | mk
def elimL (o : Option (List D)) (δ : DS) {Q : List D → DS → Prop} (_ : BoxF Q) : Prop := match o with
  | some ds => ds.length ≤ 16777216 ∧ Q ds δ
  | none => False
def kLst (Q : List D → DS → Prop) : List Vw → DS → Prop := fun ws δ => elimL (valsOf ws) δ (BoxF.mk : BoxF Q)
theorem ev_tup : rTup rs δ Q = rs δ (kTup Q) := rfl
theorem ev_ktup : kTup Q ws δ = elimT (valsOf ws) δ (BoxV.mk : BoxV Q) := rfl
theorem ev_elimT {z : BoxV Q} : elimT (some ds) δ z = (ds.length ≤ 16777216 ∧ Q (.val (.tup ds)) δ) := rfl
theorem ev_lst : rLst rs δ QF = rs δ (kLst QF) := rfl
theorem ev_klst : kLst QF ws δ = elimL (valsOf ws) δ (BoxF.mk : BoxF QF) := rfl
theorem ev_elimL {z : BoxF QF} : elimL (some ds) δ z = (ds.length ≤ 16777216 ∧ QF ds δ) := rfl
def kTest (Q : Bool → DS → Prop) : Vw → DS → Prop := fun w δ1 => match w with
  | .val (.bl b) => Q b δ1
  | _ => False
theorem ev_test : rTest r δ QB = r δ (kTest QB) := rfl
theorem ev_ktest : kTest QB (.val (.bl k)) δ = QB k δ := rfl
inductive BoxB (Q : Bool → DS → Prop) : Type where
  | mk
def kB (Q : Bool → DS → Prop) (δ : DS) : Bool → Prop := fun b => Q b δ
def elimTru (o : Option D) (δ : DS) {Q : Bool → DS → Prop} (_ : BoxB Q) : Prop := match o with
  | some d => truD d (kB Q δ)
  | none => False
def kTru (Q : Bool → DS → Prop) : Vw → DS → Prop := fun w δ => elimTru (vget δ w) δ (BoxB.mk : BoxB Q)
theorem ev_tru : rTru r δ QB = r δ (kTru QB) := rfl
theorem ev_ktru : kTru QB w δ = elimTru (vget δ w) δ (BoxB.mk : BoxB QB) := rfl
theorem ev_elimTru {z : BoxB QB} : elimTru (some d) δ z = truD d (kB QB δ) := rfl
theorem ev_kB : kB QB δ k = QB k δ := rfl
theorem ev_tru_n {q : Bool → Prop} : truD .non q = q false := rfl
theorem ev_tru_b {q : Bool → Prop} : truD (.bl k) q = q k := rfl
theorem ev_tru_i {q : Bool → Prop} {z : Int} : truD (.int z) q = q (z != 0) := rfl
theorem ev_tru_s {q : Bool → Prop} {s : Str} : truD (.str s) q = (s.length ≤ 16777216 ∧ q ((s.length : Int) != 0)) := rfl
theorem ev_tru_t {q : Bool → Prop} : truD (.tup ds) q = q (!ds.isEmpty) := rfl
theorem ev_tru_l {q : Bool → Prop} : truD (.lst ds) q = q (!ds.isEmpty) := rfl
theorem ev_tru_r {q : Bool → Prop} : truD (.rol ds) q = q (!ds.isEmpty) := rfl
def kAnd (u : DT) (Q : Bool → DS → Prop) : Bool → DS → Prop := fun b δ1 => brD (b = true) (bx (A := u δ1 Q) (B := Q false δ1))
def kOr (u : DT) (Q : Bool → DS → Prop) : Bool → DS → Prop := fun b δ1 => brD (b = true) (bx (A := Q true δ1) (B := u δ1 Q))
def kNot (Q : Bool → DS → Prop) : Bool → DS → Prop := fun b δ1 => Q (!b) δ1
theorem ev_and : rAnd t u δ QB = t δ (kAnd u QB) := rfl
theorem ev_or : rOr t u δ QB = t δ (kOr u QB) := rfl
theorem ev_not : rNot t δ QB = t δ (kNot QB) := rfl
theorem ev_kand : kAnd u QB k δ = brD (k = true) (bx (A := u δ QB) (B := QB false δ)) := rfl
theorem ev_kor : kOr u QB k δ = brD (k = true) (bx (A := QB true δ) (B := u δ QB)) := rfl
theorem ev_knot : kNot QB k δ = QB (!k) δ := rfl
def kAndV (u : DV) (Q : Vw → DS → Prop) : Vw → DS → Prop := fun w δ1 => match w with
  | .val (.bl b) => brD (b = true) (bx (A := u δ1 Q) (B := Q (.val (.bl false)) δ1))
  | _ => False
def kOrV (u : DV) (Q : Vw → DS → Prop) : Vw → DS → Prop := fun w δ1 => match w with
  | .val (.bl b) => brD (b = true) (bx (A := Q (.val (.bl true)) δ1) (B := u δ1 Q))
  | _ => False
def kNotV (Q : Vw → DS → Prop) : Vw → DS → Prop := fun w δ1 => match w with
  | .val (.bl b) => Q (.val (.bl (!b))) δ1
  | _ => False
theorem ev_andV : rAndV ra rb δ Q = ra δ (kAndV rb Q) := rfl
theorem ev_orV : rOrV ra rb δ Q = ra δ (kOrV rb Q) := rfl
theorem ev_notV : rNotV r δ Q = r δ (kNotV Q) := rfl
theorem ev_kandV : kAndV rb Q (.val (.bl k)) δ = brD (k = true) (bx (A := rb δ Q) (B := Q (.val (.bl false)) δ)) := rfl
theorem ev_korV : kOrV rb Q (.val (.bl k)) δ = brD (k = true) (bx (A := Q (.val (.bl true)) δ) (B := rb δ Q)) := rfl
theorem ev_knotV : kNotV Q (.val (.bl k)) δ = Q (.val (.bl (!k))) δ := rfl
def kIfE (a b : DV) (Q : Vw → DS → Prop) : Bool → DS → Prop := fun k δ1 => brD (k = true) (bx (A := a δ1 Q) (B := b δ1 Q))
theorem ev_ifE : rIfE t ra rb δ Q = t δ (kIfE ra rb Q) := rfl
theorem ev_kifE : kIfE ra rb Q k δ = brD (k = true) (bx (A := ra δ Q) (B := rb δ Q)) := rfl
def kCh1 (R R' : R2D) (rb rc : DV) (Q : Vw → DS → Prop) : Vw → DS → Prop := fun w1 δ1 => rb δ1 fun w2 δ2 => match vget δ2 w1, vget δ2 w2 with
  | some a, some b => R a b fun d => match d with
    | .bl k => brD (k = true) (bx (A := rc δ2 fun w3 δ3 => match vget δ3 w2, vget δ3 w3 with
        | some b', some c => R' b' c fun d => Q (.val d) δ3
        | _, _ => False) (B := Q (.val (.bl false)) δ2))
    | _ => False
  | _, _ => False
def kChD (R' : R2D) (rc : DV) (w2 : Vw) (Q : Vw → DS → Prop) (δ2 : DS) : D → Prop := fun d => match d with
    | .bl k => brD (k = true) (bx (A := rc δ2 fun w3 δ3 => match vget δ3 w2, vget δ3 w3 with
        | some b', some c => R' b' c fun d => Q (.val d) δ3
        | _, _ => False) (B := Q (.val (.bl false)) δ2))
    | _ => False
def kCh2 (R R' : R2D) (rc : DV) (w1 : Vw) (Q : Vw → DS → Prop) : Vw → DS → Prop := fun w2 δ2 => elim2 (vget δ2 w1) (vget δ2 w2) (BoxR.mk : BoxR R) (BoxP.mk : BoxP (kChD R' rc w2 Q δ2))
theorem ev_chain {R R' : R2D} : rChain R R' ra rb rc δ Q = ra δ (kCh1 R R' rb rc Q) := rfl
theorem ev_kch1 {R R' : R2D} : kCh1 R R' rb rc Q w δ = rb δ (kCh2 R R' rc w Q) := rfl
theorem ev_kch2 {R R' : R2D} : kCh2 R R' rc w1 Q w2 δ = elim2 (vget δ w1) (vget δ w2) (BoxR.mk : BoxR R) (BoxP.mk : BoxP (kChD R' rc w2 Q δ)) := rfl
theorem ev_kchD {R' : R2D} : kChD R' rc w2 Q δ (.bl k) = brD (k = true) (bx (A := rc δ (kOp2 R' w2 Q)) (B := Q (.val (.bl false)) δ)) := rfl
def elimIs (T : String) (o : Option D) (δ : DS) {Q : Vw → DS → Prop} (_ : BoxV Q) : Prop := match o with
  | some d => Q (.val (.bl (isiD T d))) δ
  | none => False
def kIsi (T : String) (Q : Vw → DS → Prop) : Vw → DS → Prop := fun w δ => elimIs T (vget δ w) δ (BoxV.mk : BoxV Q)
theorem ev_isi {T : String} : rIsiD T r δ Q = r δ (kIsi T Q) := rfl
theorem ev_kisi {T : String} : kIsi T Q w δ = elimIs T (vget δ w) δ (BoxV.mk : BoxV Q) := rfl
theorem ev_elimIs {T : String} {z : BoxV Q} : elimIs T (some d) δ z = Q (.val (.bl (isiD T d))) δ := rfl
/-! what is walked -/
def kSeqI (Q : List D → DS → Prop) : Vw → DS → Prop := fun w δ1 => match w with
  | .val (.lst ds) => Q ds δ1
  | .val (.rol ds) => Q ds δ1
  | .val (.tup ds) => Q ds δ1
  | .val (.str x) => Q (x.cps.toList.map fun c => .str ⟨#[c]⟩) δ1
  | _ => False
def kR1 (Q : List D → DS → Prop) : List Vw → DS → Prop := fun ws δ1 => match ws with
  | [.val (.int n)] => (-(2 ^ 62) ≤ n ∧ n < 2 ^ 62) ∧ Q (rngD 0 n) δ1
  | _ => False
def kR2 (Q : List D → DS → Prop) : List Vw → DS → Prop := fun ws δ1 => match ws with
  | [.val (.int m), .val (.int n)] => (-(2 ^ 62) ≤ m ∧ m < 2 ^ 62 ∧ -(2 ^ 62) ≤ n ∧ n < 2 ^ 62) ∧ Q (rngD m n) δ1
  | _ => False
theorem ev_iseq : iSeqD r δ QF = r δ (kSeqI QF) := rfl
theorem ev_kseqL : kSeqI QF (.val (.lst ds)) δ = QF ds δ := rfl
theorem ev_kseqR : kSeqI QF (.val (.rol ds)) δ = QF ds δ := rfl
theorem ev_kseqT : kSeqI QF (.val (.tup ds)) δ = QF ds δ := rfl
theorem ev_rng1 : iRng1D rs δ QF = rs δ (kR1 QF) := rfl
theorem ev_kr1 {z : Int} : kR1 QF [.val (.int z)] δ = ((-(2 ^ 62) ≤ z ∧ z < 2 ^ 62) ∧ QF (rngD 0 z) δ) := rfl
theorem ev_rng2 : iRng2D rs δ QF = rs δ (kR2 QF) := rfl
theorem ev_kr2 {y z : Int} : kR2 QF [.val (.int y), .val (.int z)] δ = ((-(2 ^ 62) ≤ y ∧ y < 2 ^ 62 ∧ -(2 ^ 62) ≤ z ∧ z < 2 ^ 62) ∧ QF (rngD y z) δ) := rfl
/-! calls -/
inductive BoxS (S : DSp) : Type where
  | mk
def kRes (is : List Nat) (δ : DS) (Q : Vw → DS → Prop) : Ret → List Cn → Prop := fun r outs => match r with
  | .v d => Q (.val d) (putOuts is outs δ)
  | .f ds => Q (.val (.lst ds)) (putOuts is outs δ)
def kResF (is : List Nat) (δ : DS) (Q : List D → DS → Prop) : Ret → List Cn → Prop := fun r outs => match r with
  | .v _ => False
  | .f ds => Q ds (putOuts is outs δ)
def elimC (o : Option (List Ar)) (n : Nat) (ws : List Vw) (δ : DS) {S : DSp} (_ : BoxS S) {Q : Vw → DS → Prop} (_ : BoxV Q) : Prop := match o with
  | some as => ws.length = n ∧ noDup (slotsOf ws) = true ∧ callD S as (BoxK.mk : BoxK (kRes (slotsOf ws) δ Q))
  | none => False
def kCall (n : Nat) (S : DSp) (Q : Vw → DS → Prop) : List Vw → DS → Prop := fun ws δ => elimC (arsOf δ ws) n ws δ (BoxS.mk : BoxS S) (BoxV.mk : BoxV Q)
def elimCF (o : Option (List Ar)) (n : Nat) (ws : List Vw) (δ : DS) {S : DSp} (_ : BoxS S) {Q : List D → DS → Prop} (_ : BoxF Q) : Prop := match o with
  | some as => ws.length = n ∧ noDup (slotsOf ws) = true ∧ callD S as (BoxK.mk : BoxK (kResF (slotsOf ws) δ Q))
  | none => False
def kCallF (n : Nat) (S : DSp) (Q : List D → DS → Prop) : List Vw → DS → Prop := fun ws δ => elimCF (arsOf δ ws) n ws δ (BoxS.mk : BoxS S) (BoxF.mk : BoxF Q)
theorem ev_call : rCall n S rs δ Q = rs δ (kCall n S Q) := rfl
theorem ev_kcall : kCall n S Q ws δ = elimC (arsOf δ ws) n ws δ (BoxS.mk : BoxS S) (BoxV.mk : BoxV Q) := rfl
theorem ev_elimC {as : List Ar} {z : BoxS S} {z2 : BoxV Q} : elimC (some as) n ws δ z z2 = (ws.length = n ∧ noDup (slotsOf ws) = true ∧ callD S as (BoxK.mk : BoxK (kRes (slotsOf ws) δ Q))) := rfl
theorem ev_callF : rCallF n S rs δ QF = rs δ (kCallF n S QF) := rfl
theorem ev_kcallF : kCallF n S QF ws δ = elimCF (arsOf δ ws) n ws δ (BoxS.mk : BoxS S) (BoxF.mk : BoxF QF) := rfl
theorem ev_elimCF {as : List Ar} {z : BoxS S} {z2 : BoxF QF} : elimCF (some as) n ws δ z z2 = (ws.length = n ∧ noDup (slotsOf ws) = true ∧ callD S as (BoxK.mk : BoxK (kResF (slotsOf ws) δ QF))) := rfl
theorem ev_kresV {is : List Nat} {outs : List Cn} : kRes is δ Q (.v d) outs = Q (.val d) (putOuts is outs δ) := rfl
theorem ev_kresF {is : List Nat} {outs : List Cn} : kRes is δ Q (.f ds) outs = Q (.val (.lst ds)) (putOuts is outs δ) := rfl
theorem ev_kresFF {is : List Nat} {outs : List Cn} : kResF is δ QF (.f ds) outs = QF ds (putOuts is outs δ) := rfl
/-! comprehensions -/
def kFin (vs : List Nat) (Q : List D → DS → Prop) : List D → DS → Prop := fun acc δ2 => okWipe δ2 vs = true ∧ Q acc (dWipe δ2 vs)
def kComp (vs : List Nat) (g : DG) (t : DT) (e : DV) (Q : List D → DS → Prop) : List D → DS → Prop := fun items δ1 => okWipe δ1 vs = true ∧ loopD items (dWipe δ1 vs) (BoxL.mk : BoxL fun items δ => compGo g t e vs (kFin vs Q) items [] δ)
theorem ev_comp : rComp vs ri g t r δ QF = ri δ (kComp vs g t r QF) := rfl
theorem ev_kcomp : kComp vs g t r QF ds δ = (okWipe δ vs = true ∧ loopD ds (dWipe δ vs) (BoxL.mk : BoxL fun items δ => compGo g t r vs (kFin vs QF) items [] δ)) := rfl
theorem ev_kfin : kFin vs QF ds δ = (okWipe δ vs = true ∧ QF ds (dWipe δ vs)) := rfl
theorem ev_yes : rYes δ QB = QB true δ := rfl
/-! slices -/
def kO (Q : Option Int → DS → Prop) : Vw → DS → Prop := fun w δ1 => match w with
  | .val (.int i) => Q (some i) δ1
  | _ => False
theorem ev_oN : oNone δ QO = QO none δ := rfl
theorem ev_oS : oSome r δ QO = r δ (kO QO) := rfl
theorem ev_kO {z : Int} : kO QO (.val (.int z)) δ = QO (some z) δ := rfl
def kSl1 (lo hi : DO) (Q : Vw → DS → Prop) : Vw → DS → Prop := fun w δ1 => lo δ1 fun l δ2 => hi δ2 fun u δ3 => match vget δ3 w with
  | some d => slR d l u fun e => Q (.val e) δ3
  | none => False
def kSl2 (w : Vw) (hi : DO) (Q : Vw → DS → Prop) : Option Int → DS → Prop := fun l δ2 => hi δ2 fun u δ3 => match vget δ3 w with
  | some d => slR d l u fun e => Q (.val e) δ3
  | none => False
def elimSl (o : Option D) (l u : Option Int) {P : D → Prop} (_ : BoxP P) : Prop := match o with
  | some d => slR d l u P
  | none => False
def kSl3 (w : Vw) (l : Option Int) (Q : Vw → DS → Prop) : Option Int → DS → Prop := fun u δ3 => elimSl (vget δ3 w) l u (BoxP.mk : BoxP (kD Q δ3))
theorem ev_sl {lo hi : DO} : rSl r lo hi δ Q = r δ (kSl1 lo hi Q) := rfl
theorem ev_ksl1 {lo hi : DO} : kSl1 lo hi Q w δ = lo δ (kSl2 w hi Q) := rfl
theorem ev_ksl2 {hi : DO} {l : Option Int} : kSl2 w hi Q l δ = hi δ (kSl3 w l Q) := rfl
theorem ev_ksl3 {l u : Option Int} : kSl3 w l Q u δ = elimSl (vget δ w) l u (BoxP.mk : BoxP (kD Q δ)) := rfl
theorem ev_elimSl {l u : Option Int} {z : BoxP P} : elimSl (some d) l u z = slR d l u P := rfl
def kSf1 (lo hi : DO) (Q : List D → DS → Prop) : Vw → DS → Prop := fun w δ1 => lo δ1 fun l δ2 => hi δ2 fun u δ3 => match vget δ3 w with
  | some d => slFR d l u fun e => Q e δ3
  | none => False
def kSf2 (w : Vw) (hi : DO) (Q : List D → DS → Prop) : Option Int → DS → Prop := fun l δ2 => hi δ2 fun u δ3 => match vget δ3 w with
  | some d => slFR d l u fun e => Q e δ3
  | none => False
def elimSf (o : Option D) (l u : Option Int) {P : List D → Prop} (_ : BoxPL P) : Prop := match o with
  | some d => slFR d l u P
  | none => False
def kSf3 (w : Vw) (l : Option Int) (Q : List D → DS → Prop) : Option Int → DS → Prop := fun u δ3 => elimSf (vget δ3 w) l u (BoxPL.mk : BoxPL (kL Q δ3))
theorem ev_sf {lo hi : DO} : rSlF r lo hi δ QF = r δ (kSf1 lo hi QF) := rfl
theorem ev_ksf1 {lo hi : DO} : kSf1 lo hi QF w δ = lo δ (kSf2 w hi QF) := rfl
theorem ev_ksf2 {hi : DO} {l : Option Int} : kSf2 w hi QF l δ = hi δ (kSf3 w l QF) := rfl
theorem ev_ksf3 {l u : Option Int} : kSf3 w l QF u δ = elimSf (vget δ w) l u (BoxPL.mk : BoxPL (kL QF δ)) := rfl
theorem ev_elimSf {l u : Option Int} {z : BoxPL PL} : elimSf (some d) l u z = slFR d l u PL := rfl
/-! operations -/
variable {p q : Int} {s s2 : Str}
theorem ev_add : addR (.int p) (.int q) P = P (.int (p + q)) := rfl
theorem ev_sub : subR (.int p) (.int q) P = P (.int (p - q)) := rfl
theorem ev_mul : mulR (.int p) (.int q) P = (((-(2 ^ 64) < p ∧ p < 2 ^ 64) ∨ (-(2 ^ 64) < q ∧ q < 2 ^ 64)) ∧ P (.int (p * q))) := rfl
theorem ev_div : divR (.int p) (.int q) P = ((0 < q ∧ q < 1073741824) ∧ P (.int (p / q))) := rfl
theorem ev_mod : modR (.int p) (.int q) P = (0 < q ∧ P (.int (p % q))) := rfl
theorem ev_pow : powR (.int p) (.int q) P = ((0 ≤ q ∧ q ≤ 1000000 ∧ p.natAbs < 2 ^ 64) ∧ P (.int (p ^ q.toNat))) := rfl
theorem ev_iadd : iaddR (.int p) (.int q) P = P (.int (p + q)) := rfl
theorem ev_cmp {f : Int → Int → Bool} : cmpR f (.int p) (.int q) P = P (.bl (f p q)) := rfl
theorem ev_adds : addR (.str s) (.str s2) P = (s.length + s2.length ≤ 16777216 ∧ P (.str (s ++ s2))) := rfl
theorem ev_addt : addR (.tup ds) (.tup es) P = (ds.length + es.length ≤ 16777216 ∧ P (.tup (ds ++ es))) := rfl
theorem ev_iadds : iaddR (.str s) (.str s2) P = (s.length + s2.length ≤ 16777216 ∧ P (.str (s ++ s2))) := rfl
theorem ev_isN : isNR d .non P = P (.bl (isNon d)) := rfl
theorem ev_isnN : isnNR d .non P = P (.bl (!isNon d)) := rfl
theorem ev_neg : negR (.int p) P = P (.int (-p)) := rfl
theorem ev_eq_i : eqR (.int p) (.int q) P = P (.bl (decide (p = q))) := rfl
theorem ev_eq_s : eqR (.str s) (.str s2) P = P (.bl (decide (s = s2))) := rfl
theorem ev_eq_b {k2 : Bool} : eqR (.bl k) (.bl k2) P = P (.bl (decide (k = k2))) := rfl
theorem ev_eq_nn : eqR .non .non P = P (.bl true) := rfl
theorem ev_eq_ni : eqR .non (.int p) P = P (.bl false) := rfl
theorem ev_eq_in : eqR (.int p) .non P = P (.bl false) := rfl
theorem ev_eq_ns : eqR .non (.str s) P = P (.bl false) := rfl
theorem ev_eq_sn : eqR (.str s) .non P = P (.bl false) := rfl
theorem ev_eq_nb : eqR .non (.bl k) P = P (.bl false) := rfl
theorem ev_eq_bn : eqR (.bl k) .non P = P (.bl false) := rfl
theorem ev_eq_tt : eqR (.tup ds) (.tup es) P = ((shP (.tup ds) = true ∧ shP (.tup es) = true) ∧ P (.bl (eqP (.tup ds) (.tup es)))) := rfl
theorem ev_eq_ll : eqR (.lst ds) (.lst es) P = ((shP (.lst ds) = true ∧ shP (.lst es) = true) ∧ P (.bl (eqP (.lst ds) (.lst es)))) := rfl
theorem ev_eq_nt : eqR .non (.tup es) P = ((shP .non = true ∧ shP (.tup es) = true) ∧ P (.bl (eqP .non (.tup es)))) := rfl
theorem ev_eq_tn : eqR (.tup ds) .non P = ((shP (.tup ds) = true ∧ shP .non = true) ∧ P (.bl (eqP (.tup ds) .non))) := rfl
theorem ev_ne_i : neR (.int p) (.int q) P = P (.bl (!decide (p = q))) := rfl
theorem ev_ne_s : neR (.str s) (.str s2) P = P (.bl (!decide (s = s2))) := rfl
theorem ev_ne_b {k2 : Bool} : neR (.bl k) (.bl k2) P = P (.bl (!decide (k = k2))) := rfl
theorem ev_ne_nn : neR .non .non P = P (.bl false) := rfl
theorem ev_ne_ni : neR .non (.int p) P = P (.bl true) := rfl
theorem ev_ne_in : neR (.int p) .non P = P (.bl true) := rfl
theorem ev_ne_ns : neR .non (.str s) P = P (.bl true) := rfl
theorem ev_ne_sn : neR (.str s) .non P = P (.bl true) := rfl
theorem ev_ne_nb : neR .non (.bl k) P = P (.bl true) := rfl
theorem ev_ne_bn : neR (.bl k) .non P = P (.bl true) := rfl
theorem ev_ne_tt : neR (.tup ds) (.tup es) P = ((shP (.tup ds) = true ∧ shP (.tup es) = true) ∧ P (.bl (!eqP (.tup ds) (.tup es)))) := rfl
theorem ev_ne_ll : neR (.lst ds) (.lst es) P = ((shP (.lst ds) = true ∧ shP (.lst es) = true) ∧ P (.bl (!eqP (.lst ds) (.lst es)))) := rfl
theorem ev_ne_nt : neR .non (.tup es) P = ((shP .non = true ∧ shP (.tup es) = true) ∧ P (.bl (!eqP .non (.tup es)))) := rfl
theorem ev_ne_tn : neR (.tup ds) .non P = ((shP (.tup ds) = true ∧ shP .non = true) ∧ P (.bl (!eqP (.tup ds) .non))) := rfl
theorem ev_ix_lst : ixR (.lst ds) (.int p) P = optD (atI ds p) (BoxD.mk : BoxD P) := rfl
theorem ev_ix_rol : ixR (.rol ds) (.int p) P = optD (atI ds p) (BoxD.mk : BoxD P) := rfl
theorem ev_ix_tup : ixR (.tup ds) (.int p) P = optD (atI ds p) (BoxD.mk : BoxD P) := rfl
theorem ev_ix_str : ixR (.str s) (.int p) P = (s.length ≤ 16777216 ∧ optD ((atI s.cps.toList p).map sgn1) (BoxD.mk : BoxD P)) := rfl
theorem ev_in_lst {neg : Bool} : inR neg d (.lst ds) P = ((flatD d = true ∧ ds.all flatD = true) ∧ P (.bl (if neg then !inF d ds else inF d ds))) := rfl
theorem ev_in_rol {neg : Bool} : inR neg d (.rol ds) P = ((flatD d = true ∧ ds.all flatD = true) ∧ P (.bl (if neg then !inF d ds else inF d ds))) := rfl
theorem ev_in_tup {neg : Bool} : inR neg d (.tup ds) P = ((flatD d = true ∧ ds.all flatD = true) ∧ P (.bl (if neg then !inF d ds else inF d ds))) := rfl
theorem ev_len_lst : lenR [.lst ds] P = P (.int (ds.length : Nat)) := rfl
theorem ev_len_rol : lenR [.rol ds] P = P (.int (ds.length : Nat)) := rfl
theorem ev_len_tup : lenR [.tup ds] P = P (.int (ds.length : Nat)) := rfl
theorem ev_len_s : lenR [.str s] P = (s.length ≤ 16777216 ∧ P (.int (s.length : Nat))) := rfl
theorem ev_abs : absR [.int p] P = P (.int (if p < 0 then -p else p)) := rfl
theorem ev_int : intR [.int p] P = P (.int p) := rfl
theorem ev_intb : intR [.bl k] P = P (.int (if k then 1 else 0)) := rfl
theorem ev_booli : boolR [.int p] P = P (.bl (p != 0)) := rfl
theorem ev_boolb : boolR [.bl k] P = P (.bl k) := rfl
theorem ev_max2 : max2R [.int p, .int q] P = P (.int (if q > p then q else p)) := rfl
theorem ev_min2 : min2R [.int p, .int q] P = P (.int (if q < p then q else p)) := rfl
theorem ev_list_lst : listR [.lst ds] PL = PL ds := rfl
theorem ev_tuple_lst : tupleR [.lst ds] P = P (.tup ds) := rfl
theorem ev_list_rol : listR [.rol ds] PL = PL ds := rfl
theorem ev_tuple_rol : tupleR [.rol ds] P = P (.tup ds) := rfl
theorem ev_list_tup : listR [.tup ds] PL = PL ds := rfl
theorem ev_tuple_tup : tupleR [.tup ds] P = P (.tup ds) := rfl
def elimSum (o : Option (List Int)) {P : D → Prop} (_ : BoxP P) : Prop := match o with
  | some ns => P (.int ns.sum)
  | none => False
theorem ev_sum : sumR [.lst ds] P = elimSum (intsD ds) (BoxP.mk : BoxP P) := rfl
theorem ev_sumT : sumR [.tup ds] P = elimSum (intsD ds) (BoxP.mk : BoxP P) := rfl
theorem ev_elimSum {ns : List Int} {z : BoxP P} : elimSum (some ns) z = P (.int ns.sum) := rfl
theorem ev_cat : catR (.lst ds) (.lst es) PL = (ds.length + es.length ≤ 16777216 ∧ PL (ds ++ es)) := rfl
theorem ev_rep : repR (.lst ds) (.int p) PL = ((-(2 ^ 63) ≤ p ∧ p < 2 ^ 63 ∧ ds.length * p.toNat ≤ 16777216) ∧ PL (List.replicate p.toNat ds).flatten) := rfl
theorem ev_slt {l u : Option Int} : slR (.tup ds) l u P = P (.tup (cutD ds l u)) := rfl
theorem ev_sls {l u : Option Int} : slR (.str s) l u P = (s.length ≤ 16777216 ∧ P (.str (cutS s l u))) := rfl
theorem ev_sfl {l u : Option Int} : slFR (.lst ds) l u PL = PL (cutD ds l u) := rfl
theorem ev_sfr {l u : Option Int} : slFR (.rol ds) l u PL = PL (cutD ds l u) := rfl
theorem ev_isNon_non : isNon .non = true := rfl
theorem ev_isNon_bl : isNon (.bl k) = false := rfl
theorem ev_isNon_int : isNon (.int p) = false := rfl
theorem ev_isNon_str : isNon (.str s) = false := rfl
theorem ev_isNon_tup : isNon (.tup ds) = false := rfl
theorem ev_isNon_lst : isNon (.lst ds) = false := rfl
theorem ev_isNon_rol : isNon (.rol ds) = false := rfl
end
section
variable {α : Type} {a b c d e f g h i : α} {r : List α}
theorem atI_c0 : atI (a :: r) 0 = some a := atI_nat (j := 0) rfl
theorem atI_c1 : atI (a :: b :: r) 1 = some b := atI_nat (j := 1) rfl
theorem atI_c2 : atI (a :: b :: c :: r) 2 = some c := atI_nat (j := 2) rfl
theorem atI_c3 : atI (a :: b :: c :: d :: r) 3 = some d := atI_nat (j := 3) rfl
theorem atI_c4 : atI (a :: b :: c :: d :: e :: r) 4 = some e := atI_nat (j := 4) rfl
theorem atI_c5 : atI (a :: b :: c :: d :: e :: f :: r) 5 = some f := atI_nat (j := 5) rfl
theorem atI_c6 : atI (a :: b :: c :: d :: e :: f :: g :: r) 6 = some g := atI_nat (j := 6) rfl
theorem atI_c7 : atI (a :: b :: c :: d :: e :: f :: g :: h :: r) 7 = some h := atI_nat (j := 7) rfl
theorem atI_c8 : atI (a :: b :: c :: d :: e :: f :: g :: h :: i :: r) 8 = some i := atI_nat (j := 8) rfl
theorem natAbs10 : (Int.natAbs 10 < 2 ^ 64) = True := by decide
theorem natAbs10b : (Int.natAbs 10 < 18446744073709551616) = True := by decide
theorem ixN_of {n j : Nat} (h : j < n) : ixN n (j : Int) = some j := by
  unfold ixN
  rw [if_pos (Int.natCast_nonneg j), if_pos (by omega), Int.toNat_natCast]
theorem ixN_c0 {n : Nat} : ixN (n + 1) 0 = some 0 := ixN_of (j := 0) (by omega)
theorem ixN_c1 {n : Nat} : ixN (n + 1 + 1) 1 = some 1 := ixN_of (j := 1) (by omega)
theorem ixN_c2 {n : Nat} : ixN (n + 1 + 1 + 1) 2 = some 2 := ixN_of (j := 2) (by omega)
theorem ixN_c3 {n : Nat} : ixN (n + 1 + 1 + 1 + 1) 3 = some 3 := ixN_of (j := 3) (by omega)
theorem ixN_c4 {n : Nat} : ixN (n + 1 + 1 + 1 + 1 + 1) 4 = some 4 := ixN_of (j := 4) (by omega)
theorem ixN_lit : ixN 4 0 = some 0 ∧ ixN 4 1 = some 1 ∧ ixN 4 2 = some 2 ∧ ixN 4 3 = some 3 := by decide
theorem atI_in {xs : List α} {k : Int} (h0 : 0 ≤ k) (h1 : k < (xs.length : Int)) : ∃ x, atI xs k = some x ∧ x ∈ xs := by
  obtain ⟨j, rfl⟩ := Int.eq_ofNat_of_zero_le h0
  have hj : j < xs.length := by omega
  exact ⟨xs[j], atI_nat (List.getElem?_eq_getElem hj), List.getElem_mem hj⟩
theorem atI_map {β : Type} {fn : α → β} {xs : List α} {k : Int} : atI (xs.map fn) k = (atI xs k).map fn := by
  unfold atI
  rw [List.length_map]
  cases ixN xs.length k with
  | none => rfl
  | some j => simp
end
/-- one turn of a comprehension -/
def kE (K1 : D → DS → Prop) : Vw → DS → Prop := fun w δ3 => match w with
  | .val y => K1 y δ3
  | .slot _ => False
def kS2 (e : DV) (K1 : D → DS → Prop) (K2 : DS → Prop) : Bool → DS → Prop := fun b δ2 => brD (b = true) (bx (A := e δ2 (kE K1)) (B := K2 δ2))
def kS1 (t : DT) (e : DV) (K1 : D → DS → Prop) (K2 : DS → Prop) : DS → Prop := fun δ1 => t δ1 (kS2 e K1 K2)
def stepC (g : DG) (t : DT) (e : DV) (d : D) (δ : DS) (K1 : D → DS → Prop) (K2 : DS → Prop) : Prop := g d δ (kS1 t e K1 K2)
theorem ev_step {g : DG} {t : DT} {e : DV} {d : D} {δ : DS} {K1 : D → DS → Prop} {K2 : DS → Prop} : stepC g t e d δ K1 K2 = g d δ (kS1 t e K1 K2) := rfl
theorem ev_ks1 {t : DT} {e : DV} {δ : DS} {K1 : D → DS → Prop} {K2 : DS → Prop} : kS1 t e K1 K2 δ = t δ (kS2 e K1 K2) := rfl
theorem ev_ks2 {e : DV} {δ : DS} {k : Bool} {K1 : D → DS → Prop} {K2 : DS → Prop} : kS2 e K1 K2 k δ = brD (k = true) (bx (A := e δ (kE K1)) (B := K2 δ)) := rfl
theorem ev_kE {δ : DS} {d : D} {K1 : D → DS → Prop} : kE K1 (.val d) δ = K1 d δ := rfl
/-- a comprehension whose turns leave the state as it is -/
theorem compGo_of {β : Type} {enc : β → D} {p : β → Bool} {f : β → D} {δ : DS} {g : DG} {t : DT} {e : DV} {vs : List Nat} {Q : List D → DS → Prop} : ∀ {xs : List β} {acc : List D},
    (∀ x ∈ xs, ∀ K1 K2, (p x = true → ∀ δ', okWipe δ' vs = true → dWipe δ' vs = δ → K1 (f x) δ') → (p x = false → ∀ δ', okWipe δ' vs = true → dWipe δ' vs = δ → K2 δ') → stepC g t e (enc x) δ K1 K2) →
    acc.length + xs.length ≤ 16777216 → Q (acc ++ (xs.filter p).map f) δ → compGo g t e vs Q (xs.map enc) acc δ
  | [], acc, h, hl, hq => by
    simp only [List.filter_nil, List.map_nil, List.append_nil] at hq
    exact hq
  | x :: xs, acc, h, hl, hq => by
    simp only [List.length_cons] at hl
    refine h x List.mem_cons_self _ _ (fun hp δ' h1 h2 => ⟨by omega, h1, ?_⟩) (fun hp δ' h1 h2 => ⟨h1, ?_⟩)
    · rw [h2]
      refine compGo_of (fun y hy => h y (List.mem_cons_of_mem _ hy)) (by simp only [List.length_append, List.length_cons, List.length_nil]; omega) ?_
      rw [List.filter_cons, if_pos hp, List.map_cons] at hq
      rw [List.append_assoc]
      exact hq
    · rw [h2]
      refine compGo_of (fun y hy => h y (List.mem_cons_of_mem _ hy)) (by omega) ?_
      rw [List.filter_cons, if_neg (by rw [hp]; decide)] at hq
      exact hq
theorem filter_yes {β : Type} (xs : List β) : xs.filter (fun _ => true) = xs := by induction xs <;> simp_all
/-- without a test -/
theorem compGo_map {β : Type} {enc : β → D} {f : β → D} {δ : DS} {g : DG} {t : DT} {e : DV} {vs : List Nat} {Q : List D → DS → Prop} {xs : List β}
    (h : ∀ x ∈ xs, ∀ K1 K2, (∀ δ', okWipe δ' vs = true → dWipe δ' vs = δ → K1 (f x) δ') → stepC g t e (enc x) δ K1 K2) (hl : xs.length ≤ 16777216) (hq : Q (xs.map f) δ) : compGo g t e vs Q (xs.map enc) [] δ :=
  compGo_of (p := fun _ => true) (fun x hx K1 K2 h1 _ => h x hx K1 K2 (h1 rfl)) (by simpa using hl) (by rw [filter_yes]; exact hq)
theorem rngD_nil {lo hi : Int} (h : hi ≤ lo) : rngD lo hi = [] := by
  unfold rngD
  rw [show (hi - lo).toNat = 0 by omega]
  rfl
theorem rngD_cons {lo hi : Int} (h : lo < hi) : rngD lo hi = .int lo :: rngD (lo + 1) hi := by
  unfold rngD
  obtain ⟨n, hn⟩ : ∃ n, (hi - lo).toNat = n + 1 := ⟨(hi - lo).toNat - 1, by omega⟩
  rw [hn, show (hi - (lo + 1)).toNat = n by omega, List.range_succ_eq_map, List.map_cons, List.map_map]
  refine congr (congrArg _ ?_) (List.map_congr_left fun k _ => ?_)
  · simp
  · show D.int (lo + ((k + 1 : Nat) : Int)) = D.int (lo + 1 + (k : Int))
    rw [Int.natCast_add]
    congr 1
    omega
theorem rngD_map (lo hi : Int) : rngD lo hi = ((List.range (hi - lo).toNat).map fun (k : Nat) => lo + (k : Int)).map D.int := by
  unfold rngD
  rw [List.map_map]
  rfl
/-- a loop by what holds with these items left; B: at a break -/
theorem rLoop_inv {β : Type} {enc : β → D} {g : DG} {body : DSt} {E : DE} (st : List β → DS → Prop) (B : DS → Prop)
    (step : ∀ x rest δ, st (x :: rest) δ → ∀ K bk : DS → Prop, (∀ δ', st rest δ' → K δ') → (∀ δ', B δ' → bk δ') → g (enc x) δ (body { nx := K, rt := E.rt, bk := bk, ct := K }))
    (fin : ∀ δ, st [] δ → E.nx δ) (hB : ∀ δ, B δ → E.nx δ) : ∀ {xs : List β} {δ : DS}, st xs δ → rLoop g body E (xs.map enc) δ
  | [], δ, h => fin δ h
  | x :: xs, δ, h => step x xs δ h _ _ (fun δ' h' => rLoop_inv st B step fin hB h') hB
/-- .. without a break -/
theorem loop_by {β : Type} {enc : β → D} {g : DG} {body : DSt} {E : DE} {xs : List β} {δ : DS} (st : List β → DS → Prop) (h0 : st xs δ)
    (step : ∀ x rest δ, st (x :: rest) δ → ∀ K bk : DS → Prop, (∀ δ', st rest δ' → K δ') → g (enc x) δ (body { nx := K, rt := E.rt, bk := bk, ct := K }))
    (fin : ∀ δ, st [] δ → E.nx δ) : loopD (xs.map enc) δ (BoxL.mk : BoxL (rLoop g body E)) :=
  rLoop_inv st (fun _ => False) (fun x rest δ h K bk hk _ => step x rest δ h K bk hk) fin (fun _ h => h.elim) h0
theorem loop_byB {β : Type} {enc : β → D} {g : DG} {body : DSt} {E : DE} {xs : List β} {δ : DS} (st : List β → DS → Prop) (B : DS → Prop) (h0 : st xs δ)
    (step : ∀ x rest δ, st (x :: rest) δ → ∀ K bk : DS → Prop, (∀ δ', st rest δ' → K δ') → (∀ δ', B δ' → bk δ') → g (enc x) δ (body { nx := K, rt := E.rt, bk := bk, ct := K }))
    (fin : ∀ δ, st [] δ → E.nx δ) (hB : ∀ δ, B δ → E.nx δ) : loopD (xs.map enc) δ (BoxL.mk : BoxL (rLoop g body E)) := rLoop_inv st B step fin hB h0
def kW (body : DSt) (E : DE) (nx : DS → Prop) : Bool → DS → Prop := fun k δ1 => brD (k = true) (bx (A := body E δ1) (B := nx δ1))
theorem ev_kW {body : DSt} {E : DE} {nx : DS → Prop} {k : Bool} {δ : DS} : kW body E nx k δ = brD (k = true) (bx (A := body E δ) (B := nx δ)) := rfl
/-- a while by a measure -/
theorem while_by {t : DT} {body : DSt} {E : DE} {δ : DS} (st : Nat → DS → Prop) (B : DS → Prop) (h0 : ∃ n, st n δ)
    (step : ∀ n δ, st n δ → ∀ K nx : DS → Prop, (∀ m δ', m < n → st m δ' → K δ') → (∀ δ', B δ' → nx δ') → t δ (kW body { nx := K, rt := E.rt, bk := nx, ct := K } nx))
    (fin : ∀ δ, B δ → E.nx δ) : whileD δ (BoxL.mk : BoxL (fun _ δ => ∃ n, rWhile t body E n δ)) := by
  have go : ∀ n m δ, m ≤ n → st m δ → rWhile t body E (n + 1) δ := by
    intro n
    induction n with
    | zero =>
      intro m δ hm h
      exact step m δ h (rWhile t body E 0) _ (fun m' δ' hm' h' => by omega) fin
    | succ n ih =>
      intro m δ hm h
      exact step m δ h (rWhile t body E (n + 1)) _ (fun m' δ' hm' h' => ih m' δ' (by omega) h') fin
  obtain ⟨n, h⟩ := h0
  exact ⟨n + 1, go n n δ (Nat.le_refl _) h⟩
theorem comp_of {β : Type} {enc : β → D} {p : β → Bool} {f : β → D} {δ : DS} {g : DG} {t : DT} {e : DV} {vs : List Nat} {Q : List D → DS → Prop} {xs : List β}
    (h : ∀ x ∈ xs, ∀ K1 K2, (p x = true → ∀ δ', okWipe δ' vs = true → dWipe δ' vs = δ → K1 (f x) δ') → (p x = false → ∀ δ', okWipe δ' vs = true → dWipe δ' vs = δ → K2 δ') → stepC g t e (enc x) δ K1 K2)
    (hl : xs.length ≤ 16777216) (hq : Q ((xs.filter p).map f) δ) : loopD (xs.map enc) δ (BoxL.mk : BoxL fun items δ => compGo g t e vs Q items [] δ) := compGo_of h (by simpa using hl) hq
theorem comp_map {β : Type} {enc : β → D} {f : β → D} {δ : DS} {g : DG} {t : DT} {e : DV} {vs : List Nat} {Q : List D → DS → Prop} {xs : List β}
    (h : ∀ x ∈ xs, ∀ K1 K2, (∀ δ', okWipe δ' vs = true → dWipe δ' vs = δ → K1 (f x) δ') → stepC g t e (enc x) δ K1 K2) (hl : xs.length ≤ 16777216) (hq : Q (xs.map f) δ) :
    loopD (xs.map enc) δ (BoxL.mk : BoxL fun items δ => compGo g t e vs Q items [] δ) := compGo_map h hl hq
/-- a comprehension whose turns change the state: what holds of the list so far and the items left -/
theorem comp_inv {β : Type} {enc : β → D} {g : DG} {t : DT} {e : DV} {vs : List Nat} {Q : List D → DS → Prop} {xs : List β} {δ : DS} (st : List β → List D → DS → Prop) (h0 : st xs [] δ)
    (step : ∀ x rest acc δ, st (x :: rest) acc δ → ∀ K1 K2, (∀ y δ', acc.length < 16777216 → okWipe δ' vs = true → st rest (acc ++ [y]) (dWipe δ' vs) → K1 y δ') → (∀ δ', okWipe δ' vs = true → st rest acc (dWipe δ' vs) → K2 δ') → stepC g t e (enc x) δ K1 K2)
    (fin : ∀ acc δ, st [] acc δ → Q acc δ) : loopD (xs.map enc) δ (BoxL.mk : BoxL fun items δ => compGo g t e vs Q items [] δ) := by
  have go : ∀ (xs : List β) (acc : List D) (δ : DS), st xs acc δ → compGo g t e vs Q (xs.map enc) acc δ := by
    intro xs
    induction xs with
    | nil => exact fun acc δ h => fin acc δ h
    | cons x xs ih => exact fun acc δ h => step x xs acc δ h _ _ (fun y δ' h1 h2 h3 => ⟨h1, h2, ih _ _ h3⟩) (fun δ' h1 h2 => ⟨h1, ih _ _ h2⟩)
  exact go xs [] δ h0
/-- an item of a written list at an open place -/
theorem pick {ds : List D} {k : Int} {f : D → Prop} {b : BoxD f} (p : D → Prop) (h0 : 0 ≤ k) (h1 : k < (ds.length : Int)) (h : ∀ d ∈ ds, p d) (hk : ∀ d, p d → f d) : optD (atI ds k) b := by
  obtain ⟨x, e1, e2⟩ := atI_in h0 h1
  rw [e1]
  exact hk x (h x e2)
theorem pickI {ds : List D} {k : Int} {f : D → Prop} {b : BoxD f} (p : Int → Prop) (h0 : 0 ≤ k) (h1 : k < (ds.length : Int)) (h : ∀ d ∈ ds, ∃ z, d = .int z ∧ p z) (hk : ∀ z, p z → f (.int z)) : optD (atI ds k) b :=
  pick (fun d => ∃ z, d = .int z ∧ p z) h0 h1 h fun d ⟨z, e, hz⟩ => by
    subst e
    exact hk z hz
theorem all_nil {p : D → Prop} : ∀ d ∈ ([] : List D), p d := fun d h => by cases h
theorem all_cons {p : D → Prop} {x : D} {xs : List D} (h : p x) (hs : ∀ d ∈ xs, p d) : ∀ d ∈ x :: xs, p d := fun d hd => by
  rcases List.mem_cons.mp hd with rfl | hd
  · exact h
  · exact hs d hd
end Dl

/-! Dl: laws of data that more than one def uses. -/
namespace Dl
open PySem L2
/-- data of ints and tuples of a depth, no texts -/
def Pi : Nat → D → Prop
  | _, .non => True
  | _, .bl _ => True
  | _, .int _ => True
  | n + 1, .tup ds => ∀ d ∈ ds, Pi n d
  | n + 1, .lst ds => ∀ d ∈ ds, Pi n d
  | _, _ => False
theorem pi_canLay : ∀ (n : Nat) (d : D), Pi n d → (toPy d).canLay0 = true ∧ (toPy d).depth ≤ n
  | n, .non, _ => by cases n <;> simp [toPy, PyData.canLay0, PyData.depth]
  | n, .bl _, _ => by cases n <;> simp [toPy, PyData.canLay0, PyData.depth]
  | n, .int _, _ => by cases n <;> simp [toPy, PyData.canLay0, PyData.depth]
  | 0, .str _, h => h.elim
  | n + 1, .str _, h => h.elim
  | 0, .rol _, h => h.elim
  | n + 1, .rol _, h => h.elim
  | 0, .tup _, h => h.elim
  | 0, .lst _, h => h.elim
  | n + 1, .tup ds, h => by
    have go : ∀ ds : List D, (∀ d ∈ ds, Pi n d) → PyData.canLayAll0 (toPys ds) = true ∧ PyData.depthAll (toPys ds) ≤ n := by
      intro ds
      induction ds with
      | nil => exact fun _ => by simp [toPys, PyData.canLayAll0, PyData.depthAll]
      | cons d ds ih =>
        intro h
        obtain ⟨i1, i2⟩ := ih fun x hx => h x (List.mem_cons_of_mem _ hx)
        obtain ⟨j1, j2⟩ := pi_canLay n d (h d List.mem_cons_self)
        simp only [toPys, PyData.canLayAll0, PyData.depthAll, i1, j1, Bool.and_self, true_and]
        omega
    obtain ⟨i1, i2⟩ := go ds h
    simp only [toPy, PyData.canLay0, PyData.depth, i1, true_and]
    omega
  | n + 1, .lst ds, h => by
    have go : ∀ ds : List D, (∀ d ∈ ds, Pi n d) → PyData.canLayAll0 (toPys ds) = true ∧ PyData.depthAll (toPys ds) ≤ n := by
      intro ds
      induction ds with
      | nil => exact fun _ => by simp [toPys, PyData.canLayAll0, PyData.depthAll]
      | cons d ds ih =>
        intro h
        obtain ⟨i1, i2⟩ := ih fun x hx => h x (List.mem_cons_of_mem _ hx)
        obtain ⟨j1, j2⟩ := pi_canLay n d (h d List.mem_cons_self)
        simp only [toPys, PyData.canLayAll0, PyData.depthAll, i1, j1, Bool.and_self, true_and]
        omega
    obtain ⟨i1, i2⟩ := go ds h
    simp only [toPy, PyData.canLay0, PyData.depth, i1, true_and]
    omega
theorem pi_sh {n : Nat} {d : D} (h : Pi n d) (hn : n ≤ 64) : shP d = true := by
  obtain ⟨h1, h2⟩ := pi_canLay n d h
  unfold shP SeqAt.shaped
  rw [h1, Bool.true_and, decide_eq_true_eq]
  omega
theorem eqP_refl {d : D} (h : shP d = true) : eqP d d = true := SeqAt.eqv_refl _ (SeqAt.canLay_of_shaped h)
/-- a list of small numbers as data -/
def nI (i : Nat) : D := .int (i : Int)
theorem nI_eq (i : Nat) : nI i = .int (i : Int) := rfl
theorem pi_nats {l : List Nat} : Pi 1 (.tup (l.map nI)) := fun d hd => by
  obtain ⟨i, _, rfl⟩ := List.mem_map.mp hd
  trivial
theorem flat_nats (l : List Nat) : (l.map nI).all flatD = true := by
  rw [List.all_map, List.all_eq_true]
  exact fun _ _ => rfl
theorem flat_ints (l : List Int) : (l.map D.int).all flatD = true := by
  rw [List.all_map, List.all_eq_true]
  exact fun _ _ => rfl
theorem inF_nats (i : Nat) (l : List Nat) : inF (.int (i : Int)) (l.map nI) = decide (i ∈ l) := by
  unfold inF
  induction l with
  | nil => simp
  | cons j l ih =>
    rw [List.map_cons, List.any_cons, ih]
    show (((j : Int) == (i : Int)) || decide (i ∈ l)) = _
    by_cases h : i = j
    · subst h
      simp
    · have : ¬((j : Int) = (i : Int)) := by omega
      simp [this, h]
theorem inF_ints (i : Int) (l : List Int) : inF (.int i) (l.map D.int) = decide (i ∈ l) := by
  unfold inF
  induction l with
  | nil => simp
  | cons j l ih =>
    rw [List.map_cons, List.any_cons, ih]
    show ((j == i) || decide (i ∈ l)) = _
    by_cases h : i = j
    · subst h
      simp
    · have : ¬(j = i) := fun e => h e.symm
      simp [this, h]
theorem atI_at {α : Type} {xs : List α} {k : Nat} (h : k < xs.length) : atI xs (k : Int) = some xs[k] := atI_nat (List.getElem?_eq_getElem h)
theorem atI_last {α : Type} {xs : List α} {x : α} : atI (xs ++ [x]) (-1) = some x := by
  unfold atI ixN
  rw [if_neg (by decide), if_pos (by simp only [List.length_append, List.length_singleton]; omega)]
  show (xs ++ [x])[(_ : Int).toNat]? = _
  rw [show (-1 + (((xs ++ [x]).length : Nat) : Int)).toNat = xs.length by simp only [List.length_append, List.length_singleton]; omega, List.getElem?_append_right (Nat.le_refl _), Nat.sub_self]
  rfl
theorem rngD_nats (n : Nat) : rngD 0 (n : Int) = (List.range n).map nI := by
  unfold rngD
  rw [show ((n : Int) - 0).toNat = n by omega]
  refine List.map_congr_left fun k _ => ?_
  show D.int _ = D.int _
  rw [Int.zero_add]
theorem cut_take {α : Type} (xs : List α) (n : Nat) : cutD xs none (some (n : Int)) = xs.take n := by
  unfold cutD
  rw [HT.sIx_none, HT.sIx_nat, List.drop_zero, Nat.sub_zero]
  rcases Nat.le_total n xs.length with h | h
  · rw [Nat.min_eq_left h]
  · rw [Nat.min_eq_right h, List.take_of_length_le (Nat.le_refl _), List.take_of_length_le h]
theorem cut_drop {α : Type} (xs : List α) (n : Nat) : cutD xs (some (n : Int)) none = xs.drop n := by
  unfold cutD
  rw [HT.sIx_none, HT.sIx_nat]
  rcases Nat.le_total n xs.length with h | h
  · rw [Nat.min_eq_left h, List.take_of_length_le (by rw [List.length_drop]; omega)]
  · rw [Nat.min_eq_right h, List.drop_of_length_le h, List.drop_of_length_le (Nat.le_refl _), List.take_nil]
theorem cut_drop1 {α : Type} (x : α) (xs : List α) : cutD (x :: xs) (some 1) none = xs := cut_drop (x :: xs) 1
/-- a loop over range(n), by the number of turns -/
theorem loop_rngB {n : Nat} {g : DG} {body : DSt} {E : DE} {δ : DS} (st : Nat → DS → Prop) (B : DS → Prop) (h0 : st 0 δ)
    (step : ∀ i δ, i < n → st i δ → ∀ K bk : DS → Prop, (∀ δ', st (i + 1) δ' → K δ') → (∀ δ', B δ' → bk δ') → g (.int (i : Int)) δ (body { nx := K, rt := E.rt, bk := bk, ct := K }))
    (fin : ∀ δ, st n δ → E.nx δ) (hB : ∀ δ, B δ → E.nx δ) : loopD (rngD 0 (n : Int)) δ (BoxL.mk : BoxL (rLoop g body E)) := by
  rw [rngD_nats]
  refine loop_byB (fun rest δ => ∃ i, i ≤ n ∧ rest = (List.range n).drop i ∧ st i δ) B ⟨0, Nat.zero_le _, rfl, h0⟩ ?_ ?_ hB
  · rintro x rest δ ⟨i, hi, e, h⟩ K bk hk hb
    have hi : i < n := by
      refine Nat.lt_of_le_of_ne hi fun z => ?_
      rw [z, List.drop_of_length_le (by simp)] at e
      cases e
    rw [List.drop_eq_getElem_cons (by simpa using hi), List.getElem_range] at e
    obtain ⟨rfl, rfl⟩ := List.cons.inj e
    exact step x δ hi h K bk (fun δ' h' => hk δ' ⟨x + 1, hi, rfl, h'⟩) hb
  · rintro δ ⟨i, hi, e, h⟩
    have hi : i = n := by
      refine Nat.le_antisymm hi (Nat.not_lt.mp fun z => ?_)
      rw [List.drop_eq_getElem_cons (by simpa using z)] at e
      cases e
    exact fin δ (hi ▸ h)
theorem loop_rng {n : Nat} {g : DG} {body : DSt} {E : DE} {δ : DS} (st : Nat → DS → Prop) (h0 : st 0 δ)
    (step : ∀ i δ, i < n → st i δ → ∀ K bk : DS → Prop, (∀ δ', st (i + 1) δ' → K δ') → g (.int (i : Int)) δ (body { nx := K, rt := E.rt, bk := bk, ct := K }))
    (fin : ∀ δ, st n δ → E.nx δ) : loopD (rngD 0 (n : Int)) δ (BoxL.mk : BoxL (rLoop g body E)) :=
  loop_rngB st (fun _ => False) h0 (fun i δ hi h K bk hk _ => step i δ hi h K bk hk) fin fun _ h => h.elim
end Dl

/-! Dl: more statements and methods. -/
namespace Dl
open PySem L2 PySem.Spec PyProof.Rows
/-! ### x[k] op= e -/
def kAugPut (i : Nat) (k : Int) (E : DE) (δ : DS) : D → Prop := fun z => selSet (sg δ i) i z k δ (BoxE.mk : BoxE E)
def kAug3 (i : Nat) (R : R2D) (k : Int) (old : D) (E : DE) : Vw → DS → Prop := fun w2 δ2 => elim2 (some old) (vget δ2 w2) (BoxR.mk : BoxR R) (BoxP.mk : BoxP (kAugPut i k E δ2))
def kAug2 (i : Nat) (R : R2D) (re : DV) (k : Int) (E : DE) (δ1 : DS) : D → Prop := fun old => re δ1 (kAug3 i R k old E)
def augGo (s : Sl) (i : Nat) (k : Int) (δ1 : DS) {R : R2D} (_ : BoxR R) {re : DV} (_ : BoxDV re) {E : DE} (_ : BoxE E) : Prop := match s with
  | .own _ (.lst ds) => 0 ≤ k ∧ optD (atI ds k) (BoxD.mk : BoxD (kAug2 i R re k E δ1))
  | _ => False
def kAug1 (i : Nat) (R : R2D) (re : DV) (E : DE) : Vw → DS → Prop := fun w δ1 => match w with
  | .val (.int k) => augGo (sg δ1 i) i k δ1 (BoxR.mk : BoxR R) (BoxDV.mk : BoxDV re) (BoxE.mk : BoxE E)
  | _ => False
def sAugI (i : Nat) (R : R2D) (rk re : DV) : DSt := fun E δ => selSet1 (sg δ i) δ (BoxDV.mk : BoxDV rk) (BoxV.mk : BoxV (kAug1 i R re E))
section
variable {i : Nat} {R : R2D} {rk re : DV} {E : DE} {δ : DS} {k : Int} {d old : D} {ds : List D} {io : Bool} {w : Vw}
theorem ev_augI : sAugI i R rk re E δ = selSet1 (sg δ i) δ (BoxDV.mk : BoxDV rk) (BoxV.mk : BoxV (kAug1 i R re E)) := rfl
theorem ev_kaug1 : kAug1 i R re E (.val (.int k)) δ = augGo (sg δ i) i k δ (BoxR.mk : BoxR R) (BoxDV.mk : BoxDV re) (BoxE.mk : BoxE E) := rfl
theorem ev_augGo {z : BoxR R} {z2 : BoxDV re} {z3 : BoxE E} : augGo (.own io (.lst ds)) i k δ z z2 z3 = (0 ≤ k ∧ optD (atI ds k) (BoxD.mk : BoxD (kAug2 i R re k E δ))) := rfl
theorem ev_kaug2 : kAug2 i R re k E δ old = re δ (kAug3 i R k old E) := rfl
theorem ev_kaug3 : kAug3 i R k old E w δ = elim2 (some old) (vget δ w) (BoxR.mk : BoxR R) (BoxP.mk : BoxP (kAugPut i k E δ)) := rfl
theorem ev_kaugPut : kAugPut i k E δ d = selSet (sg δ i) i d k δ (BoxE.mk : BoxE E) := rfl
end
def rGetL (K : PySem.W.Frag) : V → V → Hp → VK → Prop := fun o i H Q => ∃ p xs k v, o = .ref p ∧ i = .int k ∧ 0 ≤ k ∧ SqL K H p xs ∧ xs[k.toNat]? = some v ∧ Q v H
theorem get_list {X : Cx} : PGet X (rGetL X.K) := by
  intro pins s σ H o i ov iv Q inv ro ri h
  rcases h with ⟨p, xs, k, v, eo, ei, h0, hs, hv, q⟩
  subst eo; subst ei
  cases ro
  rcases ri with ⟨t, rfl⟩
  rcases inv.list hs with ⟨its, r, pl, hz⟩
  rcases r.get hv with ⟨w, ew, rw'⟩
  have hlt := (List.getElem?_eq_some_iff.mp hv).1
  have hn := line63
  exact wpAny_getItem_list pl.isList h0 (by omega) (by simpa using ew) ⟨v, H, inv, rw', q⟩
section
variable {X : Cx} {e k : Expr} {rk re : DV} {pos spos p : Pos}
theorem s_augI (i : Nat) {x : Str} {op : Operator} {r : R2} {R : R2D} (h : PE X (.Name x p) (tVar i)) (ho : OpR X (inplaceOp op) r) (hs : OpS X.K r R) (hk : PE X k (liftV X.K rk)) (he : PE X e (liftV X.K re))
    (ha : ∀ a b c, augStore k a b c = (do
      holding [c, a, b] (setItem a b c)
      release [c, a, b] []
      pure .next) := by intros; rfl) : PS X (.AugAssign (.Subscript (.Name x p) k spos) op e pos) (liftS X.K (sAugI i R rk re)) :=
  ps_wk (ps_augS h hk get_list he (fun pins s σ H x y v u Q I r1 r2 h => ho pins s σ H x y v u Q I r1 r2 h) set_list ha) fun D σ H ⟨c, F, δ, E, S, h, L⟩ => by
    unfold sAugI selSet1 at h
    cases q : sg δ i with
    | no => simp only [q] at h
    | frz _ => simp only [q] at h
    | own io0 x0 =>
      cases x0 with
      | dic _ => simp only [q] at h
      | dicT _ => simp only [q] at h
      | lst ds0 =>
        simp only [q] at h
        obtain ⟨l, ho, k1, _⟩ := S.own (sg_at q (by intro z; cases z))
        refine ⟨.ref l, k1, c, F, δ, _, S, h, fun w δ1 g v1 F1 H1 e1 S1 r1 => ?_⟩
        cases w with
        | slot j => exact g.elim
        | val d =>
          cases d with
          | int kk =>
            replace g : augGo (sg δ1 i) i kk δ1 (BoxR.mk : BoxR R) (BoxDV.mk : BoxDV re) (BoxE.mk : BoxE E) := g
            unfold augGo at g
            cases q1 : sg δ1 i with
            | no => simp only [q1] at g
            | frz _ => simp only [q1] at g
            | own io1 x1 =>
              cases x1 with
              | dic _ => simp only [q1] at g
              | dicT _ => simp only [q1] at g
              | lst ds =>
                simp only [q1] at g
                obtain ⟨g0, g⟩ := g
                have hq1 := sg_at q1 (by intro z; cases z)
                obtain ⟨l1, ho1, m1, m2, m3, m4, us, rfl, m5⟩ := S1.own hq1
                rw [k1] at m1
                cases m1
                cases e9 : atI ds kk with
                | none => rw [e9] at g; exact g.elim
                | some old =>
                  rw [e9] at g
                  replace g : re δ1 (kAug3 i R kk old E) := g
                  obtain ⟨j, j1, j2, j3, j4, j5⟩ := atI_get e9
                  have hj : kk.toNat = j := by
                    rw [seqIndex_of g0 j5] at j1
                    exact Option.some.inj j1
                  obtain ⟨vo, o1, o2⟩ := m5.get j2
                  refine ⟨l, us, kk, vo, rfl, int_of r1, g0, SqL.of m4, by rw [hj]; exact o1, c, F1, δ1, _, S1, g, fun w2 δ2 g v2 F2 H2 e2 S2 r2 => ?_⟩
                  unfold kAug3 elim2 at g
                  cases q2 : vget δ2 w2 with
                  | none => simp only [q2] at g
                  | some b =>
                    simp only [q2] at g
                    refine hs F2 H2 old b vo v2 _ _ S2.sub (Rep.view S2.sub (Rep.mono e2 _ _ o2)) (S2.view r2 q2) g fun d z F3 H3 hd gr rz => ?_
                    obtain ⟨e3, S3⟩ := S2.grow gr
                    unfold kAugPut selSet at hd
                    cases q3 : sg δ2 i with
                    | no => simp only [q3] at hd
                    | frz _ => simp only [q3] at hd
                    | own io3 x3 =>
                      cases x3 with
                      | dic _ => simp only [q3] at hd
                      | dicT _ => simp only [q3] at hd
                      | lst es =>
                        simp only [q3] at hd
                        obtain ⟨l3, ho3, n1, n2, n3, n4, ws, rfl, n5⟩ := S3.own (sg_at q3 (by intro z; cases z))
                        rw [k1] at n1
                        cases n1
                        cases q4 : ixN es.length kk with
                        | none => simp only [q4] at hd
                        | some m =>
                          simp only [q4] at hd
                          rw [ss_eq] at hd
                          exact ⟨l, ws, kk, m, rfl, int_of r1, n4, by rw [n5.len]; exact q4, L.nx _ hd σ F3 _ (e1.trans (e2.trans e3)) (S3.put (sg_at q3 (by intro z; cases z)) k1 ⟨_, rfl, Reps.set m n5 rz⟩)⟩
          | _ => exact g.elim
end
/-! ### x.pop(k) -/
def kPopD (i : Nat) (io : Bool) (ds : List D) (k : Int) (δ1 : DS) (Q : Vw → DS → Prop) : D → Prop := fun d => Q (.val d) (ss δ1 i (.own io (.lst (ds.eraseIdx k.toNat))))
def popGo (s : Sl) (i : Nat) (k : Int) (δ1 : DS) {Q : Vw → DS → Prop} (_ : BoxV Q) : Prop := match s with
  | .own io (.lst ds) => (0 ≤ k ∧ k < 4611686018427387904) ∧ optD (atI ds k) (BoxD.mk : BoxD (kPopD i io ds k δ1 Q))
  | _ => False
def kPop (i : Nat) (Q : Vw → DS → Prop) : Vw → DS → Prop := fun w δ1 => match w with
  | .val (.int k) => popGo (sg δ1 i) i k δ1 (BoxV.mk : BoxV Q)
  | _ => False
def rPopI (i : Nat) (re : DV) : DV := fun δ Q => selSet1 (sg δ i) δ (BoxDV.mk : BoxDV re) (BoxV.mk : BoxV (kPop i Q))
section
variable {i : Nat} {re : DV} {δ : DS} {k : Int} {d : D} {ds : List D} {io : Bool} {Q : Vw → DS → Prop}
theorem ev_popI : rPopI i re δ Q = selSet1 (sg δ i) δ (BoxDV.mk : BoxDV re) (BoxV.mk : BoxV (kPop i Q)) := rfl
theorem ev_kpop : kPop i Q (.val (.int k)) δ = popGo (sg δ i) i k δ (BoxV.mk : BoxV Q) := rfl
theorem ev_popGo {z : BoxV Q} : popGo (.own io (.lst ds)) i k δ z = ((0 ≤ k ∧ k < 4611686018427387904) ∧ optD (atI ds k) (BoxD.mk : BoxD (kPopD i io ds k δ Q))) := rfl
theorem ev_kpopD : kPopD i io ds k δ Q d = Q (.val d) (ss δ i (.own io (.lst (ds.eraseIdx k.toNat)))) := rfl
end
section
variable {X : Cx} {e : Expr} {re : DV} {pos p apos : Pos}
theorem pop_sound {i : Nat} : ∀ σ H R, liftV X.K (rPopI i re) σ H R → tBM X.K "list" rPopAt (tVar i) (tCons (liftV X.K re) tNil) σ H R := fun σ H R ⟨c, F, δ, P, S, h, L⟩ => by
    unfold rPopI selSet1 at h
    cases q : sg δ i with
    | no => simp only [q] at h
    | frz _ => simp only [q] at h
    | own io0 x0 =>
      cases x0 with
      | dic _ => simp only [q] at h
      | dicT _ => simp only [q] at h
      | lst ds0 =>
        simp only [q] at h
        obtain ⟨l, ho, k1, k2, k3, k4, us0, rfl, k5⟩ := S.own (sg_at q (by intro z; cases z))
        refine ⟨.ref l, k1, Or.inl ⟨rfl, us0, SqL.of k4⟩, c, F, δ, _, S, h, fun w δ1 g v1 F1 H1 e1 S1 r1 => ?_⟩
        cases w with
        | slot j => exact g.elim
        | val d =>
          cases d with
          | int kk =>
            replace g : popGo (sg δ1 i) i kk δ1 (BoxV.mk : BoxV P) := g
            unfold popGo at g
            cases q1 : sg δ1 i with
            | no => simp only [q1] at g
            | frz _ => simp only [q1] at g
            | own io1 x1 =>
              cases x1 with
              | dic _ => simp only [q1] at g
              | dicT _ => simp only [q1] at g
              | lst ds =>
                simp only [q1] at g
                obtain ⟨⟨g0, g9⟩, g⟩ := g
                have hq1 := sg_at q1 (by intro z; cases z)
                obtain ⟨l1, ho1, m1, m2, m3, m4, us, rfl, m5⟩ := S1.own hq1
                rw [k1] at m1
                cases m1
                cases e9 : atI ds kk with
                | none => rw [e9] at g; exact g.elim
                | some old =>
                  rw [e9] at g
                  replace g : P (.val old) (ss δ1 i (.own io1 (.lst (ds.eraseIdx kk.toNat)))) := g
                  obtain ⟨j, j1, j2, j3, j4, j5⟩ := atI_get e9
                  have hj : kk.toNat = j := by
                    rw [seqIndex_of g0 j5] at j1
                    exact Option.some.inj j1
                  obtain ⟨vo, o1, o2⟩ := m5.get j2
                  rw [ss_eq, hj] at g
                  exact ⟨l, us, kk, j, vo, rfl, by rw [int_of r1], m4, by omega, by omega, by rw [m5.len]; exact j1, o1, L _ _ g vo F1 _ e1 (S1.put hq1 k1 ⟨_, rfl, m5.erase j⟩) o2⟩
          | _ => exact g.elim
end
/-! ### list(range(n)) -/
def kLstRg (QF : List D → DS → Prop) : Vw → DS → Prop := fun w δ1 => match w with
  | .val (.int n) => (0 ≤ n ∧ n ≤ 16777216) ∧ QF (rngD 0 n) δ1
  | _ => False
def rLstRg (ra : DV) : DF := fun δ QF => ra δ (kLstRg QF)
section
variable {ra : DV} {δ : DS} {QF : List D → DS → Prop}
theorem ev_lstRg : rLstRg ra δ QF = ra δ (kLstRg QF) := rfl
theorem ev_klstRg {n : Int} : kLstRg QF (.val (.int n)) δ = ((0 ≤ n ∧ n ≤ 16777216) ∧ QF (rngD 0 n) δ) := rfl
theorem lstRg_sound {X : Cx} : ∀ σ H Q, liftF X.K (rLstRg ra) σ H Q → tLstRg (tRg1 (liftV X.K ra)) σ H Q := fun σ H Q ⟨c, F, δ, P, S, h, k⟩ => ⟨c, F, δ, _, S, h, fun w δ1 h1 v F1 H1 e1 S1 r1 => by
  cases w with
  | slot j => exact h1.elim
  | val d =>
    cases d with
    | int n =>
      replace h1 : (0 ≤ n ∧ n ≤ 16777216) ∧ P (rngD 0 n) δ1 := h1
      refine ⟨n, int_of r1, RgOk.of_le (Int.le_refl _) h1.1.2 (by decide) h1.1.1, fun p hp => ?_⟩
      obtain ⟨S2, fr⟩ := S1.fresh (o := .lst (rgV 0 n)) hp
      refine k _ _ h1.2 p _ F1 _ e1 S2 fr upd_same ?_
      have z := Reps.of_ints (K := X.K) (F := F1) ((List.range (n - 0).toNat).map fun (k : Nat) => (0 : Int) + (k : Int))
      rw [List.map_map, List.map_map] at z
      exact z
    | _ => exact h1.elim⟩
end
end Dl

/-! Dl: texts. -/
namespace Dl
open PySem L2 PySem.Spec PyProof.Rows
/-- a text again and again -/
def repS (z : Str) (n : Nat) : Str := ⟨(List.replicate n z.cps).foldl (· ++ ·) #[]⟩
theorem repS_go (a : Array Nat) : ∀ (n : Nat) (acc : Array Nat), ((List.replicate n a).foldl (· ++ ·) acc).size = acc.size + n * a.size
  | 0, acc => by simp
  | n + 1, acc => by
    rw [List.replicate_succ, List.foldl_cons, repS_go a n, Array.size_append, Nat.succ_mul]
    omega
theorem repS_len (z : Str) (n : Nat) : (repS z n).length = n * z.length := by
  show ((List.replicate n z.cps).foldl (· ++ ·) #[]).size = _
  rw [repS_go]
  show 0 + n * z.cps.size = _
  rw [Nat.zero_add]
  rfl
theorem repS_zero (z : Str) : repS z 0 = Str.empty := rfl
theorem repS_one (z : Str) : repS z 1 = z := by
  show (⟨#[] ++ z.cps⟩ : Str) = z
  rw [Array.empty_append]
def rRepS : R2 := fun x y H Q => ∃ z k, x = .str z ∧ y = .int k ∧ 0 ≤ k ∧ k ≤ 1000 ∧ 1 ≤ z.length ∧ z.length ≤ 1000 ∧ Q (.str (repS z k.toNat)) H
theorem op_repS {X : Cx} : OpR X (binaryOp .Mult) rRepS := by
  intro pins s σ H x y v u Q I rx ry h
  obtain ⟨z, k, rfl, rfl, h0, h1, h2, h3, q⟩ := h
  obtain ⟨t, rfl⟩ := rx
  obtain ⟨t', rfl⟩ := ry
  refine P.mul_str (by rw [decide_eq_false (by omega), decide_eq_false (by omega)]; rfl) (fun g1 g2 => ?_) (fun g1 g2 => ?_) ?_
  · have : 1000 ≤ (2 ^ 63 - 1) / k := Int.le_ediv_of_mul_le (by omega) (by omega)
    omega
  · unfold Builtin.Str.tooLong
    have : z.length * k.toNat ≤ 1000 * 1000 := Nat.mul_le_mul h3 (by omega)
    rw [decide_eq_false_iff_not, sizeLine_eq]
    omega
  · by_cases g : k < 1
    · rw [if_pos g]
      have : k = 0 := by omega
      subst this
      exact ⟨by decide, .str Str.empty, H, I.tok _, ⟨_, rfl⟩, q⟩
    · rw [if_neg g]
      have hz : (z.length == 0) = false := by
        rw [beq_eq_false_iff_ne]
        omega
      by_cases g1 : k = 1
      · subst g1
        rw [if_pos (by rfl)]
        have q' : Q (.str z) H := by
          have := repS_one z
          rw [← this]
          exact q
        exact ⟨.str z, H, I, ⟨_, rfl⟩, q'⟩
      · rw [if_neg (by rw [hz, beq_eq_false_iff_ne.mpr g1]; decide)]
        refine ⟨?_, .str (repS z k.toNat), H, I.tok _, ⟨_, rfl⟩, q⟩
        have l := repS_len z k.toNat
        have : k.toNat * z.length ≤ 1000 * 1000 := Nat.mul_le_mul (by omega) h3
        show (repS z k.toNat).length ≤ sizeLine
        rw [l, sizeLine_eq]
        omega
def repSR : R2D
  | .str z, .int k, P => ((0 ≤ k ∧ k ≤ 1000) ∧ (1 ≤ z.length ∧ z.length ≤ 1000)) ∧ P (.str (repS z k.toNat))
  | _, _, _ => False
theorem ev_repS {z : Str} {k : Int} {P : D → Prop} : repSR (.str z) (.int k) P = (((0 ≤ k ∧ k ≤ 1000) ∧ (1 ≤ z.length ∧ z.length ≤ 1000)) ∧ P (.str (repS z k.toNat))) := rfl
theorem os_repS {K : PySem.W.Frag} : OpS K rRepS repSR := fun F H a b x y P Q e ha hb h k => by
  cases a with
  | str z =>
    cases b with
    | int i =>
      replace h : ((0 ≤ i ∧ i ≤ 1000) ∧ (1 ≤ z.length ∧ z.length ≤ 1000)) ∧ P (.str (repS z i.toNat)) := h
      exact ⟨z, i, str_v ha, int_v hb, h.1.1.1, h.1.1.2, h.1.2.1, h.1.2.2, k _ _ F H h.2 (Or.inl ⟨rfl, rfl⟩) rS_⟩
    | _ => exact h.elim
  | _ => exact h.elim
end Dl

/-! Dl: causes, parties: what several defs speak of. -/
namespace Dl
open PySem L2
/-- the parties -/
def pS : Bool → Str
  | true => "claimant"
  | false => "respondent"
/-- the words of a cause -/
def Wd (w : Str) : Prop := w = "and" ∨ w = "or" ∨ w = "unless"
theorem Wd.ne {w : Str} (h : Wd w) : w ≠ "issue" := by
  rcases h with rfl | rfl | rfl <;> decide
/-- a cause -/
inductive Tr where
  | leaf (x : Str) (b : Bool) (m : Int)
  | node (w : Str) (a b : Tr)
def Tr.d : Tr → D
  | .leaf x b m => .tup [.str "issue", .str x, .bl b, .int m]
  | .node w a b => .tup [.str w, a.d, b.d]
def Tr.h : Tr → Nat
  | .leaf _ _ _ => 0
  | .node _ a b => max a.h b.h + 1
def Tr.ok : Tr → Prop
  | .leaf _ _ _ => True
  | .node w a b => Wd w ∧ a.ok ∧ b.ok
def Tr.n : Tr → Nat
  | .leaf _ _ _ => 1
  | .node _ a b => a.n + b.n
theorem Tr.n_le : ∀ t : Tr, t.n ≤ 2 ^ t.h
  | .leaf _ _ _ => Nat.le_refl _
  | .node _ a b => by
    have h1 := a.n_le
    have h2 := b.n_le
    have h3 : 2 ^ a.h ≤ 2 ^ (max a.h b.h) := Nat.pow_le_pow_right (by decide) (Nat.le_max_left _ _)
    have h4 : 2 ^ b.h ≤ 2 ^ (max a.h b.h) := Nat.pow_le_pow_right (by decide) (Nat.le_max_right _ _)
    show a.n + b.n ≤ 2 ^ (max a.h b.h + 1)
    rw [Nat.pow_succ]
    omega
theorem Tr.n_small {t : Tr} (h : t.h ≤ 20) : t.n ≤ 1048576 := Nat.le_trans t.n_le (Nat.pow_le_pow_right (by decide) h)
theorem Tr.n_pos : ∀ t : Tr, 1 ≤ t.n
  | .leaf _ _ _ => Nat.le_refl _
  | .node _ a b => by
    have := a.n_pos
    show 1 ≤ a.n + b.n
    omega
def leafD (l : Str × Bool × Int) : D := .tup [.str "issue", .str l.1, .bl l.2.1, .int l.2.2]
end Dl

/-! Dl: methods of texts and lists with one argument; str(n); is with True, False; min, max of a list. -/
namespace Dl
open PySem L2 PySem.Spec PyProof.Rows
def kM1b (R : R2D) (a : Str) (Q : Vw → DS → Prop) : Vw → DS → Prop := fun w2 δ2 => elim2 (some (.str a)) (vget δ2 w2) (BoxR.mk : BoxR R) (BoxP.mk : BoxP (kD Q δ2))
def kM1 (R : R2D) (rb : DV) (Q : Vw → DS → Prop) : Vw → DS → Prop := fun w1 δ1 => match w1 with
  | .val (.str a) => rb δ1 (kM1b R a Q)
  | _ => False
def rM1 (R : R2D) (ra rb : DV) : DV := fun δ Q => ra δ (kM1 R rb Q)
section
variable {δ : DS} {Q : Vw → DS → Prop} {w : Vw} {a : Str} {ra rb : DV} {R : R2D}
theorem ev_m1 : rM1 R ra rb δ Q = ra δ (kM1 R rb Q) := rfl
theorem ev_km1 : kM1 R rb Q (.val (.str a)) δ = rb δ (kM1b R a Q) := rfl
theorem ev_km1b : kM1b R a Q w δ = elim2 (some (.str a)) (vget δ w) (BoxR.mk : BoxR R) (BoxP.mk : BoxP (kD Q δ)) := rfl
end
/-- a method of a text at the level of data -/
def MS (K : PySem.W.Frag) (r : V → List V → Hp → VK → Prop) (R : R2D) : Prop := ∀ (F H : Hp) (a : Str) (b : D) (y : V) (P : D → Prop) (Q : VK), Same F H → RepV K F H b y → R (.str a) b P → (∀ d v F' H', P d → Grow F H F' H' → Rep K F' d v → Q v H') → r (.str a) [y] H Q
section
variable {X : Cx} {ra rb : DV}
theorem m1_sound {r : V → List V → Hp → VK → Prop} {R : R2D} (hs : MS X.K r R) : ∀ σ H Q, liftV X.K (rM1 R ra rb) σ H Q → tM1 r (liftV X.K ra) (liftV X.K rb) σ H Q := fun σ H Q ⟨c, F, δ, P, S, h, k⟩ =>
  ⟨c, F, δ, _, S, h, fun w1 δ1 h1 x F1 H1 e1 S1 r1 => by
    cases w1 with
    | slot i => exact h1.elim
    | val d =>
      cases d with
      | str a =>
        have e : x = .str a := by simpa only [VwRel, Rep] using r1
        subst e
        refine ⟨⟨a, rfl⟩, c, F1, δ1, _, S1, h1, fun w2 δ2 h2 y F2 H2 e2 S2 r2 => ?_⟩
        unfold kM1b elim2 at h2
        cases q2 : vget δ2 w2 with
        | none => simp only [q2] at h2
        | some b =>
          simp only [q2] at h2
          refine hs F2 H2 a b y _ _ S2.sub (S2.view r2 q2) h2 fun d v F3 H3 hd g rv => ?_
          obtain ⟨e3, S3⟩ := S2.grow g
          exact k _ _ hd v F3 H3 ((e1.trans e2).trans e3) S3 rv
      | _ => exact h1.elim⟩
end
/-! join -/
def strsD : List D → Option (List Str)
  | [] => some []
  | .str x :: ds => match strsD ds with
    | some xs => some (x :: xs)
    | none => none
  | _ => none
theorem strsD_map : ∀ ns : List Str, strsD (ns.map D.str) = some ns
  | [] => rfl
  | n :: ns => by
    rw [List.map_cons]
    unfold strsD
    rw [strsD_map ns]
theorem strsD_eq : ∀ {ds : List D} {ns : List Str}, strsD ds = some ns → ds = ns.map D.str
  | [], ns, h => by
    cases h
    rfl
  | d :: ds, ns, h => by
    cases d with
    | str x =>
      unfold strsD at h
      cases q : strsD ds with
      | none => simp only [q] at h; cases h
      | some xs =>
        simp only [q] at h
        cases h
        rw [strsD_eq q]
        rfl
    | _ => cases h
def elimJ (o : Option (List Str)) (a : Str) {P : D → Prop} (_ : BoxP P) : Prop := match o with
  | some ys => (ys.map (·.length)).sum + ys.length * a.length ≤ 16777216 ∧ P (.str (Txt.join a ys))
  | none => False
def joinR : R2D
  | .str a, .lst ds, P => elimJ (strsD ds) a (BoxP.mk : BoxP P)
  | .str a, .tup ds, P => elimJ (strsD ds) a (BoxP.mk : BoxP P)
  | _, _, _ => False
section
variable {K : PySem.W.Frag} {P : D → Prop} {a b : Str} {ds : List D} {ys : List Str}
theorem ev_join : joinR (.str a) (.lst ds) P = elimJ (strsD ds) a (BoxP.mk : BoxP P) := rfl
theorem ev_joinT : joinR (.str a) (.tup ds) P = elimJ (strsD ds) a (BoxP.mk : BoxP P) := rfl
theorem ev_elimJ {z : BoxP P} : elimJ (some ys) a z = ((ys.map (·.length)).sum + ys.length * a.length ≤ 16777216 ∧ P (.str (Txt.join a ys))) := rfl
theorem ms_join : MS K (fun x xs H Q => ∃ a p, ∃ ys : List Str, x = .str a ∧ xs = [.ref p] ∧ (SqL K H p (ys.map V.str) ∨ SqT K H p (ys.map V.str)) ∧ (ys.map (·.length)).sum + ys.length * a.length ≤ 16777216 ∧ Q (.str (Txt.join a ys)) H) joinR := fun F H a b y P Q e rb h k => by
  cases b with
  | lst ds =>
    replace h : elimJ (strsD ds) a (BoxP.mk : BoxP P) := h
    cases q : strsD ds with
    | none => rw [q] at h; exact h.elim
    | some ys =>
      rw [q] at h
      obtain ⟨p, vs, rfl, g1, g2⟩ := lst_v rb
      rw [strsD_eq q] at g2
      rw [g2.strs] at g1
      exact ⟨a, p, ys, rfl, rfl, .inl (SqL.of g1), h.1, k _ _ F H h.2 (stay (P := True)) rS_⟩
  | tup ds =>
    replace h : elimJ (strsD ds) a (BoxP.mk : BoxP P) := h
    cases q : strsD ds with
    | none => rw [q] at h; exact h.elim
    | some ys =>
      rw [q] at h
      obtain ⟨p, vs, rfl, g1, g2⟩ := tup_v rb
      rw [strsD_eq q] at g2
      rw [g2.strs] at g1
      exact ⟨a, p, ys, rfl, rfl, .inr (same_t e g1), h.1, k _ _ F H h.2 (stay (P := True)) rS_⟩
  | _ => exact h.elim
/-! count, index -/
def countR : R2D
  | .str a, .str b, P => P (.int (Txt.count a b))
  | _, _, _ => False
theorem ev_count : countR (.str a) (.str b) P = P (.int (Txt.count a b)) := rfl
theorem ms_count : MS K (fun x xs H Q => ∃ a b, x = .str a ∧ xs = [.str b] ∧ Q (.int (Txt.count a b)) H) countR := fun F H a b y P Q e rb h k => by
  cases b with
  | str b =>
    rw [str_v rb]
    exact ⟨a, b, rfl, rfl, k _ _ F H h (stay (P := True)) rI_⟩
  | _ => exact h.elim
def elimX (o : List Nat) {P : D → Prop} (_ : BoxP P) : Prop := match o with
  | i :: _ => P (.int (i : Nat))
  | [] => False
def sindexR : R2D
  | .str a, .str b, P => elimX (Builtin.Str.occurrences a b 0 a.length 1) (BoxP.mk : BoxP P)
  | _, _, _ => False
theorem ev_sindex : sindexR (.str a) (.str b) P = elimX (Builtin.Str.occurrences a b 0 a.length 1) (BoxP.mk : BoxP P) := rfl
theorem ev_elimX {i : Nat} {r : List Nat} {z : BoxP P} : elimX (i :: r) z = P (.int (i : Nat)) := rfl
theorem ms_sindex : MS K (fun x xs H Q => ∃ a b i rest, x = .str a ∧ xs = [.str b] ∧ Builtin.Str.occurrences a b 0 a.length 1 = i :: rest ∧ Q (.int (i : Nat)) H) sindexR := fun F H a b y P Q e rb h k => by
  cases b with
  | str b =>
    rw [str_v rb]
    replace h : elimX (Builtin.Str.occurrences a b 0 a.length 1) (BoxP.mk : BoxP P) := h
    cases q : Builtin.Str.occurrences a b 0 a.length 1 with
    | nil => rw [q] at h; exact h.elim
    | cons i r =>
      rw [q] at h
      exact ⟨a, b, i, r, rfl, rfl, q, k _ _ F H h (stay (P := True)) rI_⟩
  | _ => exact h.elim
end
/-! methods of a list or a tuple with one argument -/
def kB1b (R : R2D) (w1 : Vw) (Q : Vw → DS → Prop) : Vw → DS → Prop := fun w2 δ2 => elim2 (vget δ2 w1) (vget δ2 w2) (BoxR.mk : BoxR R) (BoxP.mk : BoxP (kD Q δ2))
def selB1 (o : Option D) (T : String) (δ : DS) {rb : DV} (_ : BoxDV rb) {Q : Vw → DS → Prop} (_ : BoxV Q) : Prop := match o with
  | some d => tyD d = T ∧ rb δ Q
  | none => False
def kB1 (T : String) (R : R2D) (rb : DV) (Q : Vw → DS → Prop) : Vw → DS → Prop := fun w1 δ1 => selB1 (vget δ1 w1) T δ1 (BoxDV.mk : BoxDV rb) (BoxV.mk : BoxV (kB1b R w1 Q))
def rB1 (T : String) (R : R2D) (ra rb : DV) : DV := fun δ Q => ra δ (kB1 T R rb Q)
section
variable {δ : DS} {Q : Vw → DS → Prop} {w w1 : Vw} {d : D} {ra rb : DV} {R : R2D} {T : String}
theorem ev_b1 : rB1 T R ra rb δ Q = ra δ (kB1 T R rb Q) := rfl
theorem ev_kb1 : kB1 T R rb Q w δ = selB1 (vget δ w) T δ (BoxDV.mk : BoxDV rb) (BoxV.mk : BoxV (kB1b R w Q)) := rfl
theorem ev_selB1 {z : BoxDV rb} {z2 : BoxV Q} : selB1 (some d) T δ z z2 = (tyD d = T ∧ rb δ Q) := rfl
theorem ev_kb1b : kB1b R w1 Q w δ = elim2 (vget δ w1) (vget δ w) (BoxR.mk : BoxR R) (BoxP.mk : BoxP (kD Q δ)) := rfl
end
def MB (K : PySem.W.Frag) (r : V → List V → Hp → VK → Prop) (R : R2D) : Prop := ∀ (F H : Hp) (a b : D) (x y : V) (P : D → Prop) (Q : VK), Same F H → RepV K F H a x → RepV K F H b y → R a b P → (∀ d v F' H', P d → Grow F H F' H' → Rep K F' d v → Q v H') → r x [y] H Q
theorem tyV_D {K : PySem.W.Frag} {F H : Hp} {d : D} {x : V} (e : Same F H) (r : RepV K F H d x) (t : tyD d = "list") : tyV K "list" x H := by
  cases d with
  | lst ds =>
    obtain ⟨p, vs, rfl, g1, g2⟩ := lst_v r
    exact Or.inl ⟨rfl, vs, SqL.of g1⟩
  | rol ds =>
    obtain ⟨p, vs, rfl, g1, g2⟩ := rol_v r
    exact Or.inl ⟨rfl, vs, same_l e g1⟩
  | tup ds => exact absurd (show ("tuple" : String) = "list" from t) (by decide)
  | non => exact absurd t (by decide)
  | bl b => exact absurd (show ("bool" : String) = "list" from t) (by decide)
  | int b => exact absurd (show ("int" : String) = "list" from t) (by decide)
  | str b => exact absurd (show ("str" : String) = "list" from t) (by decide)
section
variable {X : Cx} {ra rb : DV} {T : String}
theorem b1_sound {r : V → List V → Hp → VK → Prop} {R : R2D} (hs : MB X.K r R) : ∀ σ H Q, liftV X.K (rB1 "list" R ra rb) σ H Q → tBM X.K "list" r (liftV X.K ra) (tCons (liftV X.K rb) tNil) σ H Q := fun σ H Q ⟨c, F, δ, P, S, h, k⟩ =>
  ⟨c, F, δ, _, S, h, fun w1 δ1 h1 x F1 H1 e1 S1 r1 => by
    unfold kB1 selB1 at h1
    cases q1 : vget δ1 w1 with
    | none => simp only [q1] at h1
    | some d =>
      simp only [q1] at h1
      refine ⟨tyV_D S1.sub (S1.view r1 q1) h1.1, c, F1, δ1, _, S1, h1.2, fun w2 δ2 h2 y F2 H2 e2 S2 r2 => ?_⟩
      unfold kB1b elim2 at h2
      cases q3 : vget δ2 w1 with
      | none => simp only [q3] at h2
      | some a =>
        cases q2 : vget δ2 w2 with
        | none => simp only [q3, q2] at h2
        | some b =>
          simp only [q3, q2] at h2
          refine hs F2 H2 a b x y _ _ S2.sub (S2.view (r1.mono e2) q3) (S2.view r2 q2) h2 fun d v F3 H3 hd g rv => ?_
          obtain ⟨e3, S3⟩ := S2.grow g
          exact k _ _ hd v F3 H3 ((e1.trans e2).trans e3) S3 rv⟩
end
/-- how often a number stands in a list -/
def elimCnt (o : Option (List Int)) (k : Int) {P : D → Prop} (_ : BoxP P) : Prop := match o with
  | some ns => P (.int (ns.count k : Nat))
  | none => False
def lcountR : R2D
  | .lst ds, .int k, P => elimCnt (intsD ds) k (BoxP.mk : BoxP P)
  | _, _, _ => False
/-- the first place of flat data in a list -/
def elimIx (o : Option Nat) {P : D → Prop} (_ : BoxP P) : Prop := match o with
  | some j => P (.int (j : Nat))
  | none => False
def placeD (x : D) (ds : List D) : Option Nat := ds.findIdx? fun y => eqF y x
def lindexR : R2D
  | .lst ds, x, P => (flatD x = true ∧ ds.all flatD = true) ∧ elimIx (placeD x ds) (BoxP.mk : BoxP P)
  | _, _, _ => False
section
variable {K : PySem.W.Frag} {P : D → Prop} {ds : List D} {k : Int} {x : D}
theorem ev_lcount : lcountR (.lst ds) (.int k) P = elimCnt (intsD ds) k (BoxP.mk : BoxP P) := rfl
theorem ev_elimCnt {ns : List Int} {z : BoxP P} : elimCnt (some ns) k z = P (.int (ns.count k : Nat)) := rfl
theorem ev_lindex : lindexR (.lst ds) x P = ((flatD x = true ∧ ds.all flatD = true) ∧ elimIx (placeD x ds) (BoxP.mk : BoxP P)) := rfl
theorem ev_elimIx {j : Nat} {z : BoxP P} : elimIx (some j) z = P (.int (j : Nat)) := rfl
theorem mb_lcount : MB K (rCntI K) lcountR := fun F H a b x y P Q e ra rb h k => by
  cases a with
  | lst ds =>
    cases b with
    | int n =>
      replace h : elimCnt (intsD ds) n (BoxP.mk : BoxP P) := h
      cases q : intsD ds with
      | none => rw [q] at h; exact h.elim
      | some ns =>
        rw [q] at h
        obtain ⟨p, vs, rfl, g1, g2⟩ := lst_v ra
        rw [intsD_eq q] at g2
        rw [g2.ints] at g1
        rw [int_v rb]
        exact ⟨p, ns, n, rfl, rfl, SqL.of g1, k _ _ F H h (stay (P := True)) rI_⟩
    | _ => exact h.elim
  | _ => exact h.elim
theorem mb_lindex : MB K (rIndex K) lindexR := fun F H a b x y P Q e ra rb h k => by
  cases a with
  | lst ds =>
    replace h : (flatD b = true ∧ ds.all flatD = true) ∧ elimIx (placeD b ds) (BoxP.mk : BoxP P) := h
    obtain ⟨⟨f1, f2⟩, h⟩ := h
    cases q : placeD b ds with
    | none => rw [q] at h; exact h.elim
    | some j =>
      rw [q] at h
      obtain ⟨p, vs, rfl, g1, g2⟩ := lst_v ra
      obtain ⟨fy, hy⟩ := flat_v f1 rb
      have hq := List.findIdx?_eq_some_iff_getElem.mp q
      obtain ⟨hj, hz, hno⟩ := hq
      obtain ⟨v, hv, rv⟩ := g2.get (List.getElem?_eq_getElem hj)
      have fl := flats_v e f1 rb g2 f2
      have fat : ∀ (m : Nat) (hm : m < ds.length), flatD ds[m] = true := fun m hm => List.all_eq_true.mp f2 _ (List.getElem_mem hm)
      have sym : ∀ (d' : D) (v' : V), flatD d' = true → RepV K F H d' v' → eqV v' y = eqF d' b := fun d' v' fd rd => (flat_v fd rd).2 b y f1 rb
      refine ⟨p, vs, y, j, v, rfl, rfl, SqL.of g1, fy, fl.1, hv, ?_, fun m z' hm hz' => ?_, k _ _ F H h (stay (P := True)) rI_⟩
      · rw [sym _ _ (fat j hj) (Rep.view e rv)]
        exact hz
      · have hm' : m < ds.length := by omega
        obtain ⟨v', hv', rv'⟩ := g2.get (List.getElem?_eq_getElem hm')
        rw [hz'] at hv'
        cases hv'
        rw [sym _ _ (fat m hm') (Rep.view e rv')]
        have := hno m hm
        simpa using this
  | _ => exact h.elim
end
/-! str(n) -/
def strI : RND
  | [.int i], P => i.natAbs < 1000000 ∧ P (.str (Str.ofString (toString i)))
  | _, _ => False
theorem ev_strI {i : Int} {P : D → Prop} : strI [.int i] P = (i.natAbs < 1000000 ∧ P (.str (Str.ofString (toString i)))) := rfl
theorem log_small {n : Nat} (h : n < 1000000) : n.log2 < 1920 := by
  have h1 : n.log2 < 20 := by
    by_cases z : n = 0
    · subst z
      decide
    · exact (Nat.log2_lt z).mpr (Nat.lt_of_lt_of_le h (by decide))
  omega
theorem cs_strI {K : PySem.W.Frag} : CallS K (fun xs H Q => ∃ i, xs = [.int i] ∧ i.natAbs.log2 < 1920 ∧ Q (.str (toString i)) H) strI := fun F H ds xs P Q e hr h k => by
  unfold strI at h
  split at h
  · obtain ⟨v, rfl, rv⟩ := one_v hr
    rw [int_v rv]
    exact ⟨_, rfl, log_small h.1, k _ _ F H h.2 (stay (P := True)) rS_⟩
  · exact h.elim
/-! is with True, False -/
def rIsBool : R2 := fun x y H Q => ∃ b : Bool, y = .bl b ∧ ((∃ a : Bool, x = .bl a ∧ Q (.bl (decide (a = b))) H) ∨ (x = .non ∧ Q (.bl false) H))
theorem op_isBool {X : Cx} : OpR X (compareOp .Is) rIsBool := by
  intro pins s σ H x y v u Q I rx ry h
  obtain ⟨b, rfl, h⟩ := h
  rcases h with ⟨a, rfl, q⟩ | ⟨rfl, q⟩
  · exact op_is_bl pins s σ H _ _ v u Q I rx ry ⟨a, b, rfl, rfl, q⟩
  · cases (show v = Value.none from rx)
    cases (show u = Value.bool b from ry)
    exact wpAny_is_other rfl (fun z => by cases z) ⟨.bl false, H, I, rfl, q⟩
def isBR : R2D
  | .bl a, .bl b, P => P (.bl (decide (a = b)))
  | .non, .bl _, P => P (.bl false)
  | _, _, _ => False
theorem ev_isB {a b : Bool} {P : D → Prop} : isBR (.bl a) (.bl b) P = P (.bl (decide (a = b))) := rfl
theorem ev_isBN {b : Bool} {P : D → Prop} : isBR .non (.bl b) P = P (.bl false) := rfl
theorem os_isB {K : PySem.W.Frag} : OpS K rIsBool isBR := fun F H a b x y P Q e ha hb h k => by
  cases b with
  | bl b =>
    rw [bl_v hb]
    cases a with
    | bl a =>
      rw [bl_v ha]
      exact ⟨b, rfl, .inl ⟨a, rfl, k _ _ F H h (stay (P := True)) rB_⟩⟩
    | non =>
      rw [non_v ha]
      exact ⟨b, rfl, .inr ⟨rfl, k _ _ F H h (stay (P := True)) rB_⟩⟩
    | _ => exact h.elim
  | _ => cases a <;> exact h.elim
/-! min, max of a list of numbers -/
def elimMn (o : Option (List Int)) {P : D → Prop} (_ : BoxP P) : Prop := match o with
  | some ns => 0 < ns.length ∧ ∀ m, m ∈ ns → (∀ y ∈ ns, m ≤ y) → P (.int m)
  | none => False
def elimMx (o : Option (List Int)) {P : D → Prop} (_ : BoxP P) : Prop := match o with
  | some ns => 0 < ns.length ∧ ∀ m, m ∈ ns → (∀ y ∈ ns, y ≤ m) → P (.int m)
  | none => False
def minLR : RND
  | [.lst ds], P => elimMn (intsD ds) (BoxP.mk : BoxP P)
  | _, _ => False
def maxLR : RND
  | [.lst ds], P => elimMx (intsD ds) (BoxP.mk : BoxP P)
  | _, _ => False
section
variable {K : PySem.W.Frag} {P : D → Prop} {ds : List D} {ns : List Int}
theorem ev_minL : minLR [.lst ds] P = elimMn (intsD ds) (BoxP.mk : BoxP P) := rfl
theorem ev_maxL : maxLR [.lst ds] P = elimMx (intsD ds) (BoxP.mk : BoxP P) := rfl
theorem ev_elimMn {z : BoxP P} : elimMn (some ns) z = (0 < ns.length ∧ ∀ m, m ∈ ns → (∀ y ∈ ns, m ≤ y) → P (.int m)) := rfl
theorem ev_elimMx {z : BoxP P} : elimMx (some ns) z = (0 < ns.length ∧ ∀ m, m ∈ ns → (∀ y ∈ ns, y ≤ m) → P (.int m)) := rfl
theorem cs_minL : CallS K (rMin K) minLR := fun F H ds xs P Q e hr h k => by
  unfold minLR at h
  split at h
  · next ds =>
    obtain ⟨v, rfl, rv⟩ := one_v hr
    replace h : elimMn (intsD ds) (BoxP.mk : BoxP P) := h
    cases q : intsD ds with
    | none => rw [q] at h; exact h.elim
    | some ns =>
      rw [q] at h
      obtain ⟨p, vs, rfl, g1, g2⟩ := lst_v rv
      rw [intsD_eq q] at g2
      rw [g2.ints] at g1
      exact ⟨p, ns, rfl, SqL.of g1, h.1, fun m hm hle => k _ _ F H (h.2 m hm hle) (stay (P := True)) rI_⟩
  · exact h.elim
theorem cs_maxL : CallS K (rMax K) maxLR := fun F H ds xs P Q e hr h k => by
  unfold maxLR at h
  split at h
  · next ds =>
    obtain ⟨v, rfl, rv⟩ := one_v hr
    replace h : elimMx (intsD ds) (BoxP.mk : BoxP P) := h
    cases q : intsD ds with
    | none => rw [q] at h; exact h.elim
    | some ns =>
      rw [q] at h
      obtain ⟨p, vs, rfl, g1, g2⟩ := lst_v rv
      rw [intsD_eq q] at g2
      rw [g2.ints] at g1
      exact ⟨p, ns, rfl, SqL.of g1, h.1, fun m hm hle => k _ _ F H (h.2 m hm hle) (stay (P := True)) rI_⟩
  · exact h.elim
end
/-! a loop over a written list, turn by turn -/
def DE.loop (g : DG) (body : DSt) (E : DE) (ds : List D) : DE := { nx := rLoop g body E ds, rt := E.rt, bk := E.nx, ct := rLoop g body E ds }
def kBody (body : DSt) (E : DE) : DS → Prop := fun δ => body E δ
section
variable {g : DG} {body : DSt} {E : DE} {d : D} {ds : List D} {δ : DS} {z : Ret}
theorem loop_c : loopD (d :: ds) δ (BoxL.mk : BoxL (rLoop g body E)) = g d δ (kBody body (DE.loop g body E ds)) := rfl
theorem loop_n : loopD [] δ (BoxL.mk : BoxL (rLoop g body E)) = E.nx δ := rfl
theorem ev_kbody : kBody body E δ = body E δ := rfl
theorem ev_lnx : (DE.loop g body E ds).nx δ = loopD ds δ (BoxL.mk : BoxL (rLoop g body E)) := rfl
theorem ev_lct : (DE.loop g body E ds).ct δ = loopD ds δ (BoxL.mk : BoxL (rLoop g body E)) := rfl
theorem ev_lbk : (DE.loop g body E ds).bk δ = E.nx δ := rfl
theorem ev_lrt : (DE.loop g body E ds).rt z δ = E.rt z δ := rfl
end
theorem emp_last {α : Type} {xs : List α} {x : α} : (xs ++ [x]).isEmpty = false := by cases xs <;> rfl
/-! what texts are -/
def sgS (c : Nat) : Str := ⟨#[c]⟩
theorem tl_sgS (c : Nat) : (sgS c).cps.toList = [c] := rfl
theorem sgS_len (c : Nat) : (sgS c).length = 1 := rfl
theorem sgn1_eq (c : Nat) : sgn1 c = .str (sgS c) := rfl
theorem sgS_inj {c d : Nat} : sgS c = sgS d ↔ c = d := ⟨fun h => by have := congrArg (fun x : Str => x.cps.toList) h; simpa [sgS] using this, fun h => by rw [h]⟩
theorem sgs_len (l : List Nat) : ((l.map sgS).map (·.length)).sum = l.length := by
  induction l with
  | nil => rfl
  | cons c l ih =>
    simp only [List.map_cons, List.sum_cons, List.length_cons, ih, sgS_len]
    omega
theorem ofStr_eq {a b : String} : (Str.ofString a = Str.ofString b) = (a = b) := propext ⟨fun h => by
  have h1 := congrArg TL.tl h
  rw [TL.tl_ofString, TL.tl_ofString] at h1
  have inj : ∀ l m : List Char, l.map Char.toNat = m.map Char.toNat → l = m := by
    intro l
    induction l with
    | nil => intro m h; cases m with
      | nil => rfl
      | cons _ _ => cases h
    | cons c l ih =>
      intro m h
      cases m with
      | nil => cases h
      | cons d m =>
        simp only [List.map_cons, List.cons.injEq] at h
        rw [ih m h.2, Char.toNat_inj.mp h.1]
  exact String.toList_inj.mp (inj _ _ h1), fun h => by rw [h]⟩
def ofL (l : List Nat) : Str := ⟨l.toArray⟩
theorem tl_ofL (l : List Nat) : (ofL l).cps.toList = l := rfl
theorem ofL_len (l : List Nat) : (ofL l).length = l.length := by show l.toArray.size = _; simp
theorem join_sgs (l : List Nat) : Txt.join (Str.ofString "") (l.map sgS) = ofL l := by
  refine TL.ext_tl ?_
  rw [TL.join_eq, TL.tl_join, List.map_map]
  show TL.joinL [] _ = l
  induction l with
  | nil => rfl
  | cons c l ih =>
    cases l with
    | nil => rfl
    | cons d l =>
      show TL.tl (sgS c) ++ TL.joinL [] (List.map (TL.tl ∘ sgS) (d :: l)) = _
      rw [ih]
      rfl
theorem mix2 {rs : List D} {a b x y : D} (hl : rs.length = 2) (h : ∀ i : Nat, rs[i]? = [a, b][i]? ∨ rs[i]? = [x, y][i]?) : ∃ u v, rs = [u, v] ∧ (u = a ∨ u = x) ∧ (v = b ∨ v = y) := by
  match rs, hl with
  | [u, v], _ =>
    refine ⟨u, v, rfl, ?_, ?_⟩
    · have := h 0
      simpa using this
    · have := h 1
      simpa using this
theorem mix_cons {rs : List D} {a b : D} {as bs : List D} (hl : rs.length = (a :: as).length) (h : ∀ i : Nat, rs[i]? = (a :: as)[i]? ∨ rs[i]? = (b :: bs)[i]?) : ∃ u us, rs = u :: us ∧ (u = a ∨ u = b) ∧ us.length = as.length ∧ (∀ i : Nat, us[i]? = as[i]? ∨ us[i]? = bs[i]?) := by
  cases rs with
  | nil => cases hl
  | cons u us =>
    refine ⟨u, us, rfl, ?_, Nat.succ.inj hl, fun i => ?_⟩
    · have := h 0
      simpa using this
    · have := h (i + 1)
      simpa only [List.getElem?_cons_succ] using this
theorem mix_nil {rs : List D} (hl : rs.length = ([] : List D).length) : rs = [] := List.length_eq_zero_iff.mp hl
section
variable {α : Type} {a b c d e f g h : α} {r : List α}
theorem cut_t1 : cutD (a :: r) none (some 1) = [a] := cut_take _ 1
theorem cut_t2 : cutD (a :: b :: r) none (some 2) = [a, b] := cut_take _ 2
theorem cut_t3 : cutD (a :: b :: c :: r) none (some 3) = [a, b, c] := cut_take _ 3
theorem cut_t4 : cutD (a :: b :: c :: d :: r) none (some 4) = [a, b, c, d] := cut_take _ 4
theorem cut_t5 : cutD (a :: b :: c :: d :: e :: r) none (some 5) = [a, b, c, d, e] := cut_take _ 5
theorem cut_t6 : cutD (a :: b :: c :: d :: e :: f :: r) none (some 6) = [a, b, c, d, e, f] := cut_take _ 6
theorem cut_t7 : cutD (a :: b :: c :: d :: e :: f :: g :: r) none (some 7) = [a, b, c, d, e, f, g] := cut_take _ 7
theorem cut_t8 : cutD (a :: b :: c :: d :: e :: f :: g :: h :: r) none (some 8) = [a, b, c, d, e, f, g, h] := cut_take _ 8
theorem cut_d2 : cutD (a :: b :: r) (some 2) none = r := cut_drop _ 2
theorem cut_d3 : cutD (a :: b :: c :: r) (some 3) none = r := cut_drop _ 3
theorem cut_d4 : cutD (a :: b :: c :: d :: r) (some 4) none = r := cut_drop _ 4
end
/-- a loop over range(lo, hi), by the number of turns -/
theorem loop_ups {lo hi : Int} {n : Nat} {g : DG} {body : DSt} {E : DE} {δ : DS} (hn : (hi - lo).toNat = n) (st : Nat → DS → Prop) (h0 : st 0 δ)
    (step : ∀ i δ, i < n → st i δ → ∀ K bk : DS → Prop, (∀ δ', st (i + 1) δ' → K δ') → g (.int (lo + (i : Int))) δ (body { nx := K, rt := E.rt, bk := bk, ct := K }))
    (fin : ∀ δ, st n δ → E.nx δ) : loopD (rngD lo hi) δ (BoxL.mk : BoxL (rLoop g body E)) := by
  unfold rngD
  rw [hn]
  refine loop_by (fun rest δ => ∃ i, i ≤ n ∧ rest = (List.range n).drop i ∧ st i δ) ⟨0, Nat.zero_le _, rfl, h0⟩ ?_ ?_
  · rintro x rest δ ⟨i, hi, e, h⟩ K bk hk
    have hi : i < n := by
      refine Nat.lt_of_le_of_ne hi fun z => ?_
      rw [z, List.drop_of_length_le (by simp)] at e
      cases e
    rw [List.drop_eq_getElem_cons (by simpa using hi), List.getElem_range] at e
    obtain ⟨rfl, rfl⟩ := List.cons.inj e
    exact step x δ hi h K bk fun δ' h' => hk δ' ⟨x + 1, hi, rfl, h'⟩
  · rintro δ ⟨i, hi, e, h⟩
    have hi : i = n := by
      refine Nat.le_antisymm hi (Nat.not_lt.mp fun z => ?_)
      rw [List.drop_eq_getElem_cons (by simpa using z)] at e
      cases e
    exact fin δ (hi ▸ h)
end Dl

/-! Dl: sorted of a tuple of pairs; a star in a tuple. -/
namespace Dl
open PySem L2 PySem.Spec PyProof.Rows SrtO
section
variable {prog : Program} {w : World} {A : Around} {E : Value → Shared → Prop} {s : Shared}
theorem srtT {l : Addr} {o : Obj} {vs : List Value} {n : Nat} {ltv : Value → Value → Bool} {Q : Value → Shared → Prop} (O : Swo ltv) (ho : s.heap.get? l = some o) (hc : o.cls = .type "tuple") (hd : o.data = .seq vs.toArray n) (hz : vs.length ≤ sizeLine)
    (hS : 2 ≤ vs.length → ∀ (h1 : Heap) (a : Addr), h1.get? a = some (seqObj "list" vs.toArray 0) → (∀ b u, s.heap.get? b = some u → h1.get? b = some u) → SortableO prog w A.in1.in1 { s with heap := h1 } a vs ltv)
    (fin : ∀ (h1 h2 : Heap) (out : List Value), Srtd ltv out → Stb ltv out vs → (∀ b u, s.heap.get? b = some u → h1.get? b = some u) → (∀ b u, h1.get? b = some u → h2.get? b = some u) → (∃ m, h2.get? h1.objs.size = some (seqObj "list" out.toArray m)) → Q (.ref h1.objs.size) { s with heap := h2 }) :
    wpAny (model prog w) A (call (.builtin "sorted") [.ref l]) Q E s := by
  refine Calls.call_function_entry kind_sorted plain_sorted entry_sorted (args_sorted1 _) ?_
  unfold Builtin.«sorted»
  refine wpAny_bind (m := checkCount "sorted" 1 1 _) (wpAny_pure (wpAny_bind (wpAny_collect_seq l (.inr rfl) ho hc hd (fun h1 k1 => ?_) (by rw [List.size_toArray]; exact hz))))
  have at1 : (h1.push (seqObj "list" vs.toArray 0)).get? h1.objs.size = some (seqObj "list" vs.toArray 0) := Heap.get?_push_size _ rfl
  have lt1 : ∀ b u, h1.get? b = some u → b < h1.objs.size := fun b u e => Heap.lt_size e
  have ev : vs.toArray.toList = vs := by simp
  rw [ev]
  refine wpAny_bind (wpAny_newList (wpAny_bind (wpAny_holding (wpAny_call_entry slot_list_sort ⟨_, at1, rfl⟩ entry_list_sort (list_sort_ord (n := 0) O at1 hz (fun h2 => hS h2 _ _ at1 fun b u e => Heap.get?_push_of_some _ (k1 b u e)) fun out z1 z2 => ⟨_, rfl, ?_⟩) (args_list_sort _)))) (by simpa using hz))
  refine wpAny_pure ⟨_, rfl, fin h1 _ out z1 z2 k1 (fun b u e => ?_) (sortedHeap_at at1)⟩
  have hb := lt1 b u e
  rw [sortedHeap_old (Nat.ne_of_lt hb) (by rw [size_push']; exact Nat.lt_succ_of_lt hb)]
  exact Heap.get?_push_of_some _ e
end
def pairD (p : Int × Int) : D := .tup [.int p.1, .int p.2]
/-- sorted of pairs: the items with what they are worth, put in order -/
def rSortPairs (K : PySem.W.Frag) : List V → Hp → VK → Prop := fun vs H Q => ∃ (a : Addr) (xs : List V) (ps : List (Int × Int)), vs = [V.ref a] ∧ SqT K H a xs ∧ Reps K H (ps.map pairD) xs ∧
  ∀ (zs : List (V × (Int × Int))) (p : Addr), zs.Perm (xs.zip ps) → (zs.map (·.2)).Pairwise (fun x y => lexB y x = false) → H p = none → Q (.ref p) (upd H p (.lst (zs.map (·.1))))
theorem isPair_fun {h : Heap} {v : Value} {x y x' y' : Int} (h1 : Srt.IsPair h v x y) (h2 : Srt.IsPair h v x' y') : x = x' ∧ y = y' := by
  obtain ⟨a, o, t, u, n, e, ho, hc, hd⟩ := h1
  obtain ⟨a', o', t', u', n', e', ho', hc', hd'⟩ := h2
  rw [e] at e'
  cases e'
  rw [ho] at ho'
  cases ho'
  rw [hd] at hd'
  simp at hd'
  exact ⟨hd'.1.1.1, hd'.1.2.1⟩
open Classical in
noncomputable def pairOf (h : Heap) (v : Value) : Int × Int := if e : ∃ p : Int × Int, Srt.IsPair h v p.1 p.2 then e.choose else (0, 0)
theorem pairOf_eq {h : Heap} {v : Value} {p : Int × Int} (e : Srt.IsPair h v p.1 p.2) : pairOf h v = p := by
  unfold pairOf
  have ex : ∃ p : Int × Int, Srt.IsPair h v p.1 p.2 := ⟨p, e⟩
  rw [dif_pos ex]
  obtain ⟨a, b⟩ := isPair_fun ex.choose_spec e
  exact Prod.ext a b
section
variable {X : Cx}
theorem cr_sortPairs : CallR X (.builtin "sorted") (rSortPairs X.K) := by
  intro pins st σ H vs us Q I r hh
  obtain ⟨a, xs, ps, rfl, hq, hr, fin⟩ := hh
  obtain ⟨its, rv, ⟨o, ho, hc, n, hd⟩, hz⟩ := I.tuple hq
  obtain ⟨u0, rfl, ru⟩ := vals1 r
  obtain rfl : u0 = Value.ref a := ru
  have hrefs : ∀ {ps : List (Int × Int)} {xs : List V}, Reps X.K H (ps.map pairD) xs → ∀ x ∈ xs, ∃ a, x = V.ref a := fun {ps} => by
    induction ps with
    | nil =>
      intro xs h x hx
      rw [h.unnil] at hx
      cases hx
    | cons p ps ih =>
      intro xs h x hx
      obtain ⟨v, ws, rfl, h2, h3⟩ := h.uncons
      rcases List.mem_cons.mp hx with rfl | hx
      · obtain ⟨a, vs, e, _⟩ := tup_v (F := H) (H := H) (K := X.K) h2
        exact ⟨a, e⟩
      · exact ih h3 x hx
  rw [rv.length] at hz
  obtain ⟨e1, e2⟩ := refs_back rv (hrefs hr)
  have hp : ∀ {ps : List (Int × Int)} {xs : List V} {us : List Value}, Vals xs us → Reps X.K H (ps.map pairD) xs → (∀ v ∈ us, Srt.IsPair st.heap v (pairOf st.heap v).1 (pairOf st.heap v).2) ∧ us.map (fun v => (backV v, pairOf st.heap v)) = xs.zip ps := fun {ps} => by
    induction ps with
    | nil =>
      intro xs us rv h
      obtain rfl := h.unnil
      cases rv
      exact ⟨fun v hv => (by cases hv), rfl⟩
    | cons p ps ih =>
      intro xs us rv h
      obtain ⟨v, ws, rfl, h2, h3⟩ := h.uncons
      cases rv with
      | cons r0 rt =>
        obtain ⟨g1, g2⟩ := ih rt h3
        obtain ⟨t, vs, e, h4, h5⟩ := tup_v (F := H) (H := H) (K := X.K) h2
        subst e
        obtain rfl := r0
        obtain ⟨v1, w1, rfl, i1, h6⟩ := h5.uncons
        obtain ⟨v2, w2, rfl, i2, h7⟩ := h6.uncons
        obtain rfl := h7.unnil
        obtain rfl := int_v (F := H) (H := H) (K := X.K) i1
        obtain rfl := int_v (F := H) (H := H) (K := X.K) i2
        obtain ⟨its2, r2, ⟨o2, ho2, hc2, n2, hd2⟩, _⟩ := I.tuple h4
        obtain ⟨y1, y2, rfl, ri, rj⟩ := vals2 r2
        obtain ⟨t1, rfl⟩ := ri
        obtain ⟨t2, rfl⟩ := rj
        have ip : Srt.IsPair st.heap (Value.ref t) p.1 p.2 := ⟨t, o2, t1, t2, n2, rfl, ho2, hc2, hd2⟩
        have ep := pairOf_eq ip
        refine ⟨fun v hv => ?_, ?_⟩
        · rcases List.mem_cons.mp hv with rfl | hv
          · rw [ep]
            exact ip
          · exact g1 v hv
        · rw [List.map_cons, List.zip_cons_cons, g2, ep]
          rfl
  obtain ⟨hpair, hzip⟩ := hp rv hr
  refine srtT (swo_lex (pairOf st.heap)) ho hc hd hz (fun h2 h1 b hb k1 => ?_) fun h1 h2 out z1 z2 k1 k2 hl => ?_
  · refine pairs_sortableO (by omega) (fun v hv => (hpair v hv).keeps fun b u e _ => k1 b u e) fun u e => ?_
    have e' := e.symm.trans hb
    cases e'
    exact fun c => absurd (Value.type.inj c) (by decide)
  · obtain ⟨m, hm⟩ := hl
    have h3 : ∀ u ∈ out, ∃ a, u = Value.ref a := fun u hu => e2 u (z2.perm.mem_iff.mp hu)
    have hlen : out.length ≤ sizeLine := by rw [z2.perm.length_eq]; exact hz
    have I1 := I.kept (t' := st.toks) k1
    have q := fin (out.map fun v => (backV v, pairOf st.heap v)) h1.objs.size (by rw [← hzip]; exact z2.perm.map _) (by
      rw [List.map_map]
      exact List.pairwise_map.mpr z1) (I1.hok.fresh (Nat.le_refl _))
    rw [List.map_map] at q
    exact ⟨.ref h1.objs.size, upd H h1.objs.size (.lst (out.map backV)), I1.laid (t' := st.toks) k2 (Nat.le_refl _) ⟨by rw [List.length_map]; exact hlen, out, m, vals_back h3, hm⟩, rfl, q⟩
end
/-- at the level of data -/
def pairsD : List D → Option (List (Int × Int))
  | [] => some []
  | .tup [.int x, .int y] :: ds => match pairsD ds with
    | some ps => some ((x, y) :: ps)
    | none => none
  | _ => none
theorem pairsD_map : ∀ ps : List (Int × Int), pairsD (ps.map pairD) = some ps
  | [] => rfl
  | p :: ps => by
    rw [List.map_cons]
    show (match pairsD (ps.map pairD) with
      | some ps => some ((p.1, p.2) :: ps)
      | none => none) = _
    rw [pairsD_map ps]
def sortPR : List D → (List D → Prop) → Prop
  | [.tup ds], P => ∃ ps : List (Int × Int), ds = ps.map pairD ∧ ∀ qs : List (Int × Int), qs.Perm ps → qs.Pairwise (fun x y => lexB y x = false) → P (qs.map pairD)
  | _, _ => False
theorem ev_sortP {ds : List D} {P : List D → Prop} : sortPR [.tup ds] P = ∃ ps : List (Int × Int), ds = ps.map pairD ∧ ∀ qs : List (Int × Int), qs.Perm ps → qs.Pairwise (fun x y => lexB y x = false) → P (qs.map pairD) := rfl
theorem cf_sortP {K : PySem.W.Frag} : CallF K (rSortPairs K) sortPR := fun F H ds xs P Q e hr h k => by
  unfold sortPR at h
  split at h
  · next ds =>
    obtain ⟨v, rfl, rv⟩ := one_v hr
    obtain ⟨ps, rfl, h⟩ := h
    obtain ⟨a, vs, rfl, g1, g2⟩ := tup_v rv
    refine ⟨a, vs, ps, rfl, same_t e g1, Reps.mono e _ _ g2, fun zs p hz hs hp => ?_⟩
    have el : vs.length = ps.length := by rw [g2.len, List.length_map]
    have hperm : (zs.map (·.2)).Perm ps := by
      have := hz.map (·.2)
      rwa [List.map_snd_zip (by omega)] at this
    refine k _ p _ (h _ hperm hs) hp ?_
    have hall : ∀ {ps : List (Int × Int)} {vs : List V}, Reps K F (ps.map pairD) vs → ∀ z ∈ vs.zip ps, Rep K F (pairD z.2) z.1 := fun {ps} => by
      induction ps with
      | nil =>
        intro vs _ z hz
        rw [List.zip_nil_right] at hz
        cases hz
      | cons p ps ih =>
        intro vs h z hz
        obtain ⟨v, ws, rfl, h2, h3⟩ := h.uncons
        rw [List.zip_cons_cons] at hz
        rcases List.mem_cons.mp hz with rfl | hz
        · exact h2
        · exact ih h3 z hz
    have hm : ∀ z ∈ zs, Rep K F (pairD z.2) z.1 := fun z hz' => hall g2 z (hz.mem_iff.mp hz')
    clear hz hs hperm
    induction zs with
    | nil => exact Reps.nil
    | cons z zs ih => exact Reps.cons (hm z List.mem_cons_self) (ih fun y hy => hm y (List.mem_cons_of_mem _ hy))
  · exact h.elim
/-! a star among the arguments -/
inductive BoxDA (rs : DA) : Type where
  | mk
inductive BoxQA (Q : List Vw → DS → Prop) : Type where
  | mk
def kStar (ds : List D) (Q : List Vw → DS → Prop) : List Vw → DS → Prop := fun ws δ2 => Q (ds.map Vw.val ++ ws) δ2
def selStar (o : Option D) (δ : DS) {rs : DA} (_ : BoxDA rs) {Q : List Vw → DS → Prop} (_ : BoxQA Q) : Prop := match o with
  | some (.tup ds) => rs δ (kStar ds Q)
  | some (.lst ds) => rs δ (kStar ds Q)
  | _ => False
def kStA (rs : DA) (Q : List Vw → DS → Prop) : Vw → DS → Prop := fun w δ1 => selStar (vget δ1 w) δ1 (BoxDA.mk : BoxDA rs) (BoxQA.mk : BoxQA Q)
def rStarA (ra : DV) (rs : DA) : DA := fun δ Q => ra δ (kStA rs Q)
section
variable {δ : DS} {Q : List Vw → DS → Prop} {w : Vw} {ws : List Vw} {ds es : List D} {ra : DV} {rs : DA}
theorem ev_starA : rStarA ra rs δ Q = ra δ (kStA rs Q) := rfl
theorem ev_kstA : kStA rs Q w δ = selStar (vget δ w) δ (BoxDA.mk : BoxDA rs) (BoxQA.mk : BoxQA Q) := rfl
theorem ev_selStarT {z : BoxDA rs} {z2 : BoxQA Q} : selStar (some (.tup ds)) δ z z2 = rs δ (kStar ds Q) := rfl
theorem ev_selStarL {z : BoxDA rs} {z2 : BoxQA Q} : selStar (some (.lst ds)) δ z z2 = rs δ (kStar ds Q) := rfl
theorem ev_kstar : kStar ds Q ws δ = Q (ds.map Vw.val ++ ws) δ := rfl
theorem valsOf_star : valsOf (ds.map Vw.val ++ ws) = (valsOf ws).map (ds ++ ·) := by
  induction ds with
  | nil =>
    cases q : valsOf ws <;> simp [q]
  | cons d ds ih =>
    rw [List.map_cons, List.cons_append]
    show (match valsOf (List.map Vw.val ds ++ ws) with
      | some es => some (d :: es)
      | none => none) = _
    rw [ih]
    cases valsOf ws <;> rfl
theorem valsOf_star1 : valsOf (ds.map Vw.val) = some ds := by
  have := valsOf_star (ds := ds) (ws := [])
  rw [List.append_nil] at this
  rw [this]
  show some (ds ++ []) = _
  rw [List.append_nil]
end
theorem vws_app {K : PySem.W.Frag} {F : Hp} {σ : L2.St} {ds : List D} {vs us : List V} {ws : List Vw} (h1 : Reps K F ds vs) (h2 : VwsRel K F σ ws us) : VwsRel K F σ (ds.map Vw.val ++ ws) (vs ++ us) := by
  induction ds generalizing vs with
  | nil =>
    rw [h1.unnil]
    exact h2
  | cons d ds ih =>
    obtain ⟨v, xs, rfl, g1, g2⟩ := h1.uncons
    exact ⟨v, xs ++ us, rfl, g1, ih g2⟩
theorem a_star {X : Cx} {e : Expr} {es : List Expr} {p : Pos} {ra : DV} {rs : DA} (he : PE X e (liftV X.K ra)) (hr : PA X es (liftA X.K rs)) (hs : starEach (.Starred e p :: es) X.env = (true, eval e X.env) :: starEach es X.env := by rfl) : PA X (.Starred e p :: es) (liftA X.K (rStarA ra rs)) :=
  pa_wk (StX.pa_star he hr hs) fun σ H Q ⟨c, F, δ, P, S, h, k⟩ => ⟨c, F, δ, _, S, h, fun w δ1 h1 v F1 H1 e1 S1 r1 => by
    unfold kStA selStar at h1
    cases q1 : vget δ1 w with
    | none => simp only [q1] at h1
    | some d =>
      simp only [q1] at h1
      have rv := S1.view r1 q1
      cases d with
      | tup ds =>
        obtain ⟨a, vs, rfl, g1, g2⟩ := tup_v rv
        exact ⟨a, vs, rfl, .inl (same_t S1.sub g1), c, F1, δ1, _, S1, h1, fun ws δ2 h2 us F2 H2 e2 S2 r2 => k _ _ h2 _ F2 H2 (e1.trans e2) S2 (vws_app (Reps.mono e2 _ _ g2) r2)⟩
      | lst ds =>
        obtain ⟨a, vs, rfl, g1, g2⟩ := lst_v rv
        exact ⟨a, vs, rfl, .inr (SqL.of g1), c, F1, δ1, _, S1, h1, fun ws δ2 h2 us F2 H2 e2 S2 r2 => k _ _ h2 _ F2 H2 (e1.trans e2) S2 (vws_app (Reps.mono e2 _ _ g2) r2)⟩
      | _ => exact h1.elim⟩
end Dl

/-! Dl: more forms: list of a text. -/
namespace Dl
open PySem L2 PySem.Spec PyProof.Rows
section
variable {X : Cx}
def rListStr : List V → Hp → VK → Prop := fun xs H Q => ∃ a : Str, xs = [.str a] ∧ a.length ≤ sizeLine ∧ ∀ l, H l = none → Q (.ref l) (upd H l (.lst (a.cps.toList.map fun c => V.str (sgS c))))
theorem vals_signs : ∀ (cs : List Nat) (us : List Value), us.length = cs.length → (∀ (j : Nat) (v : Value), us[j]? = some v → ∃ c t, cs[j]? = some c ∧ v = Value.str (sgS c) t) → Vals (cs.map fun c => V.str (sgS c)) us
  | [], [], _, _ => .nil
  | [], u :: us, h, _ => by cases h
  | c :: cs, [], h, _ => by cases h
  | c :: cs, u :: us, h, f => by
    refine .cons ?_ (vals_signs cs us (Nat.succ.inj h) fun j v hv => f (j + 1) v (by simpa using hv))
    obtain ⟨c', t, h1, h2⟩ := f 0 u rfl
    simp at h1
    subst h1
    exact ⟨t, h2⟩
theorem cr_listStr (calm : X.calm = true) : CallR X (.type "list") rListStr := by
  intro pins st σ H xs us Q I r hh
  obtain ⟨a, rfl, hz, fin⟩ := hh
  obtain ⟨u, rfl, t, rfl⟩ := vals1 r
  refine call_list_str (I.ok.hd calm) a t (fun h1 tk acc c1 k1 e1 hacc => ?_) hz
  have hv : Vals (a.cps.toList.map fun c => V.str (sgS c)) acc.toList := vals_signs _ _ (by have := hacc.1; simpa using this) fun j v hv => by
    obtain ⟨c, u, hc, hv⟩ := hacc.2 j v (by simpa using hv)
    exact ⟨c, u, by simpa using hc, hv⟩
  have hlen : (a.cps.toList.map fun c => V.str (sgS c)).length ≤ sizeLine := by
    rw [List.length_map, Array.length_toList]
    exact hz
  exact ⟨.ref st.heap.objs.size, _, I.laid (t' := tk) k1 (Nat.le_refl _) (show ObjOk X.prog X.w _ h1 _ (.lst (a.cps.toList.map fun c => V.str (sgS c))) from ⟨hlen, acc.toList, c1, hv, by simpa using e1⟩), rfl, fin _ (I.hok.fresh (Nat.le_refl _))⟩
end
def listR2 : List D → (List D → Prop) → Prop
  | [.str a], P => a.length ≤ 16777216 ∧ P (a.cps.toList.map sgn1)
  | ds, P => listR ds P
section
variable {K : PySem.W.Frag} {PL : List D → Prop} {ds : List D} {a : Str}
theorem ev_list2S : listR2 [.str a] PL = (a.length ≤ 16777216 ∧ PL (a.cps.toList.map sgn1)) := rfl
theorem ev_list2L : listR2 [.lst ds] PL = PL ds := rfl
theorem ev_list2R : listR2 [.rol ds] PL = PL ds := rfl
theorem ev_list2T : listR2 [.tup ds] PL = PL ds := rfl
theorem cf_list2 : CallF K (fun xs H Q => (∃ p ys, xs = [.ref p] ∧ (SqL K H p ys ∨ SqT K H p ys) ∧ ∀ l, H l = none → Q (.ref l) (upd H l (.lst ys))) ∨ rListStr xs H Q) listR2 := fun F H ds xs P Q e hr h k => by
  unfold listR2 at h
  split at h
  · next a =>
    obtain ⟨v, rfl, rv⟩ := one_v hr
    rw [str_v rv]
    refine Or.inr ⟨a, rfl, line_le h.1, fun l hl => k _ l _ h.2 hl ?_⟩
    have : ∀ cs : List Nat, Reps K F (cs.map sgn1) (cs.map fun c => V.str (sgS c)) := fun cs => by
      induction cs with
      | nil => exact Reps.nil
      | cons c cs ih => exact Reps.cons rS_ ih
    exact this _
  · exact Or.inl (cf_list F H ds xs P Q e hr h k)
end
theorem strsD_sgn : ∀ l : List Nat, strsD (l.map sgn1) = some (l.map sgS)
  | [] => rfl
  | c :: l => by
    rw [List.map_cons, List.map_cons]
    show (match strsD (l.map sgn1) with
      | some xs => some (sgS c :: xs)
      | none => none) = _
    rw [strsD_sgn l]
end Dl

/-! Dl: min of a list of numbers with a default. -/
namespace Dl
open PySem L2 PySem.Spec PyProof.Rows
section
variable {prog : Program} {w : World} {A : Around} {R : Result → Shared → Prop} {it : Addr} {fp wr : List Addr} {n : Nat} {P : Nat → Value → Prop} {St : Nat → Heap → Prop} {kw : List (Str × Value)}
abbrev Held (best : Addr) (vs : Array Value) (h : Heap) : Prop := ∃ c, h.get? best = some { cls := .type "list", dict := none, data := .seq vs c, slots := #[] }
theorem dmin_name : (toString "min" ++ toString ".loop" : String) = "min.loop" := by decide
/-- from one item on -/
theorem dmin_more (Wk : Walks prog w A.in1 it fp wr n P St) (bt : Nat → Nat → Bool) (cm : CmpOf prog w A.in1 .Lt P bt) (best : Addr) (off : best ∉ fp) : ∀ (k j : Nat) (t : Shared) (low : Value), n = j + 1 + k → St (j + 1) t.heap → P (argBest bt j) low → Held best #[low, low] t.heap →
    (∀ v h' tk, P (argBest bt (n - 1)) v → (∀ b o, b ∉ wr → b ≠ best → t.heap.get? b = some o → h'.get? b = some o) → R (.ok (.ret v)) { t with heap := h', toks := tk }) → codeAny (model prog w) A (.builtin "min.loop" ⟨[.ref it, .none, .ref best], kw⟩) R t := by
  have offw : best ∉ wr := fun z => off (Wk.sub _ z)
  intro k
  induction k with
  | zero =>
    rintro j t low hn hst hp ⟨c, hb⟩ fin
    apply codeAny_builtin F.entry_min_loop; rw [Around.under_plainId F.plain_min_loop]
    refine wpAny_bind (m := seqItems? (.ref best)) (wpAny_seqItems hb rfl (wpAny_bind (wpAny_tryCatch (Wk.done t _ _ (by rw [hn]; exact hst) fun h1 tk k1 => ?_))))
    have hb1 := k1 best _ offw hb
    refine wpAny_bind (m := updateSeq best fun _ => #[]) (wpAny_updateSeq hb1 rfl (wpAny_bind (wpAny_letGo (wpAny_pure ?_))))
    exact fin low _ tk (by rw [hn]; exact hp) fun b o nb1 nb2 e => (Heap.get?_update_other _ _ nb2.symm).trans (k1 b o nb1 e)
  | succ k ih =>
    rintro j t low hn hst hp ⟨c, hb⟩ fin
    apply codeAny_builtin F.entry_min_loop; rw [Around.under_plainId F.plain_min_loop]
    refine wpAny_bind (m := seqItems? (.ref best)) (wpAny_seqItems hb rfl (wpAny_bind (wpAny_tryCatch (Wk.item (j + 1) t _ _ (by omega) hst fun v h1 tk hv hst1 k1 => ?_))))
    have hb1 := k1 best _ offw hb
    have same : ∀ {h2 : Heap}, (∀ b o, b ≠ best → h1.get? b = some o → h2.get? b = some o) → ∀ b o, b ∉ wr → b ≠ best → t.heap.get? b = some o → h2.get? b = some o := fun q b o nb1 nb2 e => q b o nb2 (k1 b o nb1 e)
    refine wpAny_bind (m := tryCatch (holding [v, v] (richCompare .Lt v low >>= _)) _) (wpAny_tryCatch (wpAny_holding (wpAny_bind (cm (j + 1) (argBest bt j) v low _ _ _ hv hp (wpAny_bind (wpAny_holding (wpAny_truthy_bool (wpAny_bind (wpAny_letGo (wpAny_pure ?_))))))))))
    cases q : bt (j + 1) (argBest bt j) with
    | true =>
      rw [if_pos rfl]
      refine wpAny_bind (m := updateSeq best fun _ => #[v, v]) (wpAny_updateSeq hb1 rfl (wpAny_bind (wpAny_letGo ?_)))
      rw [dmin_name]
      have upd1 : ∀ b o, b ≠ best → h1.get? b = some o → (h1.update best (Obj.mapSeq fun _ => #[v, v])).get? b = some o := fun b o nb e => (Heap.get?_update_other _ _ nb.symm).trans e
      exact wpAny_pure ⟨plainId_quiet F.plain_min_loop _, ih (j + 1) _ v (by omega) (Wk.frame _ _ _ hst1 fun b hbf o e => upd1 b o (fun z => off (z ▸ hbf)) e) (by rw [show argBest bt (j + 1) = j + 1 by simp only [argBest, q, if_true]]; exact hv) ⟨_, Heap.get?_update_self _ hb1 rfl⟩
        fun v2 h2 tk2 g1 g2 => fin v2 h2 tk2 g1 fun b o nb1 nb2 e => g2 b o nb1 nb2 (upd1 b o nb2 (k1 b o nb1 e))⟩
    | false =>
      rw [if_neg Bool.false_ne_true]
      refine wpAny_bind (wpAny_letGo ?_)
      rw [dmin_name]
      exact wpAny_pure ⟨plainId_quiet F.plain_min_loop _, ih (j + 1) _ low (by omega) hst1 (by rw [show argBest bt (j + 1) = argBest bt j by simp only [argBest, q, Bool.false_eq_true, if_false]]; exact hp) ⟨c, hb1⟩
        fun v2 h2 tk2 g1 g2 => fin v2 h2 tk2 g1 fun b o nb1 nb2 e => g2 b o nb1 nb2 (k1 b o nb1 e)⟩
/-- from nothing on, with what is told of nothing -/
theorem dmin_first (Wk : Walks prog w A.in1 it fp wr n P St) (bt : Nat → Nat → Bool) (cm : CmpOf prog w A.in1 .Lt P bt) (best : Addr) (off : best ∉ fp) (t : Shared) (dflt : Value) (x : Str) (hst : St 0 t.heap) (hb : Held best #[] t.heap)
    (fin : 0 < n → ∀ v h' tk, P (argBest bt (n - 1)) v → (∀ b o, b ∉ wr → b ≠ best → t.heap.get? b = some o → h'.get? b = some o) → R (.ok (.ret v)) { t with heap := h', toks := tk })
    (emp : n = 0 → ∀ h' tk, (∀ b o, b ∉ wr → t.heap.get? b = some o → h'.get? b = some o) → R (.ok (.ret dflt)) { t with heap := h', toks := tk }) : codeAny (model prog w) A (.builtin "min.loop" ⟨[.ref it, .none, .ref best], [(x, dflt)]⟩) R t := by
  have offw : best ∉ wr := fun z => off (Wk.sub _ z)
  obtain ⟨c, hb⟩ := hb
  apply codeAny_builtin F.entry_min_loop; rw [Around.under_plainId F.plain_min_loop]
  refine wpAny_bind (m := seqItems? (.ref best)) (wpAny_seqItems hb rfl (wpAny_bind (wpAny_tryCatch ?_)))
  rcases Nat.eq_zero_or_pos n with h0 | h0
  · refine Wk.done t _ _ (by rw [h0]; exact hst) fun h1 tk k1 => ?_
    exact wpAny_bind (m := rule _) (wpAny_rule (wpAny_pure (emp h0 h1 tk k1)))
  · refine Wk.item 0 t _ _ h0 hst fun v h1 tk hv hst1 k1 => ?_
    have hb1 := k1 best _ offw hb
    refine wpAny_bind (m := pure v) (wpAny_pure (wpAny_bind (m := updateSeq best fun _ => #[v, v]) (wpAny_updateSeq hb1 rfl ?_)))
    rw [dmin_name]
    have upd1 : ∀ b o, b ≠ best → h1.get? b = some o → (h1.update best (Obj.mapSeq fun _ => #[v, v])).get? b = some o := fun b o nb e => (Heap.get?_update_other _ _ nb.symm).trans e
    exact wpAny_pure ⟨plainId_quiet F.plain_min_loop _, dmin_more Wk bt cm best off (n - 1) 0 _ v (by omega) (Wk.frame _ _ _ hst1 fun b hbf o e => upd1 b o (fun z => off (z ▸ hbf)) e) hv ⟨_, Heap.get?_update_self _ hb1 rfl⟩
      fun v2 h2 tk2 g1 g2 => fin h0 v2 h2 tk2 g1 fun b o nb1 nb2 e => g2 b o nb1 nb2 (upd1 b o nb2 (k1 b o nb1 e))⟩
end
section
variable {prog : Program} {w : World} {A : Around} {E : Value → Shared → Prop} {t : Shared}
/-- min(x, default=d) -/
theorem dmin_call {x dflt : Value} {Q : Value → Shared → Prop}
    (h : wpAny (model prog w) A.in1 (pyIter x) (fun i t2 => ∃ it fp wr n P St bt, i = .ref it ∧ Walks prog w A.in1 it fp wr n P St ∧ St 0 t2.heap ∧ (∀ b ∈ fp, b < t2.heap.objs.size) ∧ CmpOf prog w A.in1 .Lt P bt ∧
      (0 < n → ∀ v h' tk, P (argBest bt (n - 1)) v → (∀ b o, b ∉ wr → t2.heap.get? b = some o → h'.get? b = some o) → Q v { t2 with heap := h', toks := tk }) ∧
      (n = 0 → ∀ h' tk, (∀ b o, b ∉ wr → t2.heap.get? b = some o → h'.get? b = some o) → Q dflt { t2 with heap := h', toks := tk })) E t) :
    wpAny (model prog w) A (call (.builtin "min") [x] [(Str.ofString "default", dflt)]) Q E t := by
  refine wpAny_call (codeAny_call_builtin F.plain_min F.entry_min ?_)
  have body : wpAny (model prog w) A.in1 (Builtin.«min» ⟨[x], [(Str.ofString "default", dflt)]⟩) (fun fin s' => match fin with
      | .done f => (match (Except.ok f : Result) with
        | .ok (.ret v) => Q v s'
        | .ok _ => False
        | .error e => E e s')
      | .again c' => c'.quiet = true ∧ codeAny (model prog w) A c' (fun r s' => match r with
        | .ok (.ret v) => Q v s'
        | .ok _ => False
        | .error e => E e s') s') E t := by
    refine wpAny_bind (m := Builtin.Builtins.bindParams "min" ["key", "default"] 0 ⟨[], [(Str.ofString "default", dflt)]⟩) (wpAny_of_eq (show _ = pure [none, some dflt] from by first | rfl | kernel_rfl) ?_)
    refine wpAny_bind (m := pure x) (wpAny_pure (wpAny_bind (wpAny_mono h (fun i t2 h2 => ?_) fun _ _ e => e)))
    obtain ⟨it, fp, wr, n, P, St, bt, rfl, Wk, hst, hfp, cm, f1, f2⟩ := h2
    have off : t2.heap.objs.size ∉ fp := fun z => Nat.lt_irrefl _ (hfp _ z)
    refine wpAny_bind (m := newList []) (wpAny_newObj_type ?_)
    rw [dmin_name]
    refine wpAny_pure ⟨plainId_quiet F.plain_min_loop _, dmin_first Wk bt cm t2.heap.objs.size off _ dflt _ (Wk.frame _ _ _ hst fun b _ o e => Heap.get?_push_of_some _ e) ⟨_, Heap.get?_push_size _ rfl⟩ (fun h0 v h1 tk g1 g2 => ?_) fun h0 h1 tk g2 => ?_⟩
    · exact f1 h0 v h1 tk g1 fun b o nb e => g2 b o nb (Nat.ne_of_lt (Heap.lt_size e)) (Heap.get?_push_of_some _ e)
    · exact f2 h0 h1 tk fun b o nb e => g2 b o nb (Heap.get?_push_of_some _ e)
  simp only [checkBuiltinCall, F.kind_min]
  cases q : Manifest.signature? "min" with
  | none => exact wpAny_pure body
  | some sig =>
    have ok : argsOk "min" ⟨[x], [(Str.ofString "default", dflt)]⟩ := by unfold argsOk; kernel_rfl
    have ok2 : Bind.checkArgs "min" sig ⟨[x], [(Str.ofString "default", dflt)]⟩ = pure () := by simpa only [argsOk, q] using ok
    simp only [ok2]
    exact wpAny_pure body
end
section
variable {X : Cx}
def rMinDf (K : PySem.W.Frag) : List V → List V → Hp → VK → Prop := fun xs zs H Q => ∃ (a : Addr) (ns : List Int) (z : V), xs = [.ref a] ∧ zs = [z] ∧ SqL K H a (ns.map V.int) ∧ (ns = [] → Q z H) ∧ ∀ m, m ∈ ns → (∀ y ∈ ns, m ≤ y) → Q (.int m) H
theorem cr_minDf (calm : X.calm = true) : CallRK X (.builtin "min") [Str.ofString "default"] (rMinDf X.K) := by
  intro pins st σ H xs zs us ws Q I r1 r2 hh
  obtain ⟨a, ns, z, rfl, rfl, hs, f1, f2⟩ := hh
  obtain ⟨dv, rfl, rz⟩ := vals1 r2
  obtain ⟨its, rv, hl, _⟩ := I.list hs
  have hl := hl.isList
  rw [Vals.ref1 r1]
  have hi := rv.ints
  obtain ⟨ys, ey⟩ := hi.allInts.items
  have hn : numsOf (intItems ys).toList = ns := by rw [← ey]; exact hi.numsOf
  rw [nums_intItems] at hn
  subst hn
  rw [ey] at hl
  refine dmin_call (iter_intList hl fun t2 e st2 hfp hlI => ?_)
  subst e
  refine ⟨_, _, _, _, _, _, _, rfl, Walks.list (A := X.A.in1) (I.ok.hd calm) _ a hlI (intItems ys), st2, hfp, CmpOf.ints_lt (numAt ys) (fun _ _ => intItems_at), fun h0 v h1 tk hv hk => ?_, fun h0 h1 tk hk => ?_⟩
  · have hsz : (intItems ys).size = ys.size := by simp [intItems]
    rw [hsz] at h0 hv
    obtain ⟨tt, rfl⟩ := intItems_at hv
    obtain ⟨g1, g2⟩ := argBest_lt (numAt ys) (ys.size - 1)
    refine ⟨.int _, H, I.kept (old_kept hk), ⟨_, rfl⟩, f2 _ ?_ fun y hy => ?_⟩
    · rw [numAt_eq]
      exact PySem.getD_mem (by rw [List.length_map, Array.length_toList]; omega)
    · obtain ⟨j, hj, rfl⟩ := mem_getD hy
      rw [List.length_map, Array.length_toList] at hj
      rw [← numAt_eq]
      exact g2 j (by omega)
  · have hsz : ys.size = 0 := by simpa [intItems] using h0
    refine ⟨z, H, I.kept (old_kept hk), rz, f1 ?_⟩
    have : ys.toList = [] := List.length_eq_zero_iff.mp (by simpa using hsz)
    rw [this]
    rfl
end
/-- at the level of data -/
def elimMnD (o : Option (List Int)) {P : D → Prop} (_ : BoxP P) : Prop := match o with
  | some ns => (ns = [] → P .non) ∧ ∀ m, m ∈ ns → (∀ y ∈ ns, m ≤ y) → P (.int m)
  | none => False
def minDR : R2D
  | .lst ds, .non, P => elimMnD (intsD ds) (BoxP.mk : BoxP P)
  | _, _, _ => False
section
variable {K : PySem.W.Frag} {P : D → Prop} {ds : List D} {ns : List Int} {x : D}
theorem ev_minD : minDR (.lst ds) .non P = elimMnD (intsD ds) (BoxP.mk : BoxP P) := rfl
theorem ev_elimMnD {z : BoxP P} : elimMnD (some ns) z = ((ns = [] → P .non) ∧ ∀ m, m ∈ ns → (∀ y ∈ ns, m ≤ y) → P (.int m)) := rfl
/-- a built-in with one argument and one keyword -/
def KwS (K : PySem.W.Frag) (r : List V → List V → Hp → VK → Prop) (R : R2D) : Prop := ∀ (F H : Hp) (a b : D) (x y : V) (P : D → Prop) (Q : VK), Same F H → RepV K F H a x → RepV K F H b y → R a b P → (∀ d v F' H', P d → Grow F H F' H' → Rep K F' d v → Q v H') → r [x] [y] H Q
theorem kw_minD : KwS K (rMinDf K) minDR := fun F H a b x y P Q e ra rb h k => by
  cases a with
  | lst ds =>
    cases b with
    | non =>
      replace h : elimMnD (intsD ds) (BoxP.mk : BoxP P) := h
      cases q : intsD ds with
      | none => rw [q] at h; exact h.elim
      | some ns =>
        rw [q] at h
        obtain ⟨p, vs, rfl, g1, g2⟩ := lst_v ra
        rw [intsD_eq q] at g2
        rw [g2.ints] at g1
        rw [non_v rb]
        exact ⟨p, ns, .non, rfl, rfl, SqL.of g1, fun z => k _ _ F H (h.1 z) (stay (P := True)) rN_, fun m m1 m2 => k _ _ F H (h.2 m m1 m2) (stay (P := True)) rI_⟩
    | _ => exact h.elim
  | _ => exact h.elim
theorem kw_sound {X : Cx} {ra rb : DV} {r : List V → List V → Hp → VK → Prop} {R : R2D} (hs : KwS X.K r R) : ∀ σ H Q, liftV X.K (rOp R ra rb) σ H Q → tCKw r (tCons (liftV X.K ra) tNil) (tCons (liftV X.K rb) tNil) σ H Q := fun σ H Q ⟨c, F, δ, P, S, h, k⟩ =>
  ⟨c, F, δ, _, S, h, fun w1 δ1 h1 x F1 H1 e1 S1 r1 => ⟨c, F1, δ1, _, S1, h1, fun w2 δ2 h2 y F2 H2 e2 S2 r2 => by
    cases q1 : vget δ2 w1 with
    | none => simp only [q1] at h2
    | some d1 =>
      cases q2 : vget δ2 w2 with
      | none => simp only [q1, q2] at h2
      | some d2 =>
        simp only [q1, q2] at h2
        refine hs F2 H2 d1 d2 x y _ _ S2.sub (S2.view (r1.mono e2) q1) (S2.view r2 q2) h2 fun d v F3 H3 hd g rv => ?_
        obtain ⟨e3, S3⟩ := S2.grow g
        exact k _ _ hd v F3 H3 ((e1.trans e2).trans e3) S3 rv⟩⟩
end
/-! list.count of flat data -/
section
variable {X : Cx}
def rCntF (K : PySem.W.Frag) : V → List V → Hp → VK → Prop := fun x xs H Q => ∃ (a : Addr) (ys : List V) (y : V), x = V.ref a ∧ xs = [y] ∧ SqL K H a ys ∧ flatV y = true ∧ ys.all flatV = true ∧ Q (.int (ys.countP fun z => eqV z y : Nat)) H
theorem mt_lcountF : MtR X "list.count" (rCntF X.K) := by
  intro pins st σ H x xs v us Q I rx rxs hh
  obtain ⟨a, ys, y, rfl, rfl, hs, fy, fys, q⟩ := hh
  cases rx
  obtain ⟨uy, rfl, ry⟩ := rxs.one
  obtain ⟨its, rv, ⟨⟨cls, dd, data, sl⟩, n, ho, hc, hdn, hd⟩, hlen⟩ := I.list hs
  simp only at hc hd
  subst hc hd
  refine call_meets PySem.F.slot_list_count ⟨_, ho, rfl⟩ PySem.F.entry_list_count (PySem.F.args_list_count_2 _ _) (SeqAt.list_countAt a its.toArray n dd sl uy (eqU y)) ⟨ho, fun u' hu' => mem_eqAt ry fy rv fys u' (by simpa using hu'), ?_⟩
  have ec : ∀ {ys : List V} {its : List Value}, Vals ys its → ys.all flatV = true → its.countP (eqU y) = ys.countP fun z => eqV z y := fun {ys its} rv => by
    induction rv with
    | nil => intro _; rfl
    | cons r _ ih =>
      intro f
      rw [List.all_cons, Bool.and_eq_true] at f
      rw [List.countP_cons, List.countP_cons, ih f.2, eqU_of r f.1]
  refine ⟨.int (ys.countP fun z => eqV z y : Nat), H, I.tok _, ⟨st.toks, ?_⟩, q⟩
  rw [← ec rv fys]
end
def lcountFR : R2D
  | .lst ds, x, P => (flatD x = true ∧ ds.all flatD = true) ∧ P (.int (ds.countP fun y => eqF y x : Nat))
  | _, _, _ => False
section
variable {K : PySem.W.Frag} {P : D → Prop} {ds : List D} {x : D}
theorem ev_lcountF : lcountFR (.lst ds) x P = ((flatD x = true ∧ ds.all flatD = true) ∧ P (.int (ds.countP fun y => eqF y x : Nat))) := rfl
theorem mb_lcountF : MB K (rCntF K) lcountFR := fun F H a b x y P Q e ra rb h k => by
  cases a with
  | lst ds =>
    replace h : (flatD b = true ∧ ds.all flatD = true) ∧ P (.int (ds.countP fun y => eqF y b : Nat)) := h
    obtain ⟨⟨f1, f2⟩, h⟩ := h
    obtain ⟨p, vs, rfl, g1, g2⟩ := lst_v ra
    obtain ⟨fy, hy⟩ := flat_v f1 rb
    have fl := flats_v e f1 rb g2 f2
    have ec : ∀ {ds : List D} {vs : List V}, Reps K F ds vs → ds.all flatD = true → (vs.countP fun z => eqV z y) = ds.countP fun z => eqF z b := fun {ds} => by
      induction ds with
      | nil =>
        intro vs r _
        rw [r.unnil]
        rfl
      | cons d ds ih =>
        intro vs r f
        obtain ⟨v, ws, rfl, h2, h3⟩ := r.uncons
        rw [List.all_cons, Bool.and_eq_true] at f
        rw [List.countP_cons, List.countP_cons, ih h3 f.2, (flat_v f.1 (Rep.view e h2)).2 b y f1 rb]
    refine ⟨p, vs, y, rfl, rfl, SqL.of g1, fy, fl.1, ?_⟩
    rw [ec g2 f2]
    exact k _ _ F H h (stay (P := True)) rI_
  | _ => exact h.elim
end
end Dl

/-! Dl: calendars, at the level of data: the law's own words about business days. -/
namespace Dl
open PySem L2
/-- a calendar: the seven signs of the week, the closed days -/
structure Kal where
  w : List Nat
  cl : List Int
def Kal.d (k : Kal) : D := .tup [.str (ofL k.w), .tup (k.cl.map D.int)]
def Kal.works (k : Kal) (day : Int) : Bool := decide (k.w.getD (day % 7).toNat 0 = 49) && !decide (day ∈ k.cl)
structure Kal.ok (k : Kal) : Prop where
  len : k.w.length = 7
  one : 49 ∈ k.w
  few : k.cl.length ≤ 10
theorem one_eq : Str.ofString "1" = sgS 49 := rfl
theorem sg_one (c : Nat) : (sgS c = Str.ofString "1") = (c = 49) := propext (by rw [one_eq]; exact sgS_inj)
theorem week_at {k : Kal} (h : k.w.length = 7) (day : Int) : atI (ofL k.w).cps.toList (day % 7) = some (k.w.getD (day % 7).toNat 0) := by
  obtain ⟨j, hj⟩ := Int.eq_ofNat_of_zero_le (Int.emod_nonneg day (by decide : (7 : Int) ≠ 0))
  have h7 : day % 7 < 7 := Int.emod_lt_of_pos day (by decide)
  have hl : j < k.w.length := by omega
  rw [hj, tl_ofL, atI_at hl, Int.toNat_natCast, List.getD_eq_getElem?_getD, List.getElem?_eq_getElem hl]
  rfl
/-- of more places than few one is not among them -/
theorem pigeon : ∀ (n : Nat) (cl : List Int) (f : Nat → Int), (∀ i j, f i = f j → i = j) → cl.length ≤ n → ∃ j, j ≤ n ∧ f j ∉ cl := by
  intro n
  induction n with
  | zero =>
    intro cl f _ h
    have e : cl = [] := List.length_eq_zero_iff.mp (by omega)
    exact ⟨0, Nat.le_refl _, by rw [e]; exact List.not_mem_nil⟩
  | succ n ih =>
    intro cl f inj h
    by_cases hm : f (n + 1) ∈ cl
    · obtain ⟨j, hj, hn⟩ := ih (cl.erase (f (n + 1))) f inj (by rw [List.length_erase_of_mem hm]; omega)
      refine ⟨j, by omega, fun hc => hn ?_⟩
      refine (List.mem_erase_of_ne fun e => ?_).mpr hc
      have := inj _ _ e
      omega
    · exact ⟨n + 1, Nat.le_refl _, hm⟩
theorem Kal.hit {k : Kal} (h : k.ok) (day : Int) : ∃ n, day ≤ n ∧ n < day + 77 ∧ k.works n = true := by
  obtain ⟨i, hi, e⟩ := List.getElem_of_mem h.one
  have hl := h.len
  have hf := h.few
  let s : Int := day + ((i : Int) - day) % 7
  have s1 : 0 ≤ ((i : Int) - day) % 7 := Int.emod_nonneg _ (by decide)
  have s2 : ((i : Int) - day) % 7 < 7 := Int.emod_lt_of_pos _ (by decide)
  obtain ⟨j, hj, hn⟩ := pigeon 10 k.cl (fun j => s + 7 * (j : Int)) (fun a b e => by have e' : s + 7 * (a : Int) = s + 7 * (b : Int) := e; omega) hf
  refine ⟨s + 7 * (j : Int), by show day ≤ day + ((i : Int) - day) % 7 + _; omega, by show day + ((i : Int) - day) % 7 + _ < _; omega, ?_⟩
  have hm : (s + 7 * (j : Int)) % 7 = (i : Int) := by
    show (day + ((i : Int) - day) % 7 + 7 * (j : Int)) % 7 = _
    omega
  unfold Kal.works
  rw [hm, Int.toNat_natCast, List.getD_eq_getElem?_getD, List.getElem?_eq_getElem hi, Option.getD_some, e]
  simp [hn]
/-- a search upwards -/
def upB (p : Int → Bool) : Nat → Int → Int
  | 0, d => d
  | n + 1, d => if p d then d else upB p n (d + 1)
theorem upB_ge (p : Int → Bool) : ∀ (n : Nat) (d : Int), d ≤ upB p n d
  | 0, d => Int.le_refl _
  | n + 1, d => by
    unfold upB
    split
    · exact Int.le_refl _
    · have := upB_ge p n (d + 1)
      omega
theorem upB_no (p : Int → Bool) : ∀ (n : Nat) (d m : Int), d ≤ m → m < upB p n d → p m = false
  | 0, d, m, h1, h2 => by
    unfold upB at h2
    omega
  | n + 1, d, m, h1, h2 => by
    unfold upB at h2
    split at h2
    · omega
    · next q =>
      by_cases e : m = d
      · rw [e]
        simpa using q
      · exact upB_no p n (d + 1) m (by omega) h2
theorem upB_yes (p : Int → Bool) : ∀ (n : Nat) (d m : Int), d ≤ m → m < d + n → p m = true → p (upB p n d) = true
  | 0, d, m, h1, h2, _ => by omega
  | n + 1, d, m, h1, h2, hm => by
    unfold upB
    split
    · assumption
    · next q =>
      refine upB_yes p n (d + 1) m ?_ (by omega) hm
      rcases Int.lt_or_lt_of_ne (show m ≠ d from fun e => q (e ▸ hm)) with h | h <;> omega
def Kal.next (k : Kal) (d : Int) : Int := upB k.works 77 d
theorem Kal.next_ge (k : Kal) (d : Int) : d ≤ k.next d := upB_ge _ _ _
theorem Kal.next_no {k : Kal} {d m : Int} (h1 : d ≤ m) (h2 : m < k.next d) : k.works m = false := upB_no _ _ _ _ h1 h2
theorem Kal.next_works {k : Kal} (h : k.ok) (d : Int) : k.works (k.next d) = true := by
  obtain ⟨n, h1, h2, h3⟩ := Kal.hit h d
  exact upB_yes _ _ _ n h1 h2 h3
theorem Kal.next_lt {k : Kal} (h : k.ok) (d : Int) : k.next d < d + 77 := by
  obtain ⟨n, h1, h2, h3⟩ := Kal.hit h d
  by_cases q : n < k.next d
  · have := Kal.next_no h1 q
    rw [h3] at this
    cases this
  · omega
/-- it is this one -/
theorem Kal.next_eq {k : Kal} (h : k.ok) {d n : Int} (h1 : d ≤ n) (h2 : k.works n = true) (h3 : ∀ m, d ≤ m → m < n → k.works m = false) : k.next d = n := by
  rcases Int.lt_trichotomy (k.next d) n with q | q | q
  · have := h3 _ (k.next_ge d) q
    rw [k.next_works h] at this
    cases this
  · exact q
  · have := Kal.next_no h1 q
    rw [h2] at this
    cases this
theorem Kal.next_self {k : Kal} (h : k.ok) {d : Int} (hd : k.works d = true) : k.next d = d := k.next_eq h (Int.le_refl _) hd fun m h1 h2 => by omega
/-- a search downwards, from 0 on -/
def dnB (p : Int → Bool) : Nat → Option Int
  | 0 => if p 0 then some 0 else none
  | n + 1 => if p ((n + 1 : Nat) : Int) then some ((n + 1 : Nat) : Int) else dnB p n
def Kal.prev (k : Kal) (d : Int) : Option Int := if d < 0 then none else dnB k.works d.toNat
theorem Kal.prev_neg {k : Kal} {d : Int} (h : d < 0) : k.prev d = none := if_pos h
theorem Kal.prev_hit {k : Kal} {d : Int} (h : 0 ≤ d) (hd : k.works d = true) : k.prev d = some d := by
  obtain ⟨n, rfl⟩ := Int.eq_ofNat_of_zero_le h
  unfold Kal.prev
  rw [if_neg (by omega), Int.toNat_natCast]
  cases n with
  | zero =>
    unfold dnB
    have hd' : k.works 0 = true := hd
    rw [if_pos hd']
    rfl
  | succ n =>
    unfold dnB
    rw [if_pos hd]
theorem Kal.prev_miss {k : Kal} {d : Int} (h : 0 ≤ d) (hd : k.works d = false) : k.prev d = k.prev (d - 1) := by
  obtain ⟨n, rfl⟩ := Int.eq_ofNat_of_zero_le h
  unfold Kal.prev
  rw [if_neg (by omega), Int.toNat_natCast]
  cases n with
  | zero =>
    rw [if_pos (by omega)]
    unfold dnB
    have hd' : k.works 0 = false := hd
    rw [hd']
    rfl
  | succ n =>
    rw [if_neg (by omega), show (((n + 1 : Nat) : Int) - 1).toNat = n by omega]
    show (if k.works ((n + 1 : Nat) : Int) then some ((n + 1 : Nat) : Int) else dnB k.works n) = _
    rw [hd]
    rfl
/-- down to an earlier day nothing -/
theorem Kal.prev_down {k : Kal} {d : Int} (n : Nat) (h : (n : Int) ≤ d + 1) (hn : ∀ m, d - n < m → m ≤ d → k.works m = false) : k.prev d = k.prev (d - n) := by
  induction n with
  | zero => rw [show d - ((0 : Nat) : Int) = d by omega]
  | succ n ih =>
    rw [ih (by omega) fun m h1 h2 => hn m (by omega) h2, Kal.prev_miss (by omega) (hn _ (by omega) (by omega))]
    congr 1
    omega
/-- the days from one on -/
def ups (lo : Int) (n : Nat) : List Int := (List.range n).map fun (i : Nat) => lo + (i : Int)
theorem ups_succ (lo : Int) (n : Nat) : ups lo (n + 1) = ups lo n ++ [lo + (n : Int)] := by
  unfold ups
  rw [List.range_succ, List.map_append]
  rfl
theorem rngD_ups (lo hi : Int) : rngD lo hi = (ups lo (hi - lo).toNat).map D.int := rngD_map lo hi
theorem ups_none {p : Int → Bool} {lo : Int} : ∀ {n : Nat}, (ups lo n).filter p = [] → ∀ i : Nat, i < n → p (lo + i) = false
  | 0, _, i, hi => by omega
  | n + 1, h, i, hi => by
    rw [ups_succ, List.filter_append] at h
    obtain ⟨h1, h2⟩ := List.append_eq_nil_iff.mp h
    by_cases e : i = n
    · subst e
      cases q : p (lo + i) with
      | false => rfl
      | true => simp [List.filter, q] at h2
    · exact ups_none h1 i (by omega)
theorem ups_last {p : Int → Bool} {lo : Int} : ∀ {n : Nat} {l : List Int} {x : Int}, (ups lo n).filter p = l ++ [x] → ∃ j : Nat, j < n ∧ x = lo + j ∧ p x = true ∧ ∀ i : Nat, j < i → i < n → p (lo + i) = false
  | 0, l, x, h => by simp [ups] at h
  | n + 1, l, x, h => by
    rw [ups_succ, List.filter_append] at h
    cases q : p (lo + n) with
    | true =>
      simp only [List.filter, q] at h
      have := (List.append_inj' h rfl).2
      simp at this
      exact ⟨n, by omega, this.symm, by rw [← this]; exact q, fun i h1 h2 => by omega⟩
    | false =>
      simp only [List.filter, q, List.append_nil] at h
      obtain ⟨j, h1, h2, h3, h4⟩ := ups_last h
      refine ⟨j, by omega, h2, h3, fun i g1 g2 => ?_⟩
      by_cases e : i = n
      · rw [e]
        exact q
      · exact h4 i g1 (by omega)
theorem Kal.prev_none {k : Kal} (h : k.ok) {lo day : Int} (h0 : 0 ≤ lo) (h1 : lo ≤ day + 1) (h2 : lo = 0 ∨ lo ≤ day - 80) (hf : (ups lo (day + 1 - lo).toNat).filter k.works = []) : k.prev day = none := by
  have hn := ups_none hf
  rcases h2 with rfl | h2
  · rw [Kal.prev_down (day + 1).toNat (by omega) fun m m1 m2 => ?_]
    · exact Kal.prev_neg (by omega)
    · have := hn m.toNat (by omega)
      rw [show (0 : Int) + (m.toNat : Int) = m by omega] at this
      exact this
  · obtain ⟨n, g1, g2, g3⟩ := Kal.hit h lo
    have := hn (n - lo).toNat (by omega)
    rw [show lo + ((n - lo).toNat : Int) = n by omega, g3] at this
    cases this
theorem Kal.prev_some {k : Kal} {lo day x : Int} {l : List Int} (h0 : 0 ≤ lo) (h1 : lo ≤ day + 1) (hf : (ups lo (day + 1 - lo).toNat).filter k.works = l ++ [x]) : k.prev day = some x := by
  obtain ⟨j, j1, rfl, j3, j4⟩ := ups_last hf
  rw [Kal.prev_down (day - (lo + j)).toNat (by omega) fun m m1 m2 => ?_]
  · rw [show day - (((day - (lo + j)).toNat : Nat) : Int) = lo + j by omega]
    exact Kal.prev_hit (by omega) j3
  · have := j4 (m - lo).toNat (by omega) (by omega)
    rw [show lo + ((m - lo).toNat : Int) = m by omega] at this
    exact this
def oD : Option Int → D
  | none => .non
  | some i => .int i
theorem kal_of {k1 k2 : Kal} (o1 : k1.ok) (o2 : k2.ok) {u v : D} (hu : u = .str (ofL k1.w) ∨ u = .str (ofL k2.w)) (hv : v = .tup (k1.cl.map D.int) ∨ v = .tup (k2.cl.map D.int)) :
    ∃ k : Kal, u = .str (ofL k.w) ∧ v = .tup (k.cl.map D.int) ∧ k.ok ∧ (k.w = k1.w ∨ k.w = k2.w) ∧ (k.cl = k1.cl ∨ k.cl = k2.cl) := by
  obtain ⟨w, rfl, ow, ew⟩ : ∃ w : List Nat, u = .str (ofL w) ∧ (w.length = 7 ∧ 49 ∈ w) ∧ (w = k1.w ∨ w = k2.w) := by
    rcases hu with rfl | rfl
    · exact ⟨_, rfl, ⟨o1.len, o1.one⟩, .inl rfl⟩
    · exact ⟨_, rfl, ⟨o2.len, o2.one⟩, .inr rfl⟩
  obtain ⟨cl, rfl, oc, ec⟩ : ∃ cl : List Int, v = .tup (cl.map D.int) ∧ cl.length ≤ 10 ∧ (cl = k1.cl ∨ cl = k2.cl) := by
    rcases hv with rfl | rfl
    · exact ⟨_, rfl, o1.few, .inl rfl⟩
    · exact ⟨_, rfl, o2.few, .inr rfl⟩
  exact ⟨⟨w, cl⟩, rfl, rfl, ⟨ow.1, ow.2, oc⟩, ew, ec⟩
theorem kal_mix {k1 k2 : Kal} (o1 : k1.ok) (o2 : k2.ok) {rs : List D} (hl : rs.length = 2) (h : ∀ i : Nat, rs[i]? = [D.str (ofL k1.w), .tup (k1.cl.map D.int)][i]? ∨ rs[i]? = [D.str (ofL k2.w), .tup (k2.cl.map D.int)][i]?) :
    ∃ k : Kal, D.tup rs = k.d ∧ k.ok ∧ (k.w = k1.w ∨ k.w = k2.w) ∧ (k.cl = k1.cl ∨ k.cl = k2.cl) := by
  obtain ⟨u, v, rfl, hu, hv⟩ := mix2 hl h
  obtain ⟨w, rfl, ow, ew⟩ : ∃ w : List Nat, u = .str (ofL w) ∧ (w.length = 7 ∧ 49 ∈ w) ∧ (w = k1.w ∨ w = k2.w) := by
    rcases hu with rfl | rfl
    · exact ⟨_, rfl, ⟨o1.len, o1.one⟩, .inl rfl⟩
    · exact ⟨_, rfl, ⟨o2.len, o2.one⟩, .inr rfl⟩
  obtain ⟨cl, rfl, oc, ec⟩ : ∃ cl : List Int, v = .tup (cl.map D.int) ∧ cl.length ≤ 10 ∧ (cl = k1.cl ∨ cl = k2.cl) := by
    rcases hv with rfl | rfl
    · exact ⟨_, rfl, o1.few, .inl rfl⟩
    · exact ⟨_, rfl, o2.few, .inr rfl⟩
  exact ⟨⟨w, cl⟩, rfl, ⟨ow.1, ow.2, oc⟩, ew, ec⟩
/-! business days counted -/
def Kal.cnt (k : Kal) (f l : Int) : Nat := ((ups (f + 1) (l - f).toNat).filter k.works).length
theorem Kal.cnt_zero {k : Kal} {f l : Int} (h : l ≤ f) : k.cnt f l = 0 := by
  unfold Kal.cnt
  rw [show (l - f).toNat = 0 by omega]
  rfl
theorem Kal.cnt_succ {k : Kal} {f l : Int} (h : f ≤ l) : k.cnt f (l + 1) = k.cnt f l + (if k.works (l + 1) = true then 1 else 0) := by
  unfold Kal.cnt
  rw [show (l + 1 - f).toNat = (l - f).toNat + 1 by omega, ups_succ, List.filter_append, List.length_append, show f + 1 + ((l - f).toNat : Int) = l + 1 by omega]
  congr 1
  cases q : k.works (l + 1) <;> simp [List.filter, q]
theorem Kal.cnt_add {k : Kal} {f b l : Int} (h1 : f ≤ b) (h2 : b ≤ l) : k.cnt f b + k.cnt b l = k.cnt f l := by
  obtain ⟨n, hn⟩ := Int.eq_ofNat_of_zero_le (show 0 ≤ l - b by omega)
  obtain rfl : l = b + n := by omega
  clear hn
  induction n with
  | zero => rw [Kal.cnt_zero (f := b) (by omega), show b + ((0 : Nat) : Int) = b by omega]; rfl
  | succ n ih =>
    rw [show b + ((n + 1 : Nat) : Int) = b + n + 1 by omega, Kal.cnt_succ (by omega), Kal.cnt_succ (by omega), ← ih (by omega)]
    omega
theorem Kal.cnt_le {k : Kal} {f b l : Int} (h1 : f ≤ b) (h2 : b ≤ l) : k.cnt f b ≤ k.cnt f l := by
  have := k.cnt_add h1 h2
  omega
theorem Kal.cnt_pos {k : Kal} {f l d : Int} (h1 : f < d) (h2 : d ≤ l) (hd : k.works d = true) : 1 ≤ k.cnt f l := by
  have e := k.cnt_succ (f := f) (l := d - 1) (by omega)
  rw [show d - 1 + 1 = d by omega, if_pos hd] at e
  have := k.cnt_le (f := f) (b := d) (l := l) (by omega) h2
  omega
theorem Kal.cnt_none {k : Kal} {f l : Int} (h : f ≤ l) (hn : ∀ m, f < m → m ≤ l → k.works m = false) : k.cnt f l = 0 := by
  obtain ⟨n, hn'⟩ := Int.eq_ofNat_of_zero_le (show 0 ≤ l - f by omega)
  obtain rfl : l = f + n := by omega
  clear hn'
  induction n with
  | zero => exact Kal.cnt_zero (by omega)
  | succ n ih =>
    rw [show f + ((n + 1 : Nat) : Int) = f + n + 1 by omega, Kal.cnt_succ (by omega), ih (by omega) fun m m1 m2 => hn m m1 (by omega), hn (f + n + 1) (by omega) (by omega)]
    rfl
theorem Kal.cnt_next {k : Kal} (h : k.ok) (d : Int) : k.cnt d (k.next (d + 1)) = 1 := by
  have g := k.next_ge (d + 1)
  have e := k.cnt_succ (f := d) (l := k.next (d + 1) - 1) (by omega)
  rw [show k.next (d + 1) - 1 + 1 = k.next (d + 1) by omega, if_pos (Kal.next_works h _)] at e
  have z := Kal.cnt_none (k := k) (f := d) (l := k.next (d + 1) - 1) (by omega) fun m m1 m2 => Kal.next_no (d := d + 1) (by omega) (by omega)
  omega
def Kal.after (k : Kal) (d : Int) : Nat → Int
  | 0 => d
  | n + 1 => k.next (k.after d n + 1)
theorem Kal.after_lt {k : Kal} {d : Int} (n : Nat) : k.after d n < k.after d (n + 1) := by
  show _ < k.next (k.after d n + 1)
  have := k.next_ge (k.after d n + 1)
  omega
theorem Kal.after_ge {k : Kal} {d : Int} : ∀ n : Nat, d + n ≤ k.after d n
  | 0 => by show d + ((0 : Nat) : Int) ≤ d; omega
  | n + 1 => by
    have := k.after_ge (d := d) n
    have := k.after_lt (d := d) n
    omega
theorem Kal.after_cnt {k : Kal} (h : k.ok) (d : Int) : ∀ n : Nat, k.cnt d (k.after d n) = n
  | 0 => Kal.cnt_zero (Int.le_refl _)
  | n + 1 => by
    have g := k.after_ge (d := d) n
    have g2 := k.after_lt (d := d) n
    have e := k.cnt_add (f := d) (b := k.after d n) (l := k.after d (n + 1)) (by omega) (by omega)
    rw [k.after_cnt h d n] at e
    have e2 : k.cnt (k.after d n) (k.after d (n + 1)) = 1 := Kal.cnt_next h _
    omega
theorem Kal.after_add {k : Kal} (d : Int) (s : Nat) : ∀ t : Nat, k.after (k.after d s) t = k.after d (s + t)
  | 0 => rfl
  | t + 1 => by
    show k.next (k.after (k.after d s) t + 1) = k.next (k.after d (s + t) + 1)
    rw [k.after_add d s t]
theorem many_out : ∀ (m : Nat) (cl : List Int) (f : Nat → Int), (∀ i j, f i = f j → i = j) → m ≤ ((List.range m).filter fun j => !decide (f j ∈ cl)).length + cl.length := by
  intro m
  induction m with
  | zero => intros; omega
  | succ m ih =>
    intro cl f inj
    rw [List.range_succ, List.filter_append, List.length_append]
    by_cases hm : f m ∈ cl
    · have := ih (cl.erase (f m)) f inj
      have e : ((List.range m).filter fun j => !decide (f j ∈ cl.erase (f m))) = (List.range m).filter fun j => !decide (f j ∈ cl) := by
        refine List.filter_congr fun j hj => ?_
        have hj := List.mem_range.mp hj
        have ne : f j ≠ f m := fun e => by have := inj _ _ e; omega
        simp only [List.mem_erase_of_ne ne]
      rw [e, List.length_erase_of_mem hm] at this
      have := List.length_pos_of_mem hm
      omega
    · have := ih cl f inj
      simp only [List.filter, hm, decide_false, Bool.not_false, List.length_singleton]
      omega
theorem Kal.cnt_many {k : Kal} (h : k.ok) (d : Int) (m : Nat) : m ≤ k.cnt d (d + 7 * m) + 10 := by
  obtain ⟨i, hi, e⟩ := List.getElem_of_mem h.one
  have hl := h.len
  have hf := h.few
  let s : Int := d + 1 + ((i : Int) - (d + 1)) % 7
  have s1 : 0 ≤ ((i : Int) - (d + 1)) % 7 := Int.emod_nonneg _ (by decide)
  have s2 : ((i : Int) - (d + 1)) % 7 < 7 := Int.emod_lt_of_pos _ (by decide)
  have hs : s = d + 1 + ((i : Int) - (d + 1)) % 7 := rfl
  have hw : ∀ j : Nat, s + 7 * (j : Int) ∉ k.cl → k.works (s + 7 * (j : Int)) = true := fun j hn => by
    have hm : (s + 7 * (j : Int)) % 7 = (i : Int) := by
      rw [hs]
      omega
    unfold Kal.works
    rw [hm, Int.toNat_natCast, List.getD_eq_getElem?_getD, List.getElem?_eq_getElem hi, Option.getD_some, e]
    simp [hn]
  have low : ∀ m : Nat, ((List.range m).filter fun (j : Nat) => !decide (s + 7 * (j : Int) ∈ k.cl)).length ≤ k.cnt d (d + 7 * m) := by
    intro m
    induction m with
    | zero => exact Nat.zero_le _
    | succ m ih =>
      rw [List.range_succ, List.filter_append, List.length_append]
      have a := k.cnt_add (f := d) (b := d + 7 * m) (l := d + 7 * ((m + 1 : Nat) : Int)) (by omega) (by omega)
      by_cases hm : s + 7 * (m : Int) ∈ k.cl
      · simp only [List.filter, hm, decide_true, Bool.not_true, List.length_nil]
        omega
      · have := Kal.cnt_pos (k := k) (f := d + 7 * m) (l := d + 7 * ((m + 1 : Nat) : Int)) (d := s + 7 * m) (by omega) (by omega) (hw m hm)
        simp only [List.filter, hm, decide_false, Bool.not_false, List.length_singleton]
        omega
  have b := many_out m k.cl (fun (j : Nat) => s + 7 * (j : Int)) fun a b e => by
    have e' : s + 7 * (a : Int) = s + 7 * (b : Int) := e
    omega
  have := low m
  omega
theorem Kal.after_le {k : Kal} (h : k.ok) (d : Int) (n : Nat) : k.after d n ≤ d + 7 * (n + 10) := by
  rcases Int.lt_or_le (d + 7 * ((n : Int) + 10)) (k.after d n) with q | q
  · exfalso
    have h1 := Kal.cnt_many h d (n + 10)
    have h2 := k.after_cnt h d n
    cases n with
    | zero =>
      have : k.after d 0 = d := rfl
      omega
    | succ n =>
      have e := k.cnt_succ (f := d) (l := k.after d (n + 1) - 1) (by omega)
      rw [show k.after d (n + 1) - 1 + 1 = k.after d (n + 1) by omega] at e
      have w : k.works (k.after d (n + 1)) = true := Kal.next_works h _
      rw [if_pos w, h2] at e
      have := k.cnt_le (f := d) (b := d + 7 * ((n + 1 + 10 : Nat) : Int)) (l := k.after d (n + 1) - 1) (by omega) (by omega)
      omega
  · exact q
end Dl

/-! Dl: stays, terms, at the level of data. -/
namespace Dl
open PySem L2
abbrev Sy := Int × Int
def stD (s : Sy) : D := .tup [.int s.1, .int s.2]
def styd (ss : List Sy) (d : Int) : Bool := ss.any fun s => decide (s.1 ≤ d) && decide (d ≤ s.2)
def okSy (s : Sy) : Prop := 0 ≤ s.1 ∧ s.1 ≤ 400 ∧ 0 ≤ s.2 ∧ s.2 ≤ 400
theorem styd_cons (s : Sy) (ss : List Sy) (d : Int) : styd (s :: ss) d = ((decide (s.1 ≤ d) && decide (d ≤ s.2)) || styd ss d) := rfl
theorem styd_late {ss : List Sy} (h : ∀ s ∈ ss, okSy s) {d : Int} (hd : 400 < d) : styd ss d = false := by
  unfold styd
  rw [List.any_eq_false]
  intro s hs
  have := h s hs
  unfold okSy at this
  simp
  omega
theorem any_filter {α : Type} (p : α → Bool) (l : List α) : decide (0 < (l.filter p).length) = l.any p := by
  induction l with
  | nil => rfl
  | cons x l ih =>
    rw [List.filter_cons, List.any_cons]
    cases q : p x with
    | true => simp
    | false => simpa using ih
/-! counting by a test -/
def cntP (p : Int → Bool) (f l : Int) : Nat := ((ups (f + 1) (l - f).toNat).filter p).length
section
variable {p q : Int → Bool}
theorem cntP_zero {f l : Int} (h : l ≤ f) : cntP p f l = 0 := by
  unfold cntP
  rw [show (l - f).toNat = 0 by omega]
  rfl
theorem cntP_succ {f l : Int} (h : f ≤ l) : cntP p f (l + 1) = cntP p f l + (if p (l + 1) = true then 1 else 0) := by
  unfold cntP
  rw [show (l + 1 - f).toNat = (l - f).toNat + 1 by omega, ups_succ, List.filter_append, List.length_append, show f + 1 + ((l - f).toNat : Int) = l + 1 by omega]
  congr 1
  cases z : p (l + 1) <;> simp [List.filter, z]
theorem cntP_add {f b l : Int} (h1 : f ≤ b) (h2 : b ≤ l) : cntP p f b + cntP p b l = cntP p f l := by
  obtain ⟨n, hn⟩ := Int.eq_ofNat_of_zero_le (show 0 ≤ l - b by omega)
  obtain rfl : l = b + n := by omega
  clear hn
  induction n with
  | zero => rw [cntP_zero (f := b) (by omega), show b + ((0 : Nat) : Int) = b by omega]; rfl
  | succ n ih =>
    rw [show b + ((n + 1 : Nat) : Int) = b + n + 1 by omega, cntP_succ (by omega), cntP_succ (by omega), ← ih (by omega)]
    omega
theorem cntP_le {f b l : Int} (h1 : f ≤ b) (h2 : b ≤ l) : cntP p f b ≤ cntP p f l := by
  have := cntP_add (p := p) h1 h2
  omega
theorem cntP_sub {f b l : Int} (h1 : f ≤ b) (h2 : b ≤ l) : cntP p b l ≤ cntP p f l := by
  have := cntP_add (p := p) h1 h2
  omega
theorem cntP_max (f l : Int) : cntP p f l ≤ (l - f).toNat := by
  unfold cntP
  refine Nat.le_trans (List.length_filter_le _ _) ?_
  unfold ups
  rw [List.length_map, List.length_range]
  exact Nat.le_refl _
theorem cntP_mono {f l : Int} (h : ∀ m, f < m → m ≤ l → p m = true → q m = true) : cntP p f l ≤ cntP q f l := by
  rcases Int.lt_or_le l f with z | z
  · rw [cntP_zero (by omega)]
    exact Nat.zero_le _
  obtain ⟨n, hn⟩ := Int.eq_ofNat_of_zero_le (show 0 ≤ l - f by omega)
  obtain rfl : l = f + n := by omega
  clear hn z
  induction n with
  | zero => rw [cntP_zero (by omega)]; exact Nat.zero_le _
  | succ n ih =>
    rw [show f + ((n + 1 : Nat) : Int) = f + n + 1 by omega, cntP_succ (by omega), cntP_succ (by omega)]
    have := ih fun m m1 m2 => h m m1 (by omega)
    have := h (f + n + 1) (by omega) (by omega)
    cases a : p (f + n + 1) with
    | false =>
      rw [if_neg Bool.false_ne_true]
      omega
    | true =>
      rw [if_pos rfl, if_pos (this a)]
      omega
theorem cntP_congr {f l : Int} (h : ∀ m, f < m → m ≤ l → p m = q m) : cntP p f l = cntP q f l :=
  Nat.le_antisymm (cntP_mono fun m m1 m2 hm => by rw [← h m m1 m2]; exact hm) (cntP_mono fun m m1 m2 hm => by rw [h m m1 m2]; exact hm)
theorem cntP_all {f l : Int} (h : f ≤ l) (hp : ∀ m, f < m → m ≤ l → p m = true) : cntP p f l = (l - f).toNat := by
  obtain ⟨n, hn⟩ := Int.eq_ofNat_of_zero_le (show 0 ≤ l - f by omega)
  obtain rfl : l = f + n := by omega
  clear hn
  induction n with
  | zero => rw [cntP_zero (by omega)]; omega
  | succ n ih =>
    rw [show f + ((n + 1 : Nat) : Int) = f + n + 1 by omega, cntP_succ (by omega), ih (by omega) fun m m1 m2 => hp m m1 (by omega), if_pos (hp (f + n + 1) (by omega) (by omega))]
    omega
end
theorem Kal.cnt_eq (k : Kal) (f l : Int) : k.cnt f l = cntP k.works f l := rfl
/-! terms -/
def kindS : Bool → Str
  | true => "calendar"
  | false => "business"
theorem kindS_cal {b : Bool} : (kindS b = Str.ofString "calendar") = (b = true) := propext (by
  cases b
  · exact ⟨fun h => absurd h (by decide), fun h => by cases h⟩
  · exact ⟨fun _ => rfl, fun _ => rfl⟩)
theorem kindS_bus {b : Bool} : (kindS b = Str.ofString "business") = (b = false) := propext (by
  cases b
  · exact ⟨fun _ => rfl, fun _ => rfl⟩
  · exact ⟨fun h => absurd h (by decide), fun h => by cases h⟩)
def Kal.counts (k : Kal) (ss : List Sy) (b : Bool) (d : Int) : Bool := !styd ss d && (b || k.works d)
def Kal.mayEnd (k : Kal) (ss : List Sy) (d : Int) : Bool := k.works d && !styd ss d
def Kal.term (k : Kal) (ss : List Sy) (b : Bool) (d : Int) (n : Nat) : Int := upB (fun e => decide (n ≤ cntP (k.counts ss b) d e) && k.mayEnd ss e) 900 d
section
variable {k : Kal} {ss : List Sy} {b : Bool} {d : Int} {n : Nat}
theorem term_hit (h : k.ok) (hs : ∀ s ∈ ss, okSy s) (hd : 0 ≤ d) (h1 : 1 ≤ n) (hn : n ≤ 60) : ∃ e, d ≤ e ∧ e < d + 900 ∧ n ≤ cntP (k.counts ss b) d e ∧ k.mayEnd ss e = true := by
  obtain ⟨m, hm⟩ : ∃ m : Int, m = if d < 400 then 400 else d := ⟨_, rfl⟩
  have m1 : d ≤ m ∧ 400 ≤ m ∧ m ≤ d + 400 := by rw [hm]; split <;> omega
  have a1 := k.after_ge (d := m) n
  have a2 := Kal.after_le h m n
  have a3 := Kal.after_cnt h m n
  refine ⟨k.after m n, by omega, by omega, ?_, ?_⟩
  · refine Nat.le_trans ?_ (cntP_sub (b := m) (by omega) (by omega))
    refine Nat.le_trans (Nat.le_of_eq a3.symm) ?_
    rw [Kal.cnt_eq]
    refine cntP_mono fun x x1 x2 hx => ?_
    unfold Kal.counts
    rw [styd_late hs (by omega), hx]
    simp
  · unfold Kal.mayEnd
    rw [styd_late hs (by omega)]
    cases n with
    | zero => omega
    | succ n =>
      have : k.works (k.after m (n + 1)) = true := Kal.next_works h _
      rw [this]
      rfl
theorem term_ge : d ≤ k.term ss b d n := upB_ge _ _ _
theorem term_no {m : Int} (h1 : d ≤ m) (h2 : m < k.term ss b d n) : (decide (n ≤ cntP (k.counts ss b) d m) && k.mayEnd ss m) = false := upB_no (fun e => decide (n ≤ cntP (k.counts ss b) d e) && k.mayEnd ss e) _ _ _ h1 h2
theorem term_yes (h : k.ok) (hs : ∀ s ∈ ss, okSy s) (hd : 0 ≤ d) (h1 : 1 ≤ n) (hn : n ≤ 60) : n ≤ cntP (k.counts ss b) d (k.term ss b d n) ∧ k.mayEnd ss (k.term ss b d n) = true := by
  obtain ⟨e, e1, e2, e3, e4⟩ := term_hit (b := b) h hs hd h1 hn
  have := upB_yes (fun e => decide (n ≤ cntP (k.counts ss b) d e) && k.mayEnd ss e) 900 d e e1 e2 (by simp [e3, e4])
  simp only [Bool.and_eq_true, decide_eq_true_eq] at this
  exact this
theorem term_lt (h : k.ok) (hs : ∀ s ∈ ss, okSy s) (hd : 0 ≤ d) (h1 : 1 ≤ n) (hn : n ≤ 60) : k.term ss b d n < d + 900 := by
  obtain ⟨e, e1, e2, e3, e4⟩ := term_hit (b := b) h hs hd h1 hn
  rcases Int.lt_or_le e (k.term ss b d n) with q | q
  · have := term_no e1 q
    simp [e3, e4] at this
  · omega
/-- it is this one -/
theorem term_eq (h : k.ok) (hs : ∀ s ∈ ss, okSy s) (hd : 0 ≤ d) (h1 : 1 ≤ n) (hn : n ≤ 60) {e : Int} (e1 : d ≤ e) (e2 : n ≤ cntP (k.counts ss b) d e) (e3 : k.mayEnd ss e = true) (e4 : ∀ m, d ≤ m → m < e → (decide (n ≤ cntP (k.counts ss b) d m) && k.mayEnd ss m) = false) : k.term ss b d n = e := by
  obtain ⟨t1, t2⟩ := term_yes (b := b) h hs hd h1 hn
  rcases Int.lt_trichotomy (k.term ss b d n) e with q | q | q
  · have := e4 _ term_ge q
    simp [t1, t2] at this
  · exact q
  · have := term_no e1 q
    simp [e2, e3] at this
/-- no term ends at once -/
theorem term_gt (h : k.ok) (hs : ∀ s ∈ ss, okSy s) (hd : 0 ≤ d) (h1 : 1 ≤ n) (hn : n ≤ 60) : d < k.term ss b d n := by
  have t := (term_yes (b := b) h hs hd h1 hn).1
  have g : d ≤ k.term ss b d n := term_ge
  rcases Int.lt_or_le d (k.term ss b d n) with q | q
  · exact q
  · rw [cntP_zero q] at t
    omega
/-- without stays -/
theorem term_cal (h : k.ok) (hd : 0 ≤ d) (h1 : 1 ≤ n) (hn : n ≤ 60) : k.term [] true d n = k.next (d + n) := by
  have g := k.next_ge (d + n)
  have hc : ∀ x, k.counts [] true x = true := fun x => rfl
  have he : ∀ e : Int, d ≤ e → cntP (k.counts [] true) d e = (e - d).toNat := fun e h => cntP_all h fun m _ _ => hc m
  refine term_eq h (fun s hs => by cases hs) hd h1 hn (by omega) ?_ ?_ fun m m1 m2 => ?_
  · rw [he _ (by omega)]
    omega
  · unfold Kal.mayEnd
    rw [Kal.next_works h]
    rfl
  · rw [he m m1]
    by_cases q : n ≤ (m - d).toNat
    · have := Kal.next_no (k := k) (d := d + n) (m := m) (by omega) m2
      unfold Kal.mayEnd
      rw [this]
      simp
    · rw [decide_eq_false q]
      rfl
theorem counts_bus (x : Int) : k.counts [] false x = k.works x := by
  show (!false && (false || k.works x)) = _
  simp
theorem term_bus (h : k.ok) (hd : 0 ≤ d) (h1 : 1 ≤ n) (hn : n ≤ 60) : k.term [] false d n = k.after d n := by
  have hc : ∀ e : Int, cntP (k.counts [] false) d e = k.cnt d e := fun e => cntP_congr fun m _ _ => counts_bus m
  have g := k.after_ge (d := d) n
  obtain ⟨n, rfl⟩ : ∃ m, n = m + 1 := ⟨n - 1, by omega⟩
  have w : k.works (k.after d (n + 1)) = true := Kal.next_works h _
  refine term_eq h (fun s hs => by cases hs) hd h1 hn (by omega) ?_ ?_ fun m m1 m2 => ?_
  · rw [hc, Kal.after_cnt h]
    exact Nat.le_refl _
  · unfold Kal.mayEnd
    rw [w]
    rfl
  · have e := k.cnt_succ (f := d) (l := k.after d (n + 1) - 1) (by omega)
    rw [show k.after d (n + 1) - 1 + 1 = k.after d (n + 1) by omega, if_pos w, Kal.after_cnt h] at e
    have := k.cnt_le (f := d) (b := m) (l := k.after d (n + 1) - 1) m1 (by omega)
    rw [hc, decide_eq_false (by omega)]
    rfl
end
section
variable {k : Kal} {ss : List Sy} {b : Bool} {n : Nat}
theorem term_le_iff (h : k.ok) (hs : ∀ s ∈ ss, okSy s) (h1 : 1 ≤ n) (hn : n ≤ 60) {d y : Int} (hd : 0 ≤ d) : k.term ss b d n ≤ y ↔ ∃ e, d ≤ e ∧ e ≤ y ∧ n ≤ cntP (k.counts ss b) d e ∧ k.mayEnd ss e = true := by
  constructor
  · intro hy
    have t := term_yes (b := b) h hs hd h1 hn
    exact ⟨_, term_ge, hy, t.1, t.2⟩
  · rintro ⟨e, e1, e2, e3, e4⟩
    rcases Int.lt_or_le e (k.term ss b d n) with q | q
    · have := term_no e1 q
      simp [e3, e4] at this
    · omega
theorem term_mono (h : k.ok) (hs : ∀ s ∈ ss, okSy s) (h1 : 1 ≤ n) (hn : n ≤ 60) {d e : Int} (hd : 0 ≤ d) (hde : d ≤ e) : k.term ss b d n ≤ k.term ss b e n := by
  have t := term_yes (b := b) h hs (show 0 ≤ e by omega) h1 hn
  have g : e ≤ k.term ss b e n := term_ge
  exact (term_le_iff h hs h1 hn hd).mpr ⟨_, by omega, Int.le_refl _, Nat.le_trans t.1 (cntP_sub hde g), t.2⟩
/-- the latest start -/
def Latest (k : Kal) (ss : List Sy) (b : Bool) (n : Nat) (y : Int) : Option Int → Prop
  | none => ∀ d, 0 ≤ d → y < k.term ss b d n
  | some x => 0 ≤ x ∧ k.term ss b x n ≤ y ∧ ∀ d, x < d → y < k.term ss b d n
theorem latest_some (h : k.ok) (hs : ∀ s ∈ ss, okSy s) (h1 : 1 ≤ n) (hn : n ≤ 60) {L y x : Int} (l1 : L ≤ y) (l2 : ∀ m, L < m → m ≤ y → k.mayEnd ss m = false) (l3 : k.mayEnd ss L = true) (x0 : 0 ≤ x) (xL : x < L)
    (c1 : n ≤ cntP (k.counts ss b) x L) (c2 : cntP (k.counts ss b) (x + 1) L < n) : Latest k ss b n y (some x) := by
  refine ⟨x0, (term_le_iff h hs h1 hn x0).mpr ⟨L, by omega, l1, c1, l3⟩, fun d hd => ?_⟩
  rcases Int.lt_or_le y (k.term ss b d n) with q | q
  · exact q
  · obtain ⟨e, e1, e2, e3, e4⟩ := (term_le_iff h hs h1 hn (show 0 ≤ d by omega)).mp q
    have eL : e ≤ L := by
      rcases Int.lt_or_le L e with z | z
      · rw [l2 e z e2] at e4
        cases e4
      · exact z
    have a1 := cntP_le (p := k.counts ss b) e1 eL
    have a2 := cntP_sub (p := k.counts ss b) (f := x + 1) (b := d) (l := L) (by omega) (by omega)
    omega
theorem latest_none (h : k.ok) (hs : ∀ s ∈ ss, okSy s) (h1 : 1 ≤ n) (hn : n ≤ 60) {L y : Int} (l2 : ∀ m, L < m → m ≤ y → k.mayEnd ss m = false) (c2 : cntP (k.counts ss b) 0 L < n) : Latest k ss b n y none := by
  intro d hd
  rcases Int.lt_or_le y (k.term ss b d n) with q | q
  · exact q
  · obtain ⟨e, e1, e2, e3, e4⟩ := (term_le_iff h hs h1 hn hd).mp q
    have eL : e ≤ L := by
      rcases Int.lt_or_le L e with z | z
      · rw [l2 e z e2] at e4
        cases e4
      · exact z
    have a1 := cntP_le (p := k.counts ss b) e1 eL
    have a2 := cntP_sub (p := k.counts ss b) (f := 0) (b := d) (l := L) hd (by omega)
    omega
/-- ends by the day exactly if it begins at the latest start, or before -/
theorem Latest.iff (h : k.ok) (hs : ∀ s ∈ ss, okSy s) (h1 : 1 ≤ n) (hn : n ≤ 60) {y d : Int} {o : Option Int} (l : Latest k ss b n y o) (hd : 0 ≤ d) : k.term ss b d n ≤ y ↔ ∃ x, o = some x ∧ d ≤ x := by
  cases o with
  | none =>
    have := l d hd
    exact ⟨fun q => by omega, fun ⟨x, e, _⟩ => by cases e⟩
  | some x =>
    obtain ⟨x0, x1, x2⟩ := l
    constructor
    · intro q
      refine ⟨x, rfl, ?_⟩
      rcases Int.lt_or_le x d with z | z
      · have := x2 d z
        omega
      · exact z
    · rintro ⟨x', e, q⟩
      cases e
      have := term_mono (b := b) h hs h1 hn hd q
      omega
end
/-! terms one behind another, and with one more stay -/
theorem cntP_last {p : Int → Bool} {f x : Int} (h : f ≤ x) (hc : 1 ≤ cntP p f x) : ∃ e, f < e ∧ e ≤ x ∧ p e = true ∧ cntP p f e = cntP p f x := by
  obtain ⟨n, hn⟩ := Int.eq_ofNat_of_zero_le (show 0 ≤ x - f by omega)
  obtain rfl : x = f + n := by omega
  clear hn h
  induction n with
  | zero =>
    rw [cntP_zero (by omega)] at hc
    omega
  | succ n ih =>
    rw [show f + ((n + 1 : Nat) : Int) = f + n + 1 by omega] at hc ⊢
    have e := cntP_succ (p := p) (f := f) (l := f + n) (by omega)
    cases q : p (f + n + 1) with
    | true => exact ⟨f + n + 1, by omega, by omega, q, rfl⟩
    | false =>
      rw [q, if_neg Bool.false_ne_true] at e
      obtain ⟨e1, h1, h2, h3, h4⟩ := ih (by omega)
      exact ⟨e1, h1, by omega, h3, by omega⟩
theorem cntP_none {p : Int → Bool} {f l : Int} (hn : ∀ m, f < m → m ≤ l → p m = false) : cntP p f l = 0 := by
  rcases Nat.eq_zero_or_pos (cntP p f l) with h | h
  · exact h
  · rcases Int.lt_or_le l f with z | z
    · exact cntP_zero (by omega)
    · obtain ⟨e, h1, h2, h3, _⟩ := cntP_last z h
      rw [hn e h1 h2] at h3
      cases h3
section
variable {k : Kal} {ss : List Sy} {b : Bool} {n : Nat}
theorem bus_may (d : Int) : k.counts ss false d = k.mayEnd ss d := by
  unfold Kal.counts Kal.mayEnd
  rw [Bool.false_or, Bool.and_comm]
theorem bus_cnt (h : k.ok) (hs : ∀ s ∈ ss, okSy s) (h1 : 1 ≤ n) (hn : n ≤ 60) {d : Int} (hd : 0 ≤ d) : cntP (k.counts ss false) d (k.term ss false d n) = n := by
  have t := term_yes (b := false) h hs hd h1 hn
  have g := term_gt (b := false) h hs hd h1 hn
  have e := cntP_succ (p := k.counts ss false) (f := d) (l := k.term ss false d n - 1) (by omega)
  rw [show k.term ss false d n - 1 + 1 = k.term ss false d n by omega, if_pos (by rw [bus_may]; exact t.2)] at e
  have : cntP (k.counts ss false) d (k.term ss false d n - 1) < n := by
    refine Nat.not_le.mp fun z => ?_
    obtain ⟨x, x1, x2, x3, x4⟩ := cntP_last (p := k.counts ss false) (f := d) (x := k.term ss false d n - 1) (by omega) (by omega)
    have := term_no (k := k) (ss := ss) (b := false) (n := n) (d := d) (m := x) (by omega) (by omega)
    rw [← bus_may, x3, x4] at this
    simp [z] at this
  omega
theorem term_two (h : k.ok) (hs : ∀ s ∈ ss, okSy s) {m : Nat} (m1 : 1 ≤ m) (h1 : 1 ≤ n) (hmn : m + n ≤ 60) {d : Int} (hd : 0 ≤ d) : k.term ss b d (m + n) ≤ k.term ss b (k.term ss b d m) n := by
  have g1 := term_gt (b := b) h hs hd m1 (by omega)
  have t1 := term_yes (b := b) h hs hd m1 (by omega)
  have t2 := term_yes (b := b) h hs (show 0 ≤ k.term ss b d m by omega) h1 (by omega)
  have g2 := term_gt (b := b) h hs (show 0 ≤ k.term ss b d m by omega) h1 (by omega)
  have a := cntP_add (p := k.counts ss b) (f := d) (b := k.term ss b d m) (l := k.term ss b (k.term ss b d m) n) (by omega) (by omega)
  exact (term_le_iff h hs (by omega) hmn hd).mpr ⟨_, by omega, Int.le_refl _, by omega, t2.2⟩
theorem term_two_bus (h : k.ok) (hs : ∀ s ∈ ss, okSy s) {m : Nat} (m1 : 1 ≤ m) (h1 : 1 ≤ n) (hmn : m + n ≤ 60) {d : Int} (hd : 0 ≤ d) : k.term ss false (k.term ss false d m) n = k.term ss false d (m + n) := by
  refine Int.le_antisymm ?_ (term_two h hs m1 h1 hmn hd)
  have g1 := term_gt (b := false) h hs hd m1 (by omega)
  have c1 := bus_cnt h hs m1 (by omega) hd
  have c2 := bus_cnt h hs (show 1 ≤ m + n by omega) hmn hd
  have t2 := term_yes (b := false) h hs hd (show 1 ≤ m + n by omega) hmn
  have g2 := term_gt (b := false) h hs hd (show 1 ≤ m + n by omega) hmn
  have le : k.term ss false d m ≤ k.term ss false d (m + n) := by
    rcases Int.lt_or_le (k.term ss false d (m + n)) (k.term ss false d m) with z | z
    · have := cntP_le (p := k.counts ss false) (f := d) (b := k.term ss false d (m + n)) (l := k.term ss false d m) (by omega) (by omega)
      omega
    · exact z
  have a := cntP_add (p := k.counts ss false) (f := d) (b := k.term ss false d m) (l := k.term ss false d (m + n)) (by omega) le
  exact (term_le_iff h hs h1 (by omega) (by omega)).mpr ⟨_, le, Int.le_refl _, by omega, t2.2⟩
theorem term_kinds (h : k.ok) (hs : ∀ s ∈ ss, okSy s) (h1 : 1 ≤ n) (hn : n ≤ 60) {d : Int} (hd : 0 ≤ d) : k.term ss true d n ≤ k.term ss false d n := by
  have t := term_yes (b := false) h hs hd h1 hn
  refine (term_le_iff h hs h1 hn hd).mpr ⟨_, term_ge, Int.le_refl _, Nat.le_trans t.1 (cntP_mono fun m _ _ hm => ?_), t.2⟩
  unfold Kal.counts at *
  simp at hm ⊢
  exact hm.1
/-- one more stay -/
def inSy (s : Sy) (d : Int) : Bool := decide (s.1 ≤ d) && decide (d ≤ s.2)
theorem styd_more (s : Sy) (p : Nat) (d : Int) : styd (ss.take p ++ [s] ++ ss.drop p) d = (styd ss d || inSy s d) := by
  have e : styd ss d = (styd (ss.take p) d || styd (ss.drop p) d) := by
    unfold styd
    rw [← List.any_append, List.take_append_drop]
  rw [e]
  unfold styd
  rw [List.any_append, List.any_append]
  simp only [List.any_cons, List.any_nil, Bool.or_false]
  unfold inSy
  cases List.any (ss.take p) _ <;> cases List.any (ss.drop p) _ <;> simp
theorem cnt_in (p : Int → Bool) (s : Sy) (f l lo hi : Int) (hf : f ≤ l) (h1 : lo = if f + 1 > s.1 then f + 1 else s.1) (h2 : hi = if l < s.2 then l else s.2) : cntP (fun x => p x && inSy s x) f l = cntP p (lo - 1) hi := by
  have a1 : f < lo ∧ s.1 ≤ lo ∧ ∀ x, f < x → s.1 ≤ x → lo ≤ x := by
    rw [h1]
    split <;> exact ⟨by omega, by omega, fun x _ _ => by omega⟩
  have a2 : hi ≤ l ∧ hi ≤ s.2 ∧ ∀ x, x ≤ l → x ≤ s.2 → x ≤ hi := by
    rw [h2]
    split <;> exact ⟨by omega, by omega, fun x _ _ => by omega⟩
  have out : ∀ x, f < x → x ≤ l → (x < lo ∨ hi < x) → inSy s x = false := fun x x1 x2 x3 => by
    unfold inSy
    rcases x3 with z | z
    · rw [decide_eq_false fun q => by have := a1.2.2 x x1 q; omega]
      rfl
    · rw [decide_eq_false (p := x ≤ s.2) fun q => by have := a2.2.2 x x2 q; omega, Bool.and_false]
  rcases Int.lt_or_le hi lo with z | z
  · rw [cntP_zero (f := lo - 1) (by omega)]
    exact cntP_none fun x x1 x2 => by rw [out x x1 x2 (by omega), Bool.and_false]
  · have e1 := cntP_add (p := fun x => p x && inSy s x) (f := f) (b := lo - 1) (l := l) (by omega) (by omega)
    have e2 := cntP_add (p := fun x => p x && inSy s x) (f := lo - 1) (b := hi) (l := l) (by omega) (by omega)
    have z1 : cntP (fun x => p x && inSy s x) f (lo - 1) = 0 := cntP_none fun x x1 x2 => by rw [out x x1 (by omega) (by omega), Bool.and_false]
    have z2 : cntP (fun x => p x && inSy s x) hi l = 0 := cntP_none fun x x1 x2 => by rw [out x (by omega) x2 (by omega), Bool.and_false]
    have z3 : cntP (fun x => p x && inSy s x) (lo - 1) hi = cntP p (lo - 1) hi := cntP_congr fun x x1 x2 => by
      unfold inSy
      rw [decide_eq_true (by omega), decide_eq_true (by omega)]
      simp
    omega
theorem cnt_split (p q : Int → Bool) {f l : Int} : cntP p f l = cntP (fun x => p x && !q x) f l + cntP (fun x => p x && q x) f l := by
  rcases Int.lt_or_le l f with z | z
  · rw [cntP_zero (by omega), cntP_zero (by omega), cntP_zero (by omega)]
  obtain ⟨n, hn⟩ := Int.eq_ofNat_of_zero_le (show 0 ≤ l - f by omega)
  obtain rfl : l = f + n := by omega
  clear hn z
  induction n with
  | zero => rw [cntP_zero (by omega), cntP_zero (by omega), cntP_zero (by omega)]
  | succ n ih =>
    rw [show f + ((n + 1 : Nat) : Int) = f + n + 1 by omega, cntP_succ (by omega), cntP_succ (by omega), cntP_succ (by omega), ih]
    cases p (f + n + 1) <;> cases q (f + n + 1) <;> simp <;> omega
theorem counts_more (s : Sy) (p : Nat) (d : Int) : k.counts (ss.take p ++ [s] ++ ss.drop p) b d = (k.counts ss b d && !inSy s d) := by
  unfold Kal.counts
  rw [styd_more]
  cases styd ss d <;> cases inSy s d <;> cases (b || k.works d) <;> rfl
theorem may_more (s : Sy) (p : Nat) (d : Int) (h : k.mayEnd (ss.take p ++ [s] ++ ss.drop p) d = true) : k.mayEnd ss d = true := by
  unfold Kal.mayEnd at *
  rw [styd_more] at h
  simp at h ⊢
  exact ⟨h.1, h.2.1⟩
theorem okSy_more {s : Sy} (hs : ∀ s ∈ ss, okSy s) (h0 : okSy s) (p : Nat) : ∀ x ∈ ss.take p ++ [s] ++ ss.drop p, okSy x := fun x hx => by
  rcases List.mem_append.mp hx with hx | hx
  · rcases List.mem_append.mp hx with hx | hx
    · exact hs x (List.mem_of_mem_take hx)
    · rw [List.mem_singleton.mp hx]
      exact h0
  · exact hs x (List.mem_of_mem_drop hx)
theorem term_more (h : k.ok) (hs : ∀ s ∈ ss, okSy s) {s : Sy} (h0 : okSy s) (p : Nat) (h1 : 1 ≤ n) (hn : n ≤ 60) {d : Int} (hd : 0 ≤ d) : k.term ss b d n ≤ k.term (ss.take p ++ [s] ++ ss.drop p) b d n := by
  have t := term_yes (b := b) h (okSy_more hs h0 p) hd h1 hn
  refine (term_le_iff h hs h1 hn hd).mpr ⟨_, term_ge, Int.le_refl _, Nat.le_trans t.1 (cntP_mono fun m _ _ hm => ?_), may_more s p _ t.2⟩
  rw [counts_more] at hm
  simp at hm
  exact hm.1
/-- the longer term -/
theorem term_longer (h : k.ok) (hs : ∀ s ∈ ss, okSy s) {s : Sy} (h0 : okSy s) (p : Nat) (h1 : 1 ≤ n) (hn : n ≤ 60) {d lo hi : Int} (hd : 0 ≤ d)
    (e1 : lo = if d + 1 > s.1 then d + 1 else s.1) (e2 : hi = if k.term (ss.take p ++ [s] ++ ss.drop p) b d n < s.2 then k.term (ss.take p ++ [s] ++ ss.drop p) b d n else s.2) (hm : n + cntP (k.counts ss b) (lo - 1) hi ≤ 60) :
    k.term ss b d (n + cntP (k.counts ss b) (lo - 1) hi) ≤ k.term (ss.take p ++ [s] ++ ss.drop p) b d n ∧ (b = false → k.term ss b d (n + cntP (k.counts ss b) (lo - 1) hi) = k.term (ss.take p ++ [s] ++ ss.drop p) b d n) := by
  have om := okSy_more hs h0 p
  have t := term_yes (b := b) h om hd h1 hn
  have g := term_gt (b := b) h om hd h1 hn
  have sp := cnt_split (k.counts ss b) (inSy s) (f := d) (l := k.term (ss.take p ++ [s] ++ ss.drop p) b d n)
  rw [cnt_in (k.counts ss b) s d _ lo hi (by omega) e1 e2] at sp
  have ec : cntP (fun x => k.counts ss b x && !inSy s x) d (k.term (ss.take p ++ [s] ++ ss.drop p) b d n) = cntP (k.counts (ss.take p ++ [s] ++ ss.drop p) b) d (k.term (ss.take p ++ [s] ++ ss.drop p) b d n) := cntP_congr fun m _ _ => (counts_more s p m).symm
  rw [ec] at sp
  have le : k.term ss b d (n + cntP (k.counts ss b) (lo - 1) hi) ≤ k.term (ss.take p ++ [s] ++ ss.drop p) b d n := (term_le_iff h hs (by omega) hm hd).mpr ⟨_, term_ge, Int.le_refl _, by omega, may_more s p _ t.2⟩
  refine ⟨le, fun hb => ?_⟩
  subst hb
  have c1 := bus_cnt h om h1 hn hd
  have c2 := bus_cnt h hs (show 1 ≤ n + cntP (k.counts ss false) (lo - 1) hi by omega) hm hd
  have g2 := term_gt (b := false) h hs hd (show 1 ≤ n + cntP (k.counts ss false) (lo - 1) hi by omega) hm
  rcases Int.lt_or_le (k.term ss false d (n + cntP (k.counts ss false) (lo - 1) hi)) (k.term (ss.take p ++ [s] ++ ss.drop p) false d n) with z | z
  · exfalso
    have q := cntP_succ (p := k.counts ss false) (f := d) (l := k.term (ss.take p ++ [s] ++ ss.drop p) false d n - 1) (by omega)
    rw [show k.term (ss.take p ++ [s] ++ ss.drop p) false d n - 1 + 1 = k.term (ss.take p ++ [s] ++ ss.drop p) false d n by omega, if_pos (by rw [bus_may]; exact may_more s p _ t.2)] at q
    have := cntP_le (p := k.counts ss false) (f := d) (b := k.term ss false d (n + cntP (k.counts ss false) (lo - 1) hi)) (l := k.term (ss.take p ++ [s] ++ ss.drop p) false d n - 1) (by omega) (by omega)
    omega
  · omega
end
end Dl

/-! Dl: the normal form of stays. -/
namespace Dl
open PySem L2
/-- ascending, none empty, each at least two days behind the one before -/
def Nf : List Sy → Prop
  | [] => True
  | [s] => s.1 ≤ s.2
  | s :: t :: r => s.1 ≤ s.2 ∧ s.2 + 2 ≤ t.1 ∧ Nf (t :: r)
theorem Nf.tail {s : Sy} {r : List Sy} (h : Nf (s :: r)) : Nf r := by
  cases r with
  | nil => trivial
  | cons t r => exact h.2.2
theorem Nf.head {s : Sy} {r : List Sy} (h : Nf (s :: r)) : s.1 ≤ s.2 := by
  cases r with
  | nil => exact h
  | cons t r => exact h.1
theorem Nf.after {s : Sy} : ∀ {r : List Sy}, Nf (s :: r) → ∀ t ∈ r, s.2 + 2 ≤ t.1
  | [], _, t, ht => by cases ht
  | u :: r, h, t, ht => by
    rcases List.mem_cons.mp ht with rfl | ht
    · exact h.2.1
    · have := Nf.after h.2.2 t ht
      have h2 := h.2.1
      have h3 := h.2.2.head
      omega
theorem styd_iff {ss : List Sy} {d : Int} : styd ss d = true ↔ ∃ s ∈ ss, s.1 ≤ d ∧ d ≤ s.2 := by
  unfold styd
  rw [List.any_eq_true]
  simp
theorem styd_none {ss : List Sy} {d : Int} : styd ss d = false ↔ ∀ s ∈ ss, ¬(s.1 ≤ d ∧ d ≤ s.2) := by
  rw [← Bool.not_eq_true, styd_iff]
  exact ⟨fun h s hs q => h ⟨s, hs, q⟩, fun h ⟨s, hs, q⟩ => h s hs q⟩
theorem styd_app (a b : List Sy) (d : Int) : styd (a ++ b) d = (styd a d || styd b d) := List.any_append
/-- no day before the first one -/
theorem Nf.low {s : Sy} {r : List Sy} (h : Nf (s :: r)) {d : Int} (hd : d < s.1) : styd (s :: r) d = false := styd_none.mpr fun t ht q => by
  rcases List.mem_cons.mp ht with rfl | ht
  · omega
  · have := h.after t ht
    have := h.head
    omega
/-- there is but one normal form -/
theorem Nf.uniq : ∀ {a b : List Sy}, Nf a → Nf b → (∀ d, styd a d = styd b d) → a = b
  | [], [], _, _, _ => rfl
  | [], t :: b, _, hb, h => by
    have := h t.1
    rw [show styd (t :: b) t.1 = true from styd_iff.mpr ⟨t, List.mem_cons_self, Int.le_refl _, hb.head⟩] at this
    cases this
  | s :: a, [], ha, _, h => by
    have := h s.1
    rw [show styd (s :: a) s.1 = true from styd_iff.mpr ⟨s, List.mem_cons_self, Int.le_refl _, ha.head⟩] at this
    cases this
  | s :: a, t :: b, ha, hb, h => by
    have hs := ha.head
    have ht := hb.head
    have e1 : s.1 = t.1 := by
      rcases Int.lt_trichotomy s.1 t.1 with q | q | q
      · have := h s.1
        rw [hb.low q, styd_iff.mpr ⟨s, List.mem_cons_self, Int.le_refl _, hs⟩] at this
        cases this
      · exact q
      · have := h t.1
        rw [ha.low q, styd_iff.mpr ⟨t, List.mem_cons_self, Int.le_refl _, ht⟩] at this
        cases this
    have gap : ∀ {x : Sy} {r : List Sy}, Nf (x :: r) → styd (x :: r) (x.2 + 1) = false := fun {x r} hx => styd_none.mpr fun u hu q => by
      rcases List.mem_cons.mp hu with rfl | hu
      · omega
      · have := hx.after u hu
        omega
    have e2 : s.2 = t.2 := by
      rcases Int.lt_trichotomy s.2 t.2 with q | q | q
      · have := h (s.2 + 1)
        rw [gap ha, styd_iff.mpr ⟨t, List.mem_cons_self, by omega, by omega⟩] at this
        cases this
      · exact q
      · have := h (t.2 + 1)
        rw [gap hb, styd_iff.mpr ⟨s, List.mem_cons_self, by omega, by omega⟩] at this
        cases this
    have e : s = t := Prod.ext e1 e2
    subst e
    refine congrArg _ (Nf.uniq ha.tail hb.tail fun d => ?_)
    have := h d
    rw [styd_cons, styd_cons] at this
    by_cases q : s.1 ≤ d ∧ d ≤ s.2
    · have n1 : styd a d = false := styd_none.mpr fun u hu z => by
        have := ha.after u hu
        omega
      have n2 : styd b d = false := styd_none.mpr fun u hu z => by
        have := hb.after u hu
        omega
      rw [n1, n2]
    · have : (decide (s.1 ≤ d) && decide (d ≤ s.2)) = false := by
        rw [← Bool.not_eq_true]
        simpa using q
      simpa [this] using ‹((decide (s.1 ≤ d) && decide (d ≤ s.2)) || styd a d) = ((decide (s.1 ≤ d) && decide (d ≤ s.2)) || styd b d)›
/-- one more at the end -/
theorem Nf.snoc : ∀ {l : List Sy} {x y : Sy}, Nf (l ++ [x]) → y.1 ≤ y.2 → x.2 + 2 ≤ y.1 → Nf (l ++ [x] ++ [y])
  | [], x, y, h, h1, h2 => ⟨h, h2, h1⟩
  | [s], x, y, h, h1, h2 => ⟨h.1, h.2.1, h.2.2, h2, h1⟩
  | s :: t :: l, x, y, h, h1, h2 => ⟨h.1, h.2.1, Nf.snoc (l := t :: l) h.2.2 h1 h2⟩
/-- the last one is made longer -/
theorem Nf.grow : ∀ {l : List Sy} {x : Sy} {z : Int}, Nf (l ++ [x]) → x.2 ≤ z → Nf (l ++ [(x.1, z)])
  | [], x, z, h, hz => by
    have h' : x.1 ≤ x.2 := h
    show x.1 ≤ z
    omega
  | [s], x, z, h, hz => ⟨h.1, h.2.1, by
    have h' : x.1 ≤ x.2 := h.2.2
    show x.1 ≤ z
    omega⟩
  | s :: t :: l, x, z, h, hz => ⟨h.1, h.2.1, Nf.grow (l := t :: l) h.2.2 hz⟩
theorem styd_grow {l : List Sy} {x : Sy} {f z : Int} (h1 : x.1 ≤ f) (h2 : f ≤ x.2 + 1) (h3 : f ≤ z) (d : Int) : styd (l ++ [(x.1, if z > x.2 then z else x.2)]) d = (styd (l ++ [x]) d || (decide (f ≤ d) && decide (d ≤ z))) := by
  rw [styd_app, styd_app, Bool.or_assoc]
  congr 1
  unfold styd
  simp only [List.any_cons, List.any_nil, Bool.or_false]
  rw [← Bool.decide_and, ← Bool.decide_and, ← Bool.decide_and, ← Bool.decide_or]
  refine decide_eq_decide.mpr ?_
  split <;> omega
/-- how many days -/
def lenIn (s : Sy) (f l : Int) : Int := max 0 (min s.2 l + 1 - max s.1 (f + 1))
theorem lenIn_a (s : Sy) (f l : Int) : (if ((if l < s.2 then l else s.2) + 1 - if f + 1 > s.1 then f + 1 else s.1) > 0 then (if l < s.2 then l else s.2) + 1 - if f + 1 > s.1 then f + 1 else s.1 else 0) = lenIn s f l := by
  unfold lenIn
  generalize h1 : (if l < s.2 then l else s.2) = a
  generalize h2 : (if f + 1 > s.1 then f + 1 else s.1) = b
  have g1 : a = min s.2 l := by rw [← h1]; split <;> omega
  have g2 : b = max s.1 (f + 1) := by rw [← h2]; split <;> omega
  split <;> omega
theorem lenIn_b (s : Sy) (f l : Int) : (if 0 > ((if l < s.2 then l else s.2) + 1 - if f + 1 > s.1 then f + 1 else s.1) then 0 else (if l < s.2 then l else s.2) + 1 - if f + 1 > s.1 then f + 1 else s.1) = lenIn s f l := by
  unfold lenIn
  generalize h1 : (if l < s.2 then l else s.2) = a
  generalize h2 : (if f + 1 > s.1 then f + 1 else s.1) = b
  have g1 : a = min s.2 l := by rw [← h1]; split <;> omega
  have g2 : b = max s.1 (f + 1) := by rw [← h2]; split <;> omega
  split <;> omega
theorem cnt_one (s : Sy) (f l : Int) : ((cntP (inSy s) f l : Nat) : Int) = lenIn s f l := by
  unfold lenIn
  rcases Int.lt_or_le l f with z | z
  · rw [cntP_zero (by omega)]
    omega
  · have e := cnt_in (fun _ => true) s f l _ _ z rfl rfl
    have e2 : cntP (fun x => true && inSy s x) f l = cntP (inSy s) f l := cntP_congr fun m _ _ => Bool.true_and _
    rw [e2] at e
    rw [e]
    generalize h1 : (if f + 1 > s.1 then f + 1 else s.1) = lo
    generalize h2 : (if l < s.2 then l else s.2) = hi
    have g1 : lo = max s.1 (f + 1) := by
      rw [← h1]
      split <;> omega
    have g2 : hi = min s.2 l := by
      rw [← h2]
      split <;> omega
    rcases Int.lt_or_le hi lo with q | q
    · rw [cntP_zero (by omega)]
      omega
    · rw [cntP_all (by omega) fun _ _ _ => rfl]
      omega
theorem cnt_or {p q : Int → Bool} {f l : Int} (h : ∀ m, f < m → m ≤ l → ¬(p m = true ∧ q m = true)) : cntP (fun x => p x || q x) f l = cntP p f l + cntP q f l := by
  have s1 := cnt_split (fun x => p x || q x) p (f := f) (l := l)
  have e1 : cntP (fun x => (p x || q x) && p x) f l = cntP p f l := cntP_congr fun m _ _ => by cases p m <;> cases q m <;> rfl
  have e2 : cntP (fun x => (p x || q x) && !p x) f l = cntP q f l := cntP_congr fun m m1 m2 => by
    have := h m m1 m2
    cases a : p m <;> cases b : q m <;> simp [a, b] at this ⊢
  omega
theorem Nf.cnt {f l : Int} : ∀ {a : List Sy}, Nf a → ((cntP (styd a) f l : Nat) : Int) = (a.map fun s => lenIn s f l).sum
  | [], _ => by
    rw [show cntP (styd []) f l = 0 from cntP_none fun m _ _ => rfl]
    rfl
  | s :: a, h => by
    have e : cntP (styd (s :: a)) f l = cntP (fun x => inSy s x || styd a x) f l := rfl
    have dis : ∀ m, f < m → m ≤ l → ¬(inSy s m = true ∧ styd a m = true) := fun m m1 m2 ⟨q1, q2⟩ => by
      obtain ⟨t, ht, t1, t2⟩ := styd_iff.mp q2
      have := h.after t ht
      unfold inSy at q1
      simp at q1
      omega
    rw [e, cnt_or dis, Int.natCast_add, Nf.cnt h.tail, cnt_one, List.map_cons, List.sum_cons]
/-- two and two -/
theorem cnt_incl (p q : Int → Bool) (f l : Int) : cntP (fun x => p x || q x) f l + cntP (fun x => p x && q x) f l = cntP p f l + cntP q f l := by
  have s1 := cnt_split (fun x => p x || q x) p (f := f) (l := l)
  have s2 := cnt_split q p (f := f) (l := l)
  have e1 : cntP (fun x => (p x || q x) && p x) f l = cntP p f l := cntP_congr fun m _ _ => by cases p m <;> cases q m <;> rfl
  have e2 : cntP (fun x => (p x || q x) && !p x) f l = cntP (fun x => q x && !p x) f l := cntP_congr fun m m1 m2 => by cases p m <;> cases q m <;> rfl
  have e3 : cntP (fun x => q x && p x) f l = cntP (fun x => p x && q x) f l := cntP_congr fun m m1 m2 => Bool.and_comm _ _
  omega
/-- the days that both have -/
def cutSy (s t : Sy) : Sy := (if t.1 > s.1 then t.1 else s.1, if t.2 < s.2 then t.2 else s.2)
theorem in_cut (s t : Sy) (d : Int) : inSy (cutSy s t) d = (inSy s d && inSy t d) := by
  unfold inSy cutSy
  rw [← Bool.decide_and, ← Bool.decide_and, ← Bool.decide_and, ← Bool.decide_and]
  refine decide_eq_decide.mpr ?_
  dsimp only
  constructor
  · intro h
    split at h <;> split at h <;> omega
  · intro h
    split <;> split <;> omega
def cutAll (a b : List Sy) : List Sy := (a.map fun s => b.map (cutSy s)).flatten
theorem styd_cuts (s : Sy) (b : List Sy) (d : Int) : styd (b.map (cutSy s)) d = (inSy s d && styd b d) := by
  induction b with
  | nil => simp [styd]
  | cons t b ih =>
    rw [List.map_cons, styd_cons, styd_cons, ih]
    have := in_cut s t d
    unfold inSy at this ⊢
    rw [this]
    cases (decide (s.1 ≤ d) && decide (d ≤ s.2)) <;> simp
theorem styd_cutAll (a b : List Sy) (d : Int) : styd (cutAll a b) d = (styd a d && styd b d) := by
  unfold cutAll
  induction a with
  | nil => rfl
  | cons s a ih =>
    rw [List.map_cons, List.flatten_cons, styd_app, ih, styd_cuts, styd_cons]
    unfold inSy
    cases (decide (s.1 ≤ d) && decide (d ≤ s.2)) <;> cases styd a d <;> cases styd b d <;> rfl
theorem alike_of {a b : List Sy} (h : ∀ s ∈ a ++ b, styd a s.1 = styd b s.1 ∧ styd a (s.2 + 1) = styd b (s.2 + 1)) {d : Int} (hd : styd a d = true) : styd b d = true := by
  obtain ⟨s, hs, h1, h2⟩ := styd_iff.mp hd
  obtain ⟨n, hn⟩ := Int.eq_ofNat_of_zero_le (show 0 ≤ d - s.1 by omega)
  have go : ∀ n : Nat, s.1 + n ≤ d → styd b (s.1 + n) = true := by
    intro n
    induction n with
    | zero =>
      intro _
      have := (h s (List.mem_append_left _ hs)).1
      rw [show s.1 + ((0 : Nat) : Int) = s.1 by omega, ← this]
      exact styd_iff.mpr ⟨s, hs, Int.le_refl _, by omega⟩
    | succ n ih =>
      intro hle
      obtain ⟨t, ht, t1, t2⟩ := styd_iff.mp (ih (by omega))
      rcases Int.lt_or_le t.2 (s.1 + ((n + 1 : Nat) : Int)) with q | q
      · have := (h t (List.mem_append_right _ ht)).2
        rw [show t.2 + 1 = s.1 + ((n + 1 : Nat) : Int) by omega] at this
        rw [← this]
        exact styd_iff.mpr ⟨s, hs, by omega, by omega⟩
      · exact styd_iff.mpr ⟨t, ht, by omega, q⟩
  have := go n (by omega)
  rw [show s.1 + (n : Int) = d by omega] at this
  exact this
theorem alike {a b : List Sy} (h : ∀ s ∈ a ++ b, styd a s.1 = styd b s.1 ∧ styd a (s.2 + 1) = styd b (s.2 + 1)) (d : Int) : styd a d = styd b d := by
  rw [Bool.eq_iff_iff]
  exact ⟨alike_of h, alike_of fun s hs => by
    obtain ⟨h1, h2⟩ := h s (by
      rcases List.mem_append.mp hs with hs | hs
      · exact List.mem_append_right _ hs
      · exact List.mem_append_left _ hs)
    exact ⟨h1.symm, h2.symm⟩⟩
theorem term_local {k k' : Kal} {ss ss' : List Sy} {b : Bool} {n : Nat} {d : Int} (h : k.ok) (hs : ∀ s ∈ ss, okSy s) (h' : k'.ok) (hs' : ∀ s ∈ ss', okSy s) (hd : 0 ≤ d) (h1 : 1 ≤ n) (hn : n ≤ 60)
    (ag : ∀ x, d < x → x ≤ k.term ss b d n → k'.works x = k.works x ∧ styd ss' x = styd ss x) : k'.term ss' b d n = k.term ss b d n := by
  have t := term_yes (b := b) h hs hd h1 hn
  have g := term_gt (b := b) h hs hd h1 hn
  have hc : ∀ x, d < x → x ≤ k.term ss b d n → k'.counts ss' b x = k.counts ss b x := fun x x1 x2 => by
    obtain ⟨e1, e2⟩ := ag x x1 x2
    unfold Kal.counts
    rw [e1, e2]
  have hm : ∀ x, d < x → x ≤ k.term ss b d n → k'.mayEnd ss' x = k.mayEnd ss x := fun x x1 x2 => by
    obtain ⟨e1, e2⟩ := ag x x1 x2
    unfold Kal.mayEnd
    rw [e1, e2]
  refine term_eq h' hs' hd h1 hn (by omega) ?_ ?_ fun m m1 m2 => ?_
  · rw [cntP_congr (q := k.counts ss b) fun x x1 x2 => hc x x1 x2]
    exact t.1
  · rw [hm _ g (Int.le_refl _)]
    exact t.2
  · by_cases e : m = d
    · rw [e, cntP_zero (Int.le_refl _), decide_eq_false (by omega)]
      rfl
    · rw [cntP_congr (q := k.counts ss b) fun x x1 x2 => hc x x1 (by omega), hm m (by omega) (by omega)]
      exact term_no m1 m2
theorem pick_perm {α : Type} {rows : List α} {os : List Int} (z : α) (h : os.Perm ((List.range rows.length).map fun (k : Nat) => (k : Int))) : (os.map fun o => rows.getD o.toNat z).Perm rows := by
  refine (h.map _).trans (List.Perm.of_eq ?_)
  rw [List.map_map]
  refine List.ext_getElem? fun i => ?_
  rw [List.getElem?_map]
  by_cases hi : i < rows.length
  · rw [List.getElem?_range hi, List.getElem?_eq_getElem hi]
    show some (rows.getD ((i : Int)).toNat z) = _
    rw [Int.toNat_natCast, List.getD_eq_getElem?_getD, List.getElem?_eq_getElem hi]
    rfl
  · rw [List.getElem?_eq_none (by simpa using hi), List.getElem?_eq_none (by omega)]
    rfl
theorem pick_at {rows : List Sy} {o : Int} (h0 : 0 ≤ o) (h1 : o < (rows.length : Int)) : atI (rows.map stD) o = some (stD (rows.getD o.toNat (0, 0))) := by
  obtain ⟨k, rfl⟩ := Int.eq_ofNat_of_zero_le h0
  have hk : k < rows.length := by omega
  rw [atI_map, atI_at hk, Int.toNat_natCast, List.getD_eq_getElem?_getD, List.getElem?_eq_getElem hk]
  rfl
theorem styd_perm {a b : List Sy} (h : a.Perm b) (x : Int) : styd a x = styd b x := h.any_eq
end Dl

/-! Dl: service by attempts. -/
namespace Dl
open PySem L2
inductive Mt where
  | hand | post | notice
deriving DecidableEq
def Mt.s : Mt → Str
  | .hand => Str.ofString "hand"
  | .post => Str.ofString "post"
  | .notice => Str.ofString "notice"
structure At where
  d : Int
  m : Mt
  u : Bool
def atD (a : At) : D := .tup [.int a.d, .str a.m.s, .bl a.u]
def okAt (a : At) : Prop := 0 ≤ a.d ∧ a.d ≤ 400
structure Ru where
  k : Kal
  cross : Nat
  stop : Int
  post : Int
  notice : Int
  last : Nat
def Ru.row (r : Ru) (t : List D) : List D := .str (ofL r.k.w) :: .tup (r.k.cl.map D.int) :: .int (r.cross : Int) :: .int r.stop :: .int r.post :: .int r.notice :: .int (r.last : Int) :: t
def Ru.d (r : Ru) : D := .tup (r.row [])
structure Ru.ok (r : Ru) : Prop where
  kal : r.k.ok
  c1 : 1 ≤ r.cross
  c2 : r.cross ≤ 30
  s1 : 1 ≤ r.stop
  s2 : r.stop ≤ 100
  p1 : 0 ≤ r.post
  p2 : r.post ≤ 10
  n1 : 0 ≤ r.notice
  n2 : r.notice ≤ 20
  l1 : 1 ≤ r.last
  l2 : r.last ≤ 30
def Ru.add (r : Ru) : Mt → Int
  | .hand => 0
  | .post => r.post
  | .notice => r.notice
def Ru.eff (r : Ru) (a : At) : Int := r.k.next (a.d + r.add a.m)
def Ru.opt (r : Ru) (a : At) : Option Int := if a.u then none else some (r.eff a)
theorem Ru.add_ge {r : Ru} (h : r.ok) (m : Mt) : 0 ≤ r.add m ∧ r.add m ≤ 20 := by
  have := h.p1
  have := h.p2
  have := h.n1
  have := h.n2
  cases m <;> simp only [Ru.add] <;> omega
theorem Ru.eff_ge {r : Ru} (h : r.ok) {a : At} (ha : okAt a) : 0 ≤ r.eff a ∧ r.eff a ≤ 500 := by
  have := Ru.add_ge h a.m
  have g := Kal.next_ge r.k (a.d + r.add a.m)
  have l := Kal.next_lt h.kal (a.d + r.add a.m)
  unfold okAt at ha
  unfold Ru.eff
  omega
/-- the least of a list, if any -/
def minO : List Int → Option Int
  | [] => none
  | x :: xs => some (match minO xs with | none => x | some y => if x ≤ y then x else y)
theorem minO_none {l : List Int} : minO l = none ↔ l = [] := by
  cases l <;> simp [minO]
theorem minO_some : ∀ {l : List Int} {m : Int}, minO l = some m → m ∈ l ∧ ∀ y ∈ l, m ≤ y
  | [], m, h => by cases h
  | x :: xs, m, h => by
    unfold minO at h
    cases e : minO xs with
    | none =>
      rw [e] at h
      cases h
      rw [minO_none.mp e]
      exact ⟨by simp, fun y hy => by rw [List.mem_singleton.mp hy]; exact Int.le_refl _⟩
    | some z =>
      rw [e] at h
      obtain ⟨i1, i2⟩ := minO_some e
      dsimp only at h
      by_cases g : x ≤ z
      · rw [if_pos g] at h
        cases h
        refine ⟨List.mem_cons_self, fun y hy => ?_⟩
        rcases List.mem_cons.mp hy with rfl | hy
        · exact Int.le_refl _
        · exact Int.le_trans g (i2 y hy)
      · rw [if_neg g] at h
        cases h
        refine ⟨List.mem_cons_of_mem _ i1, fun y hy => ?_⟩
        rcases List.mem_cons.mp hy with rfl | hy
        · omega
        · exact i2 y hy
theorem minO_iff {l : List Int} {m : Int} : minO l = some m ↔ m ∈ l ∧ ∀ y ∈ l, m ≤ y := by
  refine ⟨minO_some, fun ⟨h1, h2⟩ => ?_⟩
  cases e : minO l with
  | none =>
    rw [minO_none.mp e] at h1
    cases h1
  | some z =>
    obtain ⟨i1, i2⟩ := minO_some e
    have := h2 z i1
    have := i2 m h1
    rw [show z = m by omega]
theorem minO_sets {l l2 : List Int} (h : ∀ x, x ∈ l ↔ x ∈ l2) : minO l = minO l2 := by
  cases e : minO l2 with
  | none =>
    rw [minO_none] at e ⊢
    subst e
    exact List.eq_nil_iff_forall_not_mem.mpr fun x hx => by
      have := (h x).mp hx
      cases this
  | some m =>
    rw [minO_iff] at e ⊢
    exact ⟨(h m).mpr e.1, fun y hy => e.2 y ((h y).mp hy)⟩
/-- the day of service -/
def minV (v : List (Option Int)) : Option Int := minO (v.filterMap id)
theorem memV {v : List (Option Int)} {x : Int} : x ∈ v.filterMap id ↔ some x ∈ v := by simp
theorem minV_none {v : List (Option Int)} : minV v = none ↔ ∀ x, some x ∉ v := by
  unfold minV
  rw [minO_none, List.eq_nil_iff_forall_not_mem]
  exact forall_congr' fun x => not_congr memV
theorem minV_iff {v : List (Option Int)} {m : Int} : minV v = some m ↔ some m ∈ v ∧ ∀ y, some y ∈ v → m ≤ y := by
  unfold minV
  rw [minO_iff, memV]
  exact and_congr_right fun _ => forall_congr' fun y => by rw [memV]
theorem minV_sets {v w : List (Option Int)} (h : ∀ x : Int, some x ∈ v ↔ some x ∈ w) : minV v = minV w := minO_sets fun x => by rw [memV, memV]; exact h x
def Ru.days (r : Ru) (as : List At) : List (Option Int) := as.map r.opt
def Ru.served (r : Ru) (as : List At) : Option Int := minV (r.days as)
theorem Ru.opt_some {r : Ru} {a : At} {x : Int} : r.opt a = some x ↔ a.u = false ∧ r.eff a = x := by
  unfold Ru.opt
  cases a.u <;> simp
theorem Ru.served_iff {r : Ru} {as : List At} {m : Int} : r.served as = some m ↔ (∃ a ∈ as, a.u = false ∧ r.eff a = m) ∧ ∀ a ∈ as, a.u = false → m ≤ r.eff a := by
  unfold Ru.served Ru.days
  rw [minV_iff]
  simp only [List.mem_map, Ru.opt_some]
  refine and_congr_right fun _ => ⟨fun h a ha hu => h _ ⟨a, ha, hu, rfl⟩, fun h y ⟨a, ha, hu, e⟩ => e ▸ h a ha hu⟩
theorem Ru.served_none {r : Ru} {as : List At} : r.served as = none ↔ ∀ a ∈ as, a.u = true := by
  unfold Ru.served Ru.days
  rw [minV_none]
  simp only [List.mem_map, Ru.opt_some, not_exists, not_and]
  refine ⟨fun h a ha => ?_, fun h x a ha hu => by rw [h a ha] at hu; cases hu⟩
  cases e : a.u with
  | true => rfl
  | false => exact absurd rfl (h _ a ha e)
/-- the places whose loss would move the day of service -/
def decV (v : List (Option Int)) : List Nat := (List.range v.length).filter fun k => decide (minV (v.eraseIdx k) ≠ minV v)
theorem decV_none {v : List (Option Int)} (h : minV v = none) : decV v = [] := by
  unfold decV
  rw [List.filter_eq_nil_iff]
  intro k _
  simp only [decide_eq_true_eq, ne_eq, Decidable.not_not]
  rw [h, minV_none]
  rw [minV_none] at h
  exact fun x hx => h x (List.mem_of_mem_eraseIdx hx)
theorem minV_erase {v : List (Option Int)} {m : Int} {k j : Nat} (h : minV v = some m) (hj : v[j]? = some (some m)) (ne : j ≠ k) : minV (v.eraseIdx k) = some m := by
  rw [minV_iff] at h ⊢
  exact ⟨List.mem_eraseIdx_iff_getElem?.mpr ⟨j, ne, hj⟩, fun y hy => h.2 y (List.mem_of_mem_eraseIdx hy)⟩
theorem count_two {x : Option Int} : ∀ {v : List (Option Int)}, 1 < v.count x → ∃ i j : Nat, i < j ∧ v[i]? = some x ∧ v[j]? = some x
  | [], h => by simp at h
  | y :: ys, h => by
    by_cases e : y = x
    · subst e
      rw [List.count_cons_self] at h
      obtain ⟨j, hj⟩ := List.mem_iff_getElem?.mp (List.count_pos_iff.mp (show 0 < ys.count y by omega))
      exact ⟨0, j + 1, by omega, rfl, hj⟩
    · rw [List.count_cons_of_ne (by simpa using e)] at h
      obtain ⟨i, j, h1, h2, h3⟩ := count_two h
      exact ⟨i + 1, j + 1, by omega, h2, h3⟩
theorem decV_many {v : List (Option Int)} {m : Int} (h : minV v = some m) (hc : 1 < v.count (some m)) : decV v = [] := by
  obtain ⟨i, j, h1, h2, h3⟩ := count_two hc
  unfold decV
  rw [List.filter_eq_nil_iff]
  intro k _
  simp only [decide_eq_true_eq, ne_eq, Decidable.not_not]
  rw [h]
  by_cases e : i = k
  · exact minV_erase h h3 (by omega)
  · exact minV_erase h h2 e
theorem filter_one {p : Nat → Bool} {i : Nat} : ∀ {n : Nat}, i < n → p i = true → (∀ k, k < n → k ≠ i → p k = false) → (List.range n).filter p = [i]
  | 0, h, _, _ => by omega
  | n + 1, h, hp, hn => by
    rw [List.range_succ, List.filter_append]
    by_cases e : i = n
    · subst e
      rw [List.filter_eq_nil_iff.mpr (fun k hk => by rw [hn k (by have := List.mem_range.mp hk; omega) (by have := List.mem_range.mp hk; omega)]; decide), List.filter_cons, if_pos hp]
      rfl
    · rw [filter_one (by omega) hp (fun k hk => hn k (by omega)), List.filter_cons, if_neg (by rw [hn n (by omega) (by omega)]; decide)]
      rfl
theorem two_count {v : List (Option Int)} {x : Option Int} {i j : Nat} (h : i < j) (hi : v[i]? = some x) (hj : v[j]? = some x) : 2 ≤ v.count x := by
  induction v generalizing i j with
  | nil => simp at hi
  | cons y ys ih =>
    cases j with
    | zero => omega
    | succ j =>
      cases i with
      | zero =>
        simp only [List.getElem?_cons_zero, Option.some.injEq] at hi
        subst hi
        rw [List.count_cons_self]
        have : 0 < ys.count y := List.count_pos_iff.mpr (List.mem_of_getElem? (by simpa using hj))
        omega
      | succ i =>
        have := ih (i := i) (j := j) (by omega) (by simpa using hi) (by simpa using hj)
        have := List.count_le_count_cons (a := x) (b := y) (l := ys)
        omega
theorem count_getElem {v : List (Option Int)} {x : Option Int} {i j : Nat} (h : v.count x ≤ 1) (hi : v[i]? = some x) (hj : v[j]? = some x) : i = j := by
  rcases Nat.lt_trichotomy i j with q | q | q
  · have := two_count (v := v) q hi hj
    omega
  · exact q
  · have := two_count (v := v) q hj hi
    omega
theorem decV_one {v : List (Option Int)} {m : Int} {i : Nat} (h : minV v = some m) (hc : v.count (some m) ≤ 1) (hi : v[i]? = some (some m)) : decV v = [i] := by
  unfold decV
  have hl : i < v.length := by
    rcases Nat.lt_or_ge i v.length with q | q
    · exact q
    · rw [List.getElem?_eq_none q] at hi
      cases hi
  refine filter_one hl ?_ fun k hk ne => ?_
  · simp only [decide_eq_true_eq, ne_eq]
    intro e
    rw [h, minV_iff] at e
    obtain ⟨j, hj, e2⟩ := List.mem_eraseIdx_iff_getElem?.mp e.1
    exact hj (count_getElem hc e2 hi)
  · simp only [ne_eq, decide_eq_false_iff_not, Decidable.not_not]
    rw [h]
    exact minV_erase h hi (by omega)
theorem days_flat (v : List (Option Int)) : (v.map oD).all flatD = true := by
  rw [List.all_eq_true]
  intro d hd
  obtain ⟨o, _, rfl⟩ := List.mem_map.mp hd
  cases o <;> rfl
theorem eqF_o (m : Int) (o : Option Int) : eqF (oD o) (.int m) = decide (o = some m) := by
  cases o with
  | none => rfl
  | some i =>
    show (i == m) = _
    by_cases e : i = m <;> simp [e]
theorem days_count (v : List (Option Int)) (m : Int) : (v.map oD).countP (fun y => eqF y (.int m)) = v.count (some m) := by
  rw [List.countP_map, List.count_eq_countP]
  refine List.countP_congr fun o _ => ?_
  rw [Function.comp_apply, eqF_o]
  simp
theorem days_place {v : List (Option Int)} {m : Int} (h : some m ∈ v) : ∃ i : Nat, placeD (.int m) (v.map oD) = some i ∧ v[i]? = some (some m) := by
  unfold placeD
  cases e : (v.map oD).findIdx? fun y => eqF y (.int m) with
  | none =>
    rw [List.findIdx?_eq_none_iff] at e
    have := e _ (List.mem_map_of_mem (f := oD) h)
    rw [eqF_o] at this
    simp at this
  | some i =>
    refine ⟨i, rfl, ?_⟩
    rw [List.findIdx?_eq_some_iff_getElem] at e
    obtain ⟨hi, e1, _⟩ := e
    rw [List.getElem_map, eqF_o, decide_eq_true_eq] at e1
    rw [List.getElem?_eq_getElem (by simpa using hi)]
    rw [e1]
/-- two rows of rules, mixed -/
theorem ru_mix {r1 r2 : Ru} (o1 : r1.ok) (o2 : r2.ok) {t1 t2 rs : List D} (hl : rs.length = (r1.row t1).length) (h : ∀ i : Nat, rs[i]? = (r1.row t1)[i]? ∨ rs[i]? = (r2.row t2)[i]?) :
    ∃ (r : Ru) (us : List D), rs = r.row us ∧ r.ok ∧ us.length = t1.length ∧ ∀ i : Nat, us[i]? = t1[i]? ∨ us[i]? = t2[i]? := by
  unfold Ru.row at *
  obtain ⟨u1, rs, rfl, h1, hl, h⟩ := mix_cons hl h
  obtain ⟨u2, rs, rfl, h2, hl, h⟩ := mix_cons hl h
  obtain ⟨u3, rs, rfl, h3, hl, h⟩ := mix_cons hl h
  obtain ⟨u4, rs, rfl, h4, hl, h⟩ := mix_cons hl h
  obtain ⟨u5, rs, rfl, h5, hl, h⟩ := mix_cons hl h
  obtain ⟨u6, rs, rfl, h6, hl, h⟩ := mix_cons hl h
  obtain ⟨u7, rs, rfl, h7, hl, h⟩ := mix_cons hl h
  obtain ⟨k, rfl, rfl, ok, _, _⟩ := kal_of o1.kal o2.kal h1 h2
  obtain ⟨c, rfl, c1, c2⟩ : ∃ c : Nat, u3 = .int (c : Int) ∧ 1 ≤ c ∧ c ≤ 30 := by
    rcases h3 with rfl | rfl
    · exact ⟨_, rfl, o1.c1, o1.c2⟩
    · exact ⟨_, rfl, o2.c1, o2.c2⟩
  obtain ⟨s, rfl, s1, s2⟩ : ∃ s : Int, u4 = .int s ∧ 1 ≤ s ∧ s ≤ 100 := by
    rcases h4 with rfl | rfl
    · exact ⟨_, rfl, o1.s1, o1.s2⟩
    · exact ⟨_, rfl, o2.s1, o2.s2⟩
  obtain ⟨p, rfl, p1, p2⟩ : ∃ s : Int, u5 = .int s ∧ 0 ≤ s ∧ s ≤ 10 := by
    rcases h5 with rfl | rfl
    · exact ⟨_, rfl, o1.p1, o1.p2⟩
    · exact ⟨_, rfl, o2.p1, o2.p2⟩
  obtain ⟨n, rfl, n1, n2⟩ : ∃ s : Int, u6 = .int s ∧ 0 ≤ s ∧ s ≤ 20 := by
    rcases h6 with rfl | rfl
    · exact ⟨_, rfl, o1.n1, o1.n2⟩
    · exact ⟨_, rfl, o2.n1, o2.n2⟩
  obtain ⟨l, rfl, l1, l2⟩ : ∃ c : Nat, u7 = .int (c : Int) ∧ 1 ≤ c ∧ c ≤ 30 := by
    rcases h7 with rfl | rfl
    · exact ⟨_, rfl, o1.l1, o1.l2⟩
    · exact ⟨_, rfl, o2.l1, o2.l2⟩
  exact ⟨⟨k, c, s, p, n, l⟩, rs, rfl, ⟨ok, c1, c2, s1, s2, p1, p2, n1, n2, l1, l2⟩, Nat.add_right_cancel (m := 7) hl, fun i => h (i + 7)⟩
theorem cut_init {α : Type} (xs : List α) (h : xs ≠ []) : cutD xs none (some (-1)) = xs.dropLast := by
  unfold cutD
  rw [HT.sIx_none]
  have e : HT.sIx xs.length xs.length (some (-1)) = xs.length - 1 := by
    have : 0 < xs.length := List.length_pos_iff.mpr h
    unfold HT.sIx
    simp
    omega
  rw [e, List.drop_zero, Nat.sub_zero, List.dropLast_eq_take]
theorem atD_mk {d : Int} {m : Mt} {u : Bool} : atD ⟨d, m, u⟩ = .tup [.int d, .str m.s, .bl u] := rfl
theorem erase_cut (ats : List At) (i : Nat) : (ats.map atD).take i ++ cutD (ats.map atD) (some ((i : Int) + 1)) none = (ats.eraseIdx i).map atD := by
  rw [show (i : Int) + 1 = ((i + 1 : Nat) : Int) from rfl, cut_drop, List.eraseIdx_eq_take_drop_succ, List.map_append, List.map_take, List.map_drop]
theorem days_erase (r : Ru) (ats : List At) (i : Nat) : r.served (ats.eraseIdx i) = minV ((r.days ats).eraseIdx i) := by
  unfold Ru.served Ru.days
  rw [List.eraseIdx_eq_take_drop_succ, List.eraseIdx_eq_take_drop_succ, List.map_append, List.map_take, List.map_drop]
theorem ne_oD {a b : Option Int} {P : D → Prop} : neR (oD a) (oD b) P = P (.bl (!decide (a = b))) := by
  cases a with
  | none => cases b <;> rfl
  | some x =>
    cases b with
    | none => rfl
    | some y =>
      show P (.bl (!decide (x = y))) = P (.bl (!decide (some x = some y)))
      rw [show decide (x = y) = decide (some x = some y) from decide_eq_decide.mpr (by simp)]
theorem eq_oD {a b : Option Int} {P : D → Prop} : eqR (oD a) (oD b) P = P (.bl (decide (a = b))) := by
  cases a with
  | none => cases b <;> rfl
  | some x =>
    cases b with
    | none => rfl
    | some y =>
      show P (.bl (decide (x = y))) = P (.bl (decide (some x = some y)))
      rw [show decide (x = y) = decide (some x = some y) from decide_eq_decide.mpr (by simp)]
theorem isNon_oD {a : Option Int} : isNon (oD a) = a.isNone := by cases a <;> rfl
theorem oD_none : oD none = .non := rfl
theorem oD_some {i : Int} : oD (some i) = .int i := rfl
theorem days_some : ∀ v : List (Option Int), (v.filter Option.isSome).map oD = (v.filterMap id).map D.int
  | [] => rfl
  | none :: v => days_some v
  | some i :: v => by
    show oD (some i) :: (v.filter Option.isSome).map oD = D.int i :: (v.filterMap id).map D.int
    rw [days_some v]
    rfl
theorem days_cut (r : Ru) : ∀ ats : List At, (ats.filter fun a => !a.u).map r.eff = (r.days ats).filterMap id
  | [] => rfl
  | a :: ats => by
    have ih := days_cut r ats
    unfold Ru.days at *
    rw [List.map_cons, List.filter_cons]
    cases e : a.u with
    | true =>
      rw [if_neg (by decide), ih, show r.opt a = none by unfold Ru.opt; rw [e]; rfl]
      rfl
    | false =>
      rw [if_pos (by decide), List.map_cons, ih, show r.opt a = some (r.eff a) by unfold Ru.opt; rw [e]; rfl]
      rfl
end Dl

/-! Dl: service, the attempts turned, marked and cut. -/
namespace Dl
open PySem L2
def at0 : At := ⟨0, .hand, false⟩
theorem decV_mem {v : List (Option Int)} {k : Nat} : k ∈ decV v ↔ ∃ m, minV v = some m ∧ v.count (some m) ≤ 1 ∧ v[k]? = some (some m) := by
  cases e : minV v with
  | none =>
    rw [decV_none e]
    simp
  | some m =>
    have hm := (minV_iff.mp e).1
    by_cases c : 1 < v.count (some m)
    · rw [decV_many e c]
      simp
      omega
    · obtain ⟨i, hi⟩ := List.mem_iff_getElem?.mp hm
      rw [decV_one e (by omega) hi]
      simp only [List.mem_singleton, Option.some.injEq, exists_eq_left']
      constructor
      · rintro rfl
        exact ⟨by omega, hi⟩
      · rintro ⟨_, h⟩
        exact count_getElem (by omega) h hi
theorem decV_le {v : List (Option Int)} : (decV v).length ≤ 1 := by
  cases e : minV v with
  | none =>
    rw [decV_none e]
    decide
  | some m =>
    have hm := (minV_iff.mp e).1
    by_cases c : 1 < v.count (some m)
    · rw [decV_many e c]
      decide
    · obtain ⟨i, hi⟩ := List.mem_iff_getElem?.mp hm
      rw [decV_one e (by omega) hi]
      exact Nat.le_refl _
theorem decV_perm_len {v w : List (Option Int)} (h : w.Perm v) : (decV w).length = (decV v).length := by
  have e0 : minV w = minV v := minV_sets fun x => h.mem_iff
  cases e : minV v with
  | none =>
    rw [decV_none e, decV_none (e0.trans e)]
  | some m =>
    have hm := (minV_iff.mp e).1
    by_cases c : 1 < v.count (some m)
    · rw [decV_many e c, decV_many (e0.trans e) (by rw [h.count_eq]; exact c)]
    · obtain ⟨i, hi⟩ := List.mem_iff_getElem?.mp hm
      obtain ⟨j, hj⟩ := List.mem_iff_getElem?.mp (h.mem_iff.mpr hm)
      rw [decV_one e (by omega) hi, decV_one (e0.trans e) (by rw [h.count_eq]; omega) hj]
      rfl
/-- the decisive places of the turned list -/
theorem decV_turned {v w : List (Option Int)} (h : w.Perm v) (p : Nat → Nat) (hp : ∀ j, j < w.length → w[j]? = v[p j]?) : decV w = (List.range w.length).filter fun j => decide (p j ∈ decV v) := by
  have e0 : minV w = minV v := minV_sets fun x => h.mem_iff
  refine List.filter_congr fun j hj => ?_
  have hj := List.mem_range.mp hj
  rw [decide_eq_decide]
  have a : (minV (w.eraseIdx j) ≠ minV w) ↔ j ∈ decV w := by
    unfold decV
    rw [List.mem_filter, decide_eq_true_eq, List.mem_range]
    exact ⟨fun z => ⟨hj, z⟩, fun z => z.2⟩
  rw [a, decV_mem, decV_mem, e0]
  refine exists_congr fun m => ?_
  rw [h.count_eq, hp j hj]
theorem Ru.served_perm {r : Ru} {a b : List At} (h : a.Perm b) : r.served a = r.served b := minV_sets fun x => by
  unfold Ru.days
  exact (h.map r.opt).mem_iff
theorem Ru.served_sub {r : Ru} {a b : List At} (h : ∀ x ∈ a, x ∈ b) {m : Int} (e : r.served a = some m) : ∃ n, r.served b = some n ∧ n ≤ m := by
  obtain ⟨⟨x, hx, hu, rfl⟩, _⟩ := Ru.served_iff.mp e
  cases e2 : r.served b with
  | none =>
    have := Ru.served_none.mp e2 x (h x hx)
    rw [hu] at this
    cases this
  | some n => exact ⟨n, rfl, (Ru.served_iff.mp e2).2 x (h x hx) hu⟩
theorem Ru.served_live {r : Ru} {a b : List At} (h : ∀ x, x.u = false → (x ∈ a ↔ x ∈ b)) : r.served a = r.served b := minV_sets fun y => by
  unfold Ru.days
  simp only [List.mem_map, Ru.opt_some]
  exact ⟨fun ⟨x, hx, hu, e⟩ => ⟨x, (h x hu).mp hx, hu, e⟩, fun ⟨x, hx, hu, e⟩ => ⟨x, (h x hu).mpr hx, hu, e⟩⟩
theorem at_at {ats : List At} {o : Int} (h0 : 0 ≤ o) (h1 : o < (ats.length : Int)) : atI (ats.map atD) o = some (atD (ats.getD o.toNat at0)) := by
  obtain ⟨k, rfl⟩ := Int.eq_ofNat_of_zero_le h0
  have hk : k < ats.length := by omega
  rw [atI_map, atI_at hk, Int.toNat_natCast, List.getD_eq_getElem?_getD, List.getElem?_eq_getElem hk]
  rfl
theorem at_nat {ats : List At} {k : Nat} (h1 : k < ats.length) : atI (ats.map atD) (k : Int) = some (atD (ats.getD k at0)) := by
  have := at_at (ats := ats) (o := (k : Int)) (by omega) (by omega)
  rw [Int.toNat_natCast] at this
  exact this
theorem atD_eq (a : At) : atD a = .tup [.int a.d, .str a.m.s, .bl a.u] := rfl
theorem turned_at {r : Ru} {ats : List At} {os : List Int} (l2 : ∀ o ∈ os, 0 ≤ o ∧ o < (ats.length : Int)) (j : Nat) (hj : j < os.length) : (r.days (os.map fun o : Int => ats.getD o.toNat at0))[j]? = (r.days ats)[(os.getD j 0).toNat]? := by
  have h := l2 os[j] (List.getElem_mem hj)
  unfold Ru.days
  have hk : (os.getD j 0).toNat < ats.length := by
    rw [List.getD_eq_getElem?_getD, List.getElem?_eq_getElem hj]
    show (os[j]).toNat < _
    omega
  rw [List.map_map, List.getElem?_map, List.getElem?_map, List.getElem?_eq_getElem hj, List.getElem?_eq_getElem hk]
  show some (r.opt (ats.getD (os[j]).toNat at0)) = _
  have e : os.getD j 0 = os[j] := by rw [List.getD_eq_getElem?_getD, List.getElem?_eq_getElem hj]; rfl
  simp only [e] at hk ⊢
  rw [List.getD_eq_getElem?_getD, List.getElem?_eq_getElem hk]
  rfl
theorem decV_os {r : Ru} {ats : List At} {os : List Int} (l1 : os.length = ats.length) (l2 : ∀ o ∈ os, 0 ≤ o ∧ o < (ats.length : Int)) (h : (os.map fun o : Int => ats.getD o.toNat at0).Perm ats) : decV (r.days (os.map fun o : Int => ats.getD o.toNat at0)) = (List.range ats.length).filter fun j => decide ((os.getD j 0).toNat ∈ decV (r.days ats)) := by
  have := decV_turned (v := r.days ats) (w := r.days (os.map fun o : Int => ats.getD o.toNat at0)) (h.map r.opt) (fun j => (os.getD j 0).toNat) fun j hj => turned_at l2 j (by unfold Ru.days at hj; simpa using hj)
  rw [this]
  congr 2
  unfold Ru.days
  rw [List.length_map, List.length_map, l1]
theorem Ru.served_ge {r : Ru} (ok : r.ok) {a : List At} (oa : ∀ x ∈ a, okAt x) {m : Int} (e : r.served a = some m) : 0 ≤ m ∧ m ≤ 500 := by
  obtain ⟨⟨x, hx, _, rfl⟩, _⟩ := Ru.served_iff.mp e
  exact r.eff_ge ok (oa x hx)
/-- the attempts by place, kept or marked -/
theorem live_marked {r : Ru} (ats : List At) (p : Nat → Bool) :
    r.served ((List.range ats.length).map fun k => ⟨(ats.getD k at0).d, (ats.getD k at0).m, (ats.getD k at0).u || p k⟩) = r.served (((List.range ats.length).filter fun k => !p k).map fun k => ats.getD k at0) :=
  Ru.served_live fun x hu => by
    simp only [List.mem_map, List.mem_filter, Bool.not_eq_true']
    constructor
    · rintro ⟨k, hk, rfl⟩
      simp only [Bool.or_eq_false_iff] at hu
      refine ⟨k, ⟨hk, hu.2⟩, ?_⟩
      simp only [hu.1, hu.2, Bool.or_false]
      show (ats.getD k at0) = ⟨(ats.getD k at0).d, (ats.getD k at0).m, false⟩
      rw [← hu.1]
    · rintro ⟨k, ⟨hk, hp⟩, rfl⟩
      refine ⟨k, hk, ?_⟩
      simp only [hp, Bool.or_false]
theorem kept_sub (ats : List At) (p : Nat → Bool) : ∀ x ∈ ((List.range ats.length).filter p).map fun k => ats.getD k at0, x ∈ ats := fun x hx => by
  obtain ⟨k, hk, rfl⟩ := List.mem_map.mp hx
  have := List.mem_range.mp (List.mem_filter.mp hk).1
  rw [List.getD_eq_getElem?_getD, List.getElem?_eq_getElem this]
  exact List.getElem_mem this
/-- the last answer of the law -/
theorem told_due {r : Ru} {a b : List At} (h : ∀ x ∈ b, x ∈ a) : decide (r.served b = r.served a) = (decide (r.served a = none) || decide (0 < ((b.filter fun x => !x.u && decide (some (r.eff x) = r.served a)).length : Nat))) := by
  rw [← Bool.decide_or, decide_eq_decide]
  cases e : r.served a with
  | none =>
    refine ⟨fun _ => .inl rfl, fun _ => ?_⟩
    cases e2 : r.served b with
    | none => rfl
    | some m =>
      obtain ⟨n, hn, _⟩ := Ru.served_sub h e2
      rw [e] at hn
      cases hn
  | some m =>
    rw [List.length_pos_iff_exists_mem]
    simp only [reduceCtorEq, false_or, List.mem_filter, Bool.and_eq_true, Bool.not_eq_true', decide_eq_true_eq, Option.some.injEq]
    rw [Ru.served_iff]
    constructor
    · rintro ⟨⟨x, hx, hu, e⟩, _⟩
      exact ⟨x, hx, hu, e⟩
    · rintro ⟨x, hx, hu, e3⟩
      exact ⟨⟨x, hx, hu, e3⟩, fun y hy hu => (Ru.served_iff.mp e).2 y (h y hy) hu⟩
end Dl

/-! Dl: the periods of an appeal. -/
namespace Dl
open PySem L2
structure Ck where
  j : Int
  ats : List At
  ss : List Sy
  f : Option Int
def Ck.row (c : Ck) (t : List D) : List D := .int c.j :: .tup (c.ats.map atD) :: .tup (c.ss.map stD) :: oD c.f :: t
def Ck.d (c : Ck) : D := .tup (c.row [])
structure Ck.ok (c : Ck) : Prop where
  j0 : 0 ≤ c.j
  al : c.ats.length ≤ 500
  ao : ∀ a ∈ c.ats, okAt a
  sl : c.ss.length ≤ 500
  so : ∀ s ∈ c.ss, okSy s
  fo : ∀ x, c.f = some x → 0 ≤ x ∧ x ≤ 400
def Ru.own (r : Ru) (b : Bool) (n : Nat) (c : Ck) : Int := match r.served c.ats with
  | none => c.j + r.stop
  | some s => r.k.term c.ss b s n
def Ru.crs (r : Ru) (c : Ck) : Option Int := c.f.map fun x => r.k.term c.ss true x r.cross
def Ru.per (r : Ru) (b : Bool) (n : Nat) (c : Ck) : Int := match r.crs c with
  | none => r.own b n c
  | some x => if x > r.own b n c then x else r.own b n c
theorem Ru.own_none {r : Ru} {b : Bool} {n : Nat} {c : Ck} (e : r.served c.ats = none) : r.own b n c = c.j + r.stop := by
  unfold Ru.own
  rw [e]
theorem Ru.own_some {r : Ru} {b : Bool} {n : Nat} {c : Ck} {s : Int} (e : r.served c.ats = some s) : r.own b n c = r.k.term c.ss b s n := by
  unfold Ru.own
  rw [e]
theorem Ru.per_none {r : Ru} {b : Bool} {n : Nat} {c : Ck} (e : r.crs c = none) : r.per b n c = r.own b n c := by
  unfold Ru.per
  rw [e]
theorem Ru.per_some {r : Ru} {b : Bool} {n : Nat} {c : Ck} {x : Int} (e : r.crs c = some x) : r.per b n c = if x > r.own b n c then x else r.own b n c := by
  unfold Ru.per
  rw [e]
theorem Ru.crs_none {r : Ru} {c : Ck} (e : c.f = none) : r.crs c = none := by
  unfold Ru.crs
  rw [e]
  rfl
theorem Ru.crs_some {r : Ru} {c : Ck} {x : Int} (e : c.f = some x) : r.crs c = some (r.k.term c.ss true x r.cross) := by
  unfold Ru.crs
  rw [e]
  rfl
theorem cut_d9 {α : Type} {a b c d e f g h i : α} {r : List α} : cutD (a :: b :: c :: d :: e :: f :: g :: h :: i :: r) (some 9) none = r := cut_drop _ 9
/-- two clocks, mixed -/
theorem ck_mix {c1 c2 : Ck} (o1 : c1.ok) (o2 : c2.ok) {t1 t2 rs : List D} (hl : rs.length = (c1.row t1).length) (h : ∀ i : Nat, rs[i]? = (c1.row t1)[i]? ∨ rs[i]? = (c2.row t2)[i]?) :
    ∃ (c : Ck) (us : List D), rs = c.row us ∧ c.ok ∧ us.length = t1.length ∧ ∀ i : Nat, us[i]? = t1[i]? ∨ us[i]? = t2[i]? := by
  unfold Ck.row at *
  obtain ⟨u1, rs, rfl, h1, hl2, h⟩ := mix_cons hl h
  obtain ⟨u2, rs, rfl, h2, hl3, h⟩ := mix_cons hl2 h
  obtain ⟨u3, rs, rfl, h3, hl4, h⟩ := mix_cons hl3 h
  obtain ⟨u4, rs, rfl, h4, hl5, h⟩ := mix_cons hl4 h
  obtain ⟨j, rfl, j0⟩ : ∃ c : Int, u1 = .int c ∧ 0 ≤ c := by
    rcases h1 with rfl | rfl
    · exact ⟨_, rfl, o1.j0⟩
    · exact ⟨_, rfl, o2.j0⟩
  obtain ⟨a, rfl, a1, a2⟩ : ∃ a : List At, u2 = .tup (a.map atD) ∧ a.length ≤ 500 ∧ ∀ x ∈ a, okAt x := by
    rcases h2 with rfl | rfl
    · exact ⟨_, rfl, o1.al, o1.ao⟩
    · exact ⟨_, rfl, o2.al, o2.ao⟩
  obtain ⟨s, rfl, s1, s2⟩ : ∃ a : List Sy, u3 = .tup (a.map stD) ∧ a.length ≤ 500 ∧ ∀ x ∈ a, okSy x := by
    rcases h3 with rfl | rfl
    · exact ⟨_, rfl, o1.sl, o1.so⟩
    · exact ⟨_, rfl, o2.sl, o2.so⟩
  obtain ⟨f, rfl, fo⟩ : ∃ f : Option Int, u4 = oD f ∧ ∀ x, f = some x → 0 ≤ x ∧ x ≤ 400 := by
    rcases h4 with rfl | rfl
    · exact ⟨_, rfl, o1.fo⟩
    · exact ⟨_, rfl, o2.fo⟩
  exact ⟨⟨j, a, s, f⟩, rs, rfl, ⟨j0, a1, a2, s1, s2, fo⟩, hl5, fun i => h (i + 4)⟩
end Dl

/-! Dl: votes. -/
namespace Dl
open PySem L2
theorem cnt_list (c : Nat) : ∀ w : List Nat, PyProof.Rows.cnt c w = ((w.count c : Nat) : Int)
  | [] => rfl
  | a :: w => by
    rw [PyProof.Rows.cnt_cons, cnt_list c w, List.count_cons]
    by_cases h : a = c
    · subst h
      simp
      try omega
    · simp [h]
theorem cnt1 (w : List Nat) : Txt.count (ofL w) (Str.ofString "1") = ((w.count 49 : Nat) : Int) := by
  rw [show Str.ofString "1" = ⟨#[49]⟩ from rfl, PyProof.Rows.count_cnt, cnt_list]
  rfl
theorem cnt0 (w : List Nat) : Txt.count (ofL w) (Str.ofString "0") = ((w.count 48 : Nat) : Int) := by
  rw [show Str.ofString "0" = ⟨#[48]⟩ from rfl, PyProof.Rows.count_cnt, cnt_list]
  rfl
theorem repS_sg (c : Nat) (n : Nat) : repS (sgS c) n = ofL (List.replicate n c) := by
  have go : ∀ (n : Nat) (acc : Array Nat), (List.replicate n #[c]).foldl (· ++ ·) acc = acc ++ (List.replicate n c).toArray := fun n => by
    induction n with
    | zero => intro acc; simp
    | succ n ih =>
      intro acc
      rw [List.replicate_succ, List.foldl_cons, ih, List.replicate_succ]
      apply Array.ext'
      simp
  show (⟨(List.replicate n #[c]).foldl (· ++ ·) #[]⟩ : Str) = ofL _
  rw [go]
  simp [ofL]
theorem ofL_add (a b : List Nat) : ofL a ++ ofL b = ofL (a ++ b) := by
  show (⟨(ofL a).cps ++ (ofL b).cps⟩ : Str) = _
  simp [ofL]
theorem mem_ups {lo x : Int} {n : Nat} : x ∈ ups lo n ↔ lo ≤ x ∧ x < lo + (n : Int) := by
  unfold ups
  rw [List.mem_map]
  constructor
  · rintro ⟨i, hi, rfl⟩
    have := List.mem_range.mp hi
    omega
  · intro h
    exact ⟨(x - lo).toNat, List.mem_range.mpr (by omega), by omega⟩
theorem ups_asc (lo : Int) (n : Nat) : (ups lo n).Pairwise (· < ·) := by
  unfold ups
  rw [List.pairwise_map]
  exact List.Pairwise.imp (fun h => by omega) List.pairwise_lt_range
/-- is a finding carried -/
def foundB (m o n : Int) : Bool := if m = 0 then decide (n < 2 * o) else if m = 1 then decide (2 * n ≤ 3 * o) else decide (o = n)
def needF (m : Int) (n : Nat) : Nat := if m = 0 then n / 2 + 1 else if m = 1 then (2 * n + 2) / 3 else n
theorem found_iff {m : Int} {n : Nat} {o : Int} (hn : 1 ≤ n) (h0 : 0 ≤ o) (h1 : o ≤ n) : foundB m o n = true ↔ (needF m n : Int) ≤ o := by
  unfold foundB needF
  split
  · rw [decide_eq_true_eq]
    omega
  · split
    · rw [decide_eq_true_eq]
      omega
    · rw [decide_eq_true_eq]
      omega
theorem needF_le {m : Int} {n : Nat} (hn : 1 ≤ n) : 1 ≤ needF m n ∧ needF m n ≤ n := by
  unfold needF
  split
  · omega
  · split <;> omega
theorem needF_m {m k : Int} {n : Nat} (hn : 1 ≤ n) (h0 : 0 ≤ m) (h1 : m < k) (h2 : k < 3) : needF m n ≤ needF k n := by
  unfold needF
  split <;> split <;> (try split) <;> (try split) <;> omega
theorem needF_n {m : Int} {n k : Nat} (hn : 1 ≤ n) (h : n ≤ k) : needF m n ≤ needF m k ∧ n - needF m n ≤ k - needF m k := by
  unfold needF
  split
  · omega
  · split <;> omega
/-- the first of those found -/
theorem first_found {m : Int} {n : Nat} (hn : 1 ≤ n) {p : Int → Bool} (hp : ∀ o : Int, 0 ≤ o → o ≤ n → p o = foundB m o n) : ∃ r, (ups 0 (n + 1)).filter p = (needF m n : Int) :: r := by
  have l := needF_le (m := m) hn
  have mem : (needF m n : Int) ∈ (ups 0 (n + 1)).filter p := by
    rw [List.mem_filter, mem_ups, hp _ (by omega) (by omega)]
    exact ⟨by omega, (found_iff hn (by omega) (by omega)).mpr (Int.le_refl _)⟩
  have asc := (ups_asc 0 (n + 1)).filter p
  cases e : (ups 0 (n + 1)).filter p with
  | nil =>
    rw [e] at mem
    cases mem
  | cons x xs =>
    have hx : x ∈ (ups 0 (n + 1)).filter p := by rw [e]; exact List.mem_cons_self
    rw [List.mem_filter, mem_ups] at hx
    have fx := (found_iff hn (m := m) (by omega) (by omega)).mp ((hp x (by omega) (by omega)) ▸ hx.2)
    rw [e] at mem asc
    rcases List.mem_cons.mp mem with q | q
    · exact ⟨xs, by rw [q]⟩
    · have := (List.pairwise_cons.mp asc).1 _ q
      omega
def Bits (w : List Nat) : Prop := ∀ c ∈ w, c = 48 ∨ c = 49
theorem bits_cnt : ∀ {w : List Nat}, Bits w → w.count 48 + w.count 49 = w.length
  | [], _ => rfl
  | c :: w, h => by
    have ih := bits_cnt (w := w) fun x hx => h x (List.mem_cons_of_mem _ hx)
    rw [List.count_cons, List.count_cons, List.length_cons]
    rcases h c List.mem_cons_self with rfl | rfl <;> simp <;> omega
theorem one_sg : Str.ofString "1" = sgS 49 := rfl
theorem zero_sg : Str.ofString "0" = sgS 48 := rfl
theorem at01_0 : atI (Str.ofString "01").cps.toList 0 = some 48 := rfl
theorem at01_1 : atI (Str.ofString "01").cps.toList 1 = some 49 := rfl
theorem ruled_bits (a b : Nat) : Bits (List.replicate a 49 ++ List.replicate b 48) := fun c hc => by
  rcases List.mem_append.mp hc with hc | hc
  · exact .inr (List.mem_replicate.mp hc).2
  · exact .inl (List.mem_replicate.mp hc).2
theorem ruled_cnt (a b : Nat) : (List.replicate a 49 ++ List.replicate b 48).count 49 = a := by
  rw [List.count_append, List.count_replicate_self, List.count_replicate]
  rfl
theorem ruled_len (a b : Nat) : (List.replicate a 49 ++ List.replicate b 48).length = a + b := by
  rw [List.length_append, List.length_replicate, List.length_replicate]
theorem ruled_eq (a b : Nat) : repS (Str.ofString "1") a ++ repS (Str.ofString "0") b = ofL (List.replicate a 49 ++ List.replicate b 48) := by
  rw [one_sg, zero_sg, repS_sg, repS_sg, ofL_add]
/-- the votes of a bench, by those that hold with the finding -/
def votesOf (n : Nat) (l : List Int) : List Nat := (List.range n).map fun (k : Nat) => if (k : Int) ∈ l then 49 else 48
theorem votes_bits (n : Nat) (l : List Int) : Bits (votesOf n l) := fun c hc => by
  obtain ⟨k, _, rfl⟩ := List.mem_map.mp hc
  split
  · exact .inr rfl
  · exact .inl rfl
theorem votes_len (n : Nat) (l : List Int) : (votesOf n l).length = n := by
  unfold votesOf
  rw [List.length_map, List.length_range]
theorem votes_cnt {n j : Nat} {os : List Int} (h : os.Perm ((List.range n).map fun (k : Nat) => (k : Int))) (hj : j ≤ n) : (votesOf n (os.take j)).count 49 = j := by
  have nd : os.Nodup := h.nodup_iff.mpr (by
    rw [List.Nodup, List.pairwise_map]
    exact List.Pairwise.imp (fun h e => by omega) List.pairwise_lt_range)
  have hl : os.length = n := by
    have := h.length_eq
    rw [List.length_map, List.length_range] at this
    exact this
  have e1 : (votesOf n (os.take j)).count 49 = (((List.range n).map fun (k : Nat) => (k : Int)).countP fun k => decide (k ∈ os.take j)) := by
    unfold votesOf
    rw [List.count_eq_countP, List.countP_map, List.countP_map]
    refine List.countP_congr fun k _ => ?_
    simp only [Function.comp_apply]
    split <;> simp_all
  rw [e1, ← h.countP_eq]
  have e2 : os.countP (fun k => decide (k ∈ os.take j)) = (os.take j ++ os.drop j).countP (fun k => decide (k ∈ os.take j)) := by rw [List.take_append_drop]
  rw [e2, List.countP_append]
  rw [List.countP_eq_length.mpr (fun k hk => decide_eq_true hk), List.length_take]
  have nd2 : (os.take j ++ os.drop j).Nodup := by rw [List.take_append_drop]; exact nd
  rw [List.countP_eq_zero.mpr (fun k hk => by
    simp only [decide_eq_true_eq]
    exact fun z => (List.nodup_append.mp nd2).2.2 k z k hk rfl)]
  omega
def oB : Option Bool → D
  | none => .non
  | some b => .bl b
def against (w : List Nat) : Option Bool → Nat
  | none => 0
  | some true => w.count 48
  | some false => w.count 49
end Dl

/-! Dl: agreeing votes. -/
namespace Dl
open PySem L2
def dis (n g j : Nat) : List Nat := (List.range g).map fun p => (j * g + p) % n
def rowV (n g j : Nat) : List Nat := (List.range n).map fun k => if k ∈ dis n g j then 48 else 49
def comm (n : Nat) (ws : List (List Nat)) : Nat := ((List.range n).filter fun k => decide ((ws.filter fun r => decide (r.getD k 0 = 48)).length = 0)).length
def leastF (m : Int) (n many : Nat) : Nat := n - many * (n - needF m n)
theorem rowV_comm : ∀ n, n < 10 → 1 ≤ n → ∀ g, g < n → ∀ many, many < 10 → 1 ≤ many → comm n ((List.range many).map (rowV n g)) = n - many * g := by decide +kernel
theorem rowV_cnt : ∀ n, n < 10 → 1 ≤ n → ∀ g, g < n → ∀ j, j < 10 → (rowV n g j).count 49 = n - g := by decide +kernel
theorem rowV_len (n g j : Nat) : (rowV n g j).length = n := by
  unfold rowV
  rw [List.length_map, List.length_range]
theorem rowV_bits (n g j : Nat) : Bits (rowV n g j) := fun c hc => by
  obtain ⟨k, _, rfl⟩ := List.mem_map.mp hc
  split
  · exact .inl rfl
  · exact .inr rfl
theorem least_eq (m : Int) (n many : Nat) (hn : 1 ≤ n) : (many : Int) * (needF m n : Nat) - ((many : Int) - 1) * (n : Int) = (n : Int) - (many : Int) * ((n - needF m n : Nat) : Int) := by
  have := needF_le (m := m) hn
  obtain ⟨g, hg⟩ : ∃ g, n = needF m n + g := ⟨n - needF m n, by omega⟩
  rw [show n - needF m n = g by omega]
  generalize needF m n = q at *
  subst hg
  rw [Int.sub_mul, Int.one_mul, Int.natCast_add, Int.mul_add]
  omega
theorem least_max (m : Int) (n many : Nat) (hn : 1 ≤ n) : (if (many : Int) * (needF m n : Nat) - ((many : Int) - 1) * (n : Int) > 0 then (many : Int) * (needF m n : Nat) - ((many : Int) - 1) * (n : Int) else 0) = (leastF m n many : Nat) ∧
    (if 0 > (many : Int) * (needF m n : Nat) - ((many : Int) - 1) * (n : Int) then 0 else (many : Int) * (needF m n : Nat) - ((many : Int) - 1) * (n : Int)) = (leastF m n many : Nat) := by
  rw [least_eq m n many hn]
  unfold leastF
  have e : ((many * (n - needF m n) : Nat) : Int) = (many : Int) * ((n - needF m n : Nat) : Int) := Int.natCast_mul _ _
  rw [← e]
  constructor <;> split <;> omega
theorem sg_zero (c : Nat) : (sgS c = Str.ofString "0") = (c = 48) := propext (by rw [zero_sg]; exact sgS_inj)
theorem getD_count {r : List Nat} {n : Nat} (h : r.length = n) : (List.range n).countP (fun k => decide (r.getD k 0 = 48)) = r.count 48 := by
  have e : r = (List.range n).map fun k => r.getD k 0 := by
    refine List.ext_getElem? fun i => ?_
    rw [List.getElem?_map]
    by_cases hi : i < n
    · rw [List.getElem?_range hi, List.getElem?_eq_getElem (by omega)]
      simp only [Option.map_some]
      rw [List.getD_eq_getElem?_getD, List.getElem?_eq_getElem (by omega)]
      rfl
    · rw [List.getElem?_eq_none (by omega), List.getElem?_eq_none (by simpa using hi)]
      rfl
  have e2 : r.count 48 = ((List.range n).map fun k => r.getD k 0).count 48 := congrArg (List.count 48) e
  rw [e2, List.count_eq_countP, List.countP_map]
  refine List.countP_congr fun k _ => ?_
  simp
theorem comm_ge {n g : Nat} : ∀ {ws : List (List Nat)}, (∀ w ∈ ws, w.length = n ∧ w.count 48 ≤ g) → n ≤ comm n ws + ws.length * g
  | [], _ => by
    unfold comm
    rw [show (List.range n).filter (fun k => decide ((([] : List (List Nat)).filter fun r => decide (r.getD k 0 = 48)).length = 0)) = List.range n from List.filter_eq_self.mpr fun k _ => by simp, List.length_range]
    omega
  | w :: ws, h => by
    have ih := comm_ge (ws := ws) fun x hx => h x (List.mem_cons_of_mem _ hx)
    obtain ⟨h1, h2⟩ := h w List.mem_cons_self
    have key : comm n ws ≤ comm n (w :: ws) + w.count 48 := by
      rw [← getD_count h1]
      unfold comm
      rw [← List.countP_eq_length_filter, ← List.countP_eq_length_filter]
      generalize List.range n = l
      induction l with
      | nil => exact Nat.zero_le _
      | cons k l ih =>
        rw [List.countP_cons, List.countP_cons, List.countP_cons, List.filter_cons]
        by_cases q : w.getD k 0 = 48
        · simp only [q, decide_true, if_true]
          split <;> split <;> omega
        · simp only [q, decide_false, if_false, Bool.false_eq_true, reduceIte]
          split <;> omega
    rw [List.length_cons, Nat.add_mul, Nat.one_mul]
    omega
end Dl

/-! Dl: courts, chains of courts, review. -/
namespace Dl
open PySem L2
def cD : Option Int → D
  | none => .non
  | some i => .int i
/-- a court, as data: its superior, the rest -/
def supD : Option Nat → D
  | none => .non
  | some j => .int (j : Int)
def ctD (c : Option Nat × List D) : D := .tup (supD c.1 :: c.2)
abbrev Cts := List (Option Nat × List D)
def supOf (cs : Cts) (k : Nat) : Option Nat := (cs[k]?).bind (·.1)
/-- superiors have smaller numbers -/
def Hier (cs : Cts) : Prop := ∀ k j, supOf cs k = some j → j < k
def chN (cs : Cts) : Nat → Nat → List Nat
  | 0, _ => []
  | n + 1, k => k :: (match supOf cs k with
    | none => []
    | some j => chN cs n j)
def chn (cs : Cts) (k : Nat) : List Nat := chN cs (k + 1) k
theorem chN_any {cs : Cts} (h : Hier cs) : ∀ b k, k ≤ b → ∀ n m, k < n → k < m → chN cs n k = chN cs m k
  | b, k, hb, 0, _, hn, _ => absurd hn (Nat.not_lt_zero _)
  | b, k, hb, _, 0, _, hm => absurd hm (Nat.not_lt_zero _)
  | 0, k, hb, n + 1, m + 1, hn, hm => by
    unfold chN
    cases e : supOf cs k with
    | none => rfl
    | some j =>
      have := h k j e
      omega
  | b + 1, k, hb, n + 1, m + 1, hn, hm => by
    unfold chN
    cases e : supOf cs k with
    | none => rfl
    | some j =>
      have := h k j e
      show k :: chN cs n j = k :: chN cs m j
      rw [chN_any h b j (by omega) n m (by omega) (by omega)]
theorem chn_eq {cs : Cts} (h : Hier cs) (k : Nat) : chn cs k = k :: (match supOf cs k with
    | none => []
    | some j => chn cs j) := by
  show chN cs (k + 1) k = _
  unfold chN
  cases e : supOf cs k with
  | none => rfl
  | some j =>
    have := h k j e
    show k :: chN cs k j = k :: chN cs (j + 1) j
    rw [chN_any h j j (Nat.le_refl _) k (j + 1) this (by omega)]
theorem chn_none {cs : Cts} (h : Hier cs) {k : Nat} (e : supOf cs k = none) : chn cs k = [k] := by rw [chn_eq h, e]
theorem chn_some {cs : Cts} (h : Hier cs) {k j : Nat} (e : supOf cs k = some j) : chn cs k = k :: chn cs j := by rw [chn_eq h, e]
theorem chn_le {cs : Cts} (h : Hier cs) : ∀ b k, k ≤ b → (chn cs k).length ≤ k + 1 ∧ ∀ x ∈ chn cs k, x ≤ k
  | b, k, hb => by
    cases e : supOf cs k with
    | none =>
      rw [chn_none h e]
      exact ⟨by simp, fun x hx => by rw [List.mem_singleton.mp hx]; exact Nat.le_refl _⟩
    | some j =>
      have hj := h k j e
      rw [chn_some h e]
      cases b with
      | zero => omega
      | succ b =>
        obtain ⟨h1, h2⟩ := chn_le h b j (by omega)
        refine ⟨by rw [List.length_cons]; omega, fun x hx => ?_⟩
        rcases List.mem_cons.mp hx with hx | hx
        · omega
        · have := h2 x hx
          omega
theorem ct_at {cs : Cts} {k : Nat} (h : k < cs.length) : ∃ rest, atI (cs.map ctD) (k : Int) = some (.tup (supD (supOf cs k) :: rest)) := by
  refine ⟨cs[k].2, ?_⟩
  rw [atI_map, atI_at h]
  unfold supOf
  rw [List.getElem?_eq_getElem h]
  rfl

structure Co where
  b : Nat
  f : Nat
  l : Bool
  a : Int
  d : Int
  x : Bool
  y : Int
def Co.rest (q : Co) : List D := [.int (q.b : Int), .int (q.f : Int), .bl q.l, .int q.a, .int q.d, .bl q.x, .int q.y]
structure Co.ok (q : Co) : Prop where
  b1 : 1 ≤ q.b
  b2 : q.b ≤ 9
  f1 : 1 ≤ q.f
  f2 : q.f ≤ 9
  a0 : 0 ≤ q.a
def RestOk (r : List D) : Prop := ∃ q : Co, r = q.rest ∧ q.ok
abbrev C2 := Option Nat × Co
def c2D (c : C2) : D := .tup (supD c.1 :: c.2.rest)
theorem cts_c2 : ∀ {cs : Cts}, (∀ c ∈ cs, RestOk c.2) → ∃ l : List C2, cs.map ctD = l.map c2D ∧ l.length = cs.length ∧ ∀ c ∈ l, c.2.ok
  | [], _ => ⟨[], rfl, rfl, nofun⟩
  | c :: cs, h => by
    obtain ⟨q, e, ok⟩ := h c List.mem_cons_self
    obtain ⟨l, e1, e2, e3⟩ := cts_c2 (cs := cs) fun x hx => h x (List.mem_cons_of_mem _ hx)
    refine ⟨(c.1, q) :: l, ?_, by rw [List.length_cons, List.length_cons, e2], fun x hx => ?_⟩
    · rw [List.map_cons, List.map_cons, e1]
      unfold ctD c2D
      rw [e]
    · rcases List.mem_cons.mp hx with rfl | hx
      · exact ok
      · exact e3 x hx
def pD : Option (Int × Bool) → D
  | none => .non
  | some (k, b) => .tup [.int k, .bl b]
structure Ma where
  l : Bool
  m : Int
  a : Int
  p : Option (Int × Bool)
def Ma.row (q : Ma) (t : List D) : List D := .bl q.l :: .int q.m :: .int q.a :: pD q.p :: t
def Ma.d (q : Ma) : D := .tup (q.row [])
def Ma.ok (q : Ma) : Prop := 0 ≤ q.m ∧ q.m < 3
def revB (q : Co) (l : Bool) (a : Int) : Bool := decide (q.a ≤ a) && (l || q.l)
def benchF (q : Co) (p : Option (Int × Bool)) (lv : Int) (fd : Bool) : Option Nat := match p with
  | none => some q.b
  | some (k, b) => if fd = b ∨ lv > k then some q.b else if lv = k then some q.f else none
def nD : Option Nat → D
  | none => .non
  | some n => .int (n : Int)
def needV (q : Co) (ma : Ma) (lv : Int) (fd : Bool) : Option Int := (benchF q ma.p lv fd).map fun n => if fd then (needF ma.m n : Nat) else (n : Int) + 1 - (needF ma.m n : Nat)
theorem benchF_ok {q : Co} (h : q.ok) {p : Option (Int × Bool)} {lv : Int} {fd : Bool} {n : Nat} (e : benchF q p lv fd = some n) : 1 ≤ n ∧ n ≤ 9 := by
  have := h.b1
  have := h.b2
  have := h.f1
  have := h.f2
  unfold benchF at e
  split at e
  · cases e
    omega
  · split at e
    · cases e
      omega
    · split at e
      · cases e
        omega
      · cases e
theorem benchF_same {q : Co} {k lv : Int} {b fd : Bool} (h : fd = b) : benchF q (some (k, b)) lv fd = some q.b := if_pos (.inl h)
theorem benchF_over {q : Co} {k lv : Int} {b fd : Bool} (h : lv > k) : benchF q (some (k, b)) lv fd = some q.b := if_pos (.inr h)
theorem benchF_at {q : Co} {k lv : Int} {b fd : Bool} (h : fd ≠ b) (h2 : lv = k) : benchF q (some (k, b)) lv fd = some q.f := (if_neg fun z => z.elim h fun e => by omega).trans (if_pos h2)
theorem benchF_under {q : Co} {k lv : Int} {b fd : Bool} (h : fd ≠ b) (h2 : lv < k) : benchF q (some (k, b)) lv fd = none := (if_neg fun z => z.elim h fun e => by omega).trans (if_neg (by omega))
theorem needV_of {q : Co} {ma : Ma} {lv : Int} {fd : Bool} {n : Nat} (e : benchF q ma.p lv fd = some n) : needV q ma lv fd = some (if fd then ((needF ma.m n : Nat) : Int) else (n : Int) + 1 - (needF ma.m n : Nat)) := by
  unfold needV
  rw [e]
  rfl
theorem needV_no {q : Co} {ma : Ma} {lv : Int} {fd : Bool} (e : benchF q ma.p lv fd = none) : needV q ma lv fd = none := by
  unfold needV
  rw [e]
  rfl
def levF (okl : Nat → Bool) : Nat → Nat → List Nat
  | 0, _ => []
  | n + 1, lv => if okl lv then lv :: levF okl n (lv + 1) else []
def row10 (cs : List C2) (ch : List Nat) (ma : Ma) (lv : Nat) (top : Int) (co : C2) (w : List Nat) : List D := .tup (cs.map c2D) :: .tup (ch.map nI) :: ma.row [.int (lv : Int), .int top, c2D co, .str (ofL w)]
theorem cD_eq : cD = oD := funext fun o => by cases o <;> rfl
end Dl

/-! Dl: events on a clock. -/
namespace Dl
open PySem L2
inductive Ev where
  | att (m : Mt)
  | ret (n : Nat)
  | stay (s : Sy)
def evD : Ev → D
  | .att m => .tup [.str (Str.ofString "attempt"), .str m.s]
  | .ret n => .tup [.str (Str.ofString "return"), .int (n : Int)]
  | .stay s => .tup [.str (Str.ofString "stay"), .int s.1, .int s.2]
def okEv : Ev → Prop
  | .att _ => True
  | .ret _ => True
  | .stay s => okSy s
def mayRet (r : Ru) (day : Int) (a : At) : Bool := decide (a.m = .post) && (!a.u && decide (day < r.eff a))
def allow (r : Ru) (b : Bool) (n : Nat) (c : Ck) (day : Int) : Ev → Bool
  | .att _ => decide (day ≤ r.own b n c)
  | .stay s => decide (day ≤ s.1)
  | .ret k => match c.ats[k]? with
    | some a => mayRet r day a
    | none => false
def Ck.move (c : Ck) (day : Int) : Ev → Ck
  | .att m => ⟨c.j, c.ats ++ [⟨day, m, false⟩], c.ss, c.f⟩
  | .stay s => ⟨c.j, c.ats, c.ss ++ [s], c.f⟩
  | .ret k => ⟨c.j, c.ats.set k ⟨(c.ats.getD k at0).d, (c.ats.getD k at0).m, true⟩, c.ss, c.f⟩
def Ck.step (c : Ck) (r : Ru) (b : Bool) (n : Nat) (day : Int) (e : Ev) : Ck := if allow r b n c day e then c.move day e else c
theorem allow_ret {r : Ru} {b : Bool} {n : Nat} {c : Ck} {day : Int} {k : Nat} (h : allow r b n c day (.ret k) = true) : ∃ a, c.ats[k]? = some a ∧ a ∈ c.ats ∧ a.m = .post ∧ a.u = false ∧ day < r.eff a := by
  unfold allow at h
  dsimp only at h
  cases e : c.ats[k]? with
  | none =>
    rw [e] at h
    cases h
  | some a =>
    rw [e] at h
    unfold mayRet at h
    simp only [Bool.and_eq_true, decide_eq_true_eq, Bool.not_eq_true'] at h
    exact ⟨a, rfl, List.mem_of_getElem? e, h.1, h.2.1, h.2.2⟩
/-- served after an event -/
theorem served_att {r : Ru} {ats : List At} {a : At} {s : Int} (e : r.served ats = some s) : ∃ t, r.served (ats ++ [a]) = some t ∧ t ≤ s :=
  Ru.served_sub (fun x hx => List.mem_append_left _ hx) e
theorem mem_set_live {ats : List At} {k : Nat} {y x : At} (h : x ∈ ats.set k y) (hu : y.u = true) (hx : x.u = false) : x ∈ ats := by
  rcases List.mem_or_eq_of_mem_set h with h | h
  · exact h
  · rw [h, hu] at hx
    cases hx
theorem served_ret {r : Ru} {ats : List At} {k : Nat} {y : At} {t : Int} (hu : y.u = true) (e : r.served (ats.set k y) = some t) : ∃ s, r.served ats = some s ∧ s ≤ t := by
  obtain ⟨⟨x, hx, hxu, rfl⟩, _⟩ := Ru.served_iff.mp e
  have hx := mem_set_live hx hu hxu
  cases e2 : r.served ats with
  | none =>
    have := Ru.served_none.mp e2 x hx
    rw [hxu] at this
    cases this
  | some s => exact ⟨s, rfl, (Ru.served_iff.mp e2).2 x hx hxu⟩
/-- a late attempt that comes back does not move the day of service -/
theorem served_late {r : Ru} {ats : List At} {k : Nat} {a y : At} {s : Int} (e : r.served ats = some s) (ha : ats[k]? = some a) (hl : s < r.eff a) (hu : y.u = true) : r.served (ats.set k y) = some s := by
  obtain ⟨⟨x, hx, hxu, e1⟩, h2⟩ := Ru.served_iff.mp e
  refine Ru.served_iff.mpr ⟨⟨x, ?_, hxu, e1⟩, fun z hz hzu => h2 z (mem_set_live hz hu hzu) hzu⟩
  obtain ⟨i, hi⟩ := List.mem_iff_getElem?.mp hx
  have ne : k ≠ i := fun q => by
    subst q
    rw [ha] at hi
    cases hi
    omega
  exact List.mem_of_getElem? (by rw [List.getElem?_set_ne ne]; exact hi)
theorem styd_snoc (ss : List Sy) (s : Sy) (x : Int) : styd (ss ++ [s]) x = (styd ss x || styd [s] x) := List.any_append
/-- one more stay moves no end back -/
theorem term_stay {k : Kal} {ss : List Sy} {s : Sy} {b : Bool} {d : Int} {n : Nat} (h : k.ok) (hs : ∀ x ∈ ss ++ [s], okSy x) (h1 : 1 ≤ n) (hn : n ≤ 60) (hd : 0 ≤ d) : k.term ss b d n ≤ k.term (ss ++ [s]) b d n := by
  have hs0 : ∀ x ∈ ss, okSy x := fun x hx => hs x (List.mem_append_left _ hx)
  have t := term_yes (b := b) h hs hd h1 hn
  refine (term_le_iff h hs0 h1 hn hd).mpr ⟨_, term_ge, Int.le_refl _, ?_, ?_⟩
  · refine Nat.le_trans t.1 ?_
    refine cntP_mono fun m _ _ hm => ?_
    unfold Kal.counts at hm ⊢
    rw [styd_snoc] at hm
    simp only [Bool.and_eq_true, Bool.not_eq_true', Bool.or_eq_false_iff] at hm ⊢
    exact ⟨hm.1.1, hm.2⟩
  · have := t.2
    unfold Kal.mayEnd at this ⊢
    rw [styd_snoc] at this
    simp only [Bool.and_eq_true, Bool.not_eq_true', Bool.or_eq_false_iff] at this ⊢
    exact ⟨this.1, this.2.1⟩
theorem Ru.per_le {r : Ru} {b : Bool} {n : Nat} {c c' : Ck} (h1 : r.own b n c ≤ r.own b n c') (h2 : ∀ x, r.crs c = some x → ∃ y, r.crs c' = some y ∧ x ≤ y) : r.per b n c ≤ r.per b n c' := by
  cases e : r.crs c with
  | none =>
    rw [Ru.per_none e]
    cases e' : r.crs c' with
    | none =>
      rw [Ru.per_none e']
      exact h1
    | some y =>
      rw [Ru.per_some e']
      split <;> omega
  | some x =>
    obtain ⟨y, e', hy⟩ := h2 x e
    rw [Ru.per_some e, Ru.per_some e']
    split <;> split <;> omega
theorem Ru.crs_same {r : Ru} {c c' : Ck} (h1 : c'.ss = c.ss) (h2 : c'.f = c.f) : r.crs c' = r.crs c := by
  unfold Ru.crs
  rw [h1, h2]
theorem own_le_per {r : Ru} {b : Bool} {n : Nat} {c : Ck} : r.own b n c ≤ r.per b n c := by
  cases e : r.crs c with
  | none =>
    rw [Ru.per_none e]
    exact Int.le_refl _
  | some x =>
    rw [Ru.per_some e]
    split <;> omega
theorem crs_le_per {r : Ru} {b : Bool} {n : Nat} {c : Ck} {x : Int} (e : r.crs c = some x) : x ≤ r.per b n c := by
  rw [Ru.per_some e]
  split <;> omega
section
variable {r : Ru} {b : Bool} {n : Nat} {c : Ck} {day : Int}
theorem own_stay {s : Sy} (h : r.ok) (ok : c.ok) (hs : okSy s) (h1 : 1 ≤ n) (hn : n ≤ 60) : r.own b n c ≤ r.own b n (c.move day (.stay s)) := by
  have so : ∀ x ∈ c.ss ++ [s], okSy x := fun x hx => by
    rcases List.mem_append.mp hx with hx | hx
    · exact ok.so x hx
    · rw [List.mem_singleton.mp hx]
      exact hs
  cases e : r.served c.ats with
  | none =>
    rw [Ru.own_none e, Ru.own_none (c := c.move day (.stay s)) e]
    exact Int.le_refl _
  | some t =>
    rw [Ru.own_some e, Ru.own_some (c := c.move day (.stay s)) e]
    exact term_stay h.kal so h1 hn (Ru.served_ge h ok.ao e).1
theorem per_stay {s : Sy} (h : r.ok) (ok : c.ok) (hs : okSy s) (h1 : 1 ≤ n) (hn : n ≤ 60) : r.per b n c ≤ r.per b n (c.move day (.stay s)) := by
  have so : ∀ x ∈ c.ss ++ [s], okSy x := fun x hx => by
    rcases List.mem_append.mp hx with hx | hx
    · exact ok.so x hx
    · rw [List.mem_singleton.mp hx]
      exact hs
  have := h.c2
  refine Ru.per_le (own_stay h ok hs h1 hn) fun x e => ?_
  cases f : c.f with
  | none =>
    rw [Ru.crs_none f] at e
    cases e
  | some z =>
    rw [Ru.crs_some f] at e
    cases e
    exact ⟨_, Ru.crs_some (c := c.move day (.stay s)) f, term_stay h.kal so h.c1 (by omega) (ok.fo z f).1⟩
theorem own_att {m : Mt} (h : r.ok) (ok : c.ok) (hd : 0 ≤ day ∧ day ≤ 400) (h1 : 1 ≤ n) (hn : n ≤ 60) (hs : r.served c.ats ≠ none) : r.own b n (c.move day (.att m)) ≤ r.own b n c := by
  have ao : ∀ x ∈ c.ats ++ [(⟨day, m, false⟩ : At)], okAt x := fun x hx => by
    rcases List.mem_append.mp hx with hx | hx
    · exact ok.ao x hx
    · rw [List.mem_singleton.mp hx]
      exact hd
  cases e : r.served c.ats with
  | none => exact absurd e hs
  | some s =>
    obtain ⟨t, e2, ht⟩ := served_att (a := ⟨day, m, false⟩) e
    rw [Ru.own_some e, Ru.own_some (c := c.move day (.att m)) e2]
    exact term_mono h.kal ok.so h1 hn (Ru.served_ge h ao e2).1 ht
theorem per_att {m : Mt} (h : r.ok) (ok : c.ok) (hd : 0 ≤ day ∧ day ≤ 400) (h1 : 1 ≤ n) (hn : n ≤ 60) (hs : r.served c.ats ≠ none) : r.per b n (c.move day (.att m)) ≤ r.per b n c :=
  Ru.per_le (own_att h ok hd h1 hn hs) fun x e => ⟨x, by rw [← e]; exact Ru.crs_same rfl rfl, Int.le_refl _⟩
theorem okAt_set (ok : c.ok) {k : Nat} : ∀ x ∈ c.ats.set k ⟨(c.ats.getD k at0).d, (c.ats.getD k at0).m, true⟩, okAt x := fun x hx => by
  rcases List.mem_or_eq_of_mem_set hx with hx | rfl
  · exact ok.ao x hx
  · show 0 ≤ (c.ats.getD k at0).d ∧ (c.ats.getD k at0).d ≤ 400
    rw [List.getD_eq_getElem?_getD]
    cases e : c.ats[k]? with
    | none => exact ⟨Int.le_refl _, by decide⟩
    | some a => exact ok.ao a (List.mem_of_getElem? e)
theorem own_ret {k : Nat} (h : r.ok) (ok : c.ok) (h1 : 1 ≤ n) (hn : n ≤ 60) (hs : r.served (c.move day (.ret k)).ats ≠ none) : r.own b n c ≤ r.own b n (c.move day (.ret k)) := by
  cases e : r.served (c.move day (.ret k)).ats with
  | none => exact absurd e hs
  | some t =>
    obtain ⟨s, e2, ht⟩ := served_ret rfl e
    rw [Ru.own_some e2, Ru.own_some e]
    exact term_mono h.kal ok.so h1 hn (Ru.served_ge h ok.ao e2).1 ht
theorem per_ret {k : Nat} (h : r.ok) (ok : c.ok) (h1 : 1 ≤ n) (hn : n ≤ 60) (hs : r.served (c.move day (.ret k)).ats ≠ none) : r.per b n c ≤ r.per b n (c.move day (.ret k)) :=
  Ru.per_le (own_ret h ok h1 hn hs) fun x e => ⟨x, by rw [← e]; exact Ru.crs_same rfl rfl, Int.le_refl _⟩
theorem term_past {k : Kal} {ss : List Sy} {s : Sy} {b : Bool} {d : Int} {n : Nat} (h : k.ok) (hs : ∀ x ∈ ss ++ [s], okSy x) (h1 : 1 ≤ n) (hn : n ≤ 60) (hd : 0 ≤ d) (hp : k.term ss b d n < s.1) : k.term (ss ++ [s]) b d n = k.term ss b d n :=
  term_local h (fun x hx => hs x (List.mem_append_left _ hx)) h hs hd h1 hn fun x _ x2 => ⟨rfl, by
    rw [styd_snoc]
    have : styd [s] x = false := by
      show (([s] : List Sy).any fun q => decide (q.1 ≤ x) && decide (x ≤ q.2)) = false
      simp
      omega
    rw [this, Bool.or_false]⟩
/-- an end that is past stands -/
theorem own_past {e : Ev} (h : r.ok) (ok : c.ok) (he : okEv e) (h1 : 1 ≤ n) (hn : n ≤ 60) (hp : r.own b n c < day) (ha : allow r b n c day e = true) : r.own b n (c.move day e) = r.own b n c := by
  cases e with
  | att m =>
    unfold allow at ha
    simp only [decide_eq_true_eq] at ha
    omega
  | stay s =>
    have so : ∀ x ∈ c.ss ++ [s], okSy x := fun x hx => by
      rcases List.mem_append.mp hx with hx | hx
      · exact ok.so x hx
      · rw [List.mem_singleton.mp hx]
        exact he
    unfold allow at ha
    simp only [decide_eq_true_eq] at ha
    cases e : r.served c.ats with
    | none => rw [Ru.own_none e, Ru.own_none (c := c.move day (.stay s)) e]; rfl
    | some t =>
      rw [Ru.own_some e] at hp ⊢
      rw [Ru.own_some (c := c.move day (.stay s)) e]
      exact term_past h.kal so h1 hn (Ru.served_ge h ok.ao e).1 (by omega)
  | ret k =>
    obtain ⟨a, e1, e2, e3, e4, e5⟩ := allow_ret ha
    cases e : r.served c.ats with
    | none =>
      have := Ru.served_none.mp e a e2
      rw [e4] at this
      cases this
    | some s =>
      rw [Ru.own_some e] at hp ⊢
      have g := term_gt (b := b) h.kal ok.so (Ru.served_ge h ok.ao e).1 h1 hn
      rw [Ru.own_some (c := c.move day (.ret k)) (served_late e e1 (by omega) rfl)]
      rfl
theorem per_past {e : Ev} (h : r.ok) (ok : c.ok) (he : okEv e) (h1 : 1 ≤ n) (hn : n ≤ 60) (hp : r.per b n c < day) (ha : allow r b n c day e = true) : r.per b n (c.move day e) = r.per b n c := by
  have ho := own_le_per (r := r) (b := b) (n := n) (c := c)
  have c2 := h.c2
  have o := own_past h ok he h1 hn (by omega) ha
  have cr : r.crs (c.move day e) = r.crs c := by
    cases e with
    | att m => exact Ru.crs_same rfl rfl
    | ret k => exact Ru.crs_same rfl rfl
    | stay s =>
      have so : ∀ x ∈ c.ss ++ [s], okSy x := fun x hx => by
        rcases List.mem_append.mp hx with hx | hx
        · exact ok.so x hx
        · rw [List.mem_singleton.mp hx]
          exact he
      unfold allow at ha
      simp only [decide_eq_true_eq] at ha
      cases f : c.f with
      | none => rw [Ru.crs_none f, Ru.crs_none (c := c.move day (.stay s)) f]
      | some z =>
        have le := crs_le_per (b := b) (n := n) (Ru.crs_some (r := r) f)
        rw [Ru.crs_some f, Ru.crs_some (c := c.move day (.stay s)) f]
        exact congrArg some (term_past h.kal so h.c1 (by omega) (ok.fo z f).1 (by omega))
  cases q : r.crs c with
  | none => rw [Ru.per_none q, Ru.per_none (cr.trans q), o]
  | some x => rw [Ru.per_some q, Ru.per_some (cr.trans q), o]
end
def row15 (r : Ru) (z : Bool) (n : Nat) (ck : Ck) (day : Int) (e : Ev) : List D := r.row (.str (kindS z) :: .int (n : Int) :: ck.row [.int day, evD e])
section
variable {a b c d e f g h i j k l m n o : D}
theorem cut15 : cutD [a, b, c, d, e, f, g, h, i, j, k, l, m, n, o] (some 9) (some 13) = [j, k, l, m] := rfl
theorem cut15_7 : cutD [a, b, c, d, e, f, g, h, i, j, k, l, m, n, o] none (some 7) = [a, b, c, d, e, f, g] := rfl
theorem at15_13 : atI [a, b, c, d, e, f, g, h, i, j, k, l, m, n, o] 13 = some n := rfl
theorem at15_14 : atI [a, b, c, d, e, f, g, h, i, j, k, l, m, n, o] 14 = some o := rfl
end
theorem own_ge {r : Ru} {b : Bool} {n : Nat} {c : Ck} (h : r.ok) (ok : c.ok) (h1 : 1 ≤ n) (hn : n ≤ 60) : 0 ≤ r.own b n c := by
  have s1 := h.s1
  have j0 := ok.j0
  cases e : r.served c.ats with
  | none =>
    rw [Ru.own_none e]
    omega
  | some s =>
    rw [Ru.own_some e]
    have := (Ru.served_ge h ok.ao e).1
    have := term_ge (k := r.k) (ss := c.ss) (b := b) (d := s) (n := n)
    omega
theorem step_ok {r : Ru} {b : Bool} {n : Nat} {c : Ck} {day : Int} {e : Ev} (ok : c.ok) (he : okEv e) (hd : 0 ≤ day ∧ day ≤ 400) (la : c.ats.length ≤ 400) (ls : c.ss.length ≤ 400) : (c.step r b n day e).ok ∧ (c.step r b n day e).ats.length ≤ c.ats.length + 1 ∧ (c.step r b n day e).ss.length ≤ c.ss.length + 1 ∧ (c.step r b n day e).j = c.j := by
  unfold Ck.step
  split
  · cases e with
    | att m =>
      unfold Ck.move
      refine ⟨⟨ok.j0, ?_, ?_, ok.sl, ok.so, ok.fo⟩, ?_, by show c.ss.length ≤ _; omega, rfl⟩
      · show (c.ats ++ [_]).length ≤ 500
        rw [List.length_append, List.length_singleton]
        omega
      · intro x hx
        rcases List.mem_append.mp hx with hx | hx
        · exact ok.ao x hx
        · rw [List.mem_singleton.mp hx]
          exact hd
      · show (c.ats ++ [_]).length ≤ _
        rw [List.length_append, List.length_singleton]
        omega
    | stay s =>
      unfold Ck.move
      refine ⟨⟨ok.j0, ok.al, ok.ao, ?_, ?_, ok.fo⟩, by show c.ats.length ≤ _; omega, ?_, rfl⟩
      · show (c.ss ++ [_]).length ≤ 500
        rw [List.length_append, List.length_singleton]
        omega
      · intro x hx
        rcases List.mem_append.mp hx with hx | hx
        · exact ok.so x hx
        · rw [List.mem_singleton.mp hx]
          exact he
      · show (c.ss ++ [_]).length ≤ _
        rw [List.length_append, List.length_singleton]
        omega
    | ret k =>
      unfold Ck.move
      refine ⟨⟨ok.j0, ?_, okAt_set ok, ok.sl, ok.so, ok.fo⟩, ?_, by show c.ss.length ≤ _; omega, rfl⟩
      · show (c.ats.set _ _).length ≤ 500
        rw [List.length_set]
        omega
      · show (c.ats.set _ _).length ≤ _
        rw [List.length_set]
        omega
  · exact ⟨ok, by omega, by omega, rfl⟩
theorem ck_mix2 {c1 c2 : Ck} {m : Nat} (o1 : c1.ok) (o2 : c2.ok) (a1 : c1.ats.length ≤ m) (a2 : c2.ats.length ≤ m) (b1 : c1.ss.length ≤ m) (b2 : c2.ss.length ≤ m) {t1 t2 rs : List D} (hl : rs.length = (c1.row t1).length) (h : ∀ i : Nat, rs[i]? = (c1.row t1)[i]? ∨ rs[i]? = (c2.row t2)[i]?) :
    ∃ (c : Ck) (us : List D), rs = c.row us ∧ c.ok ∧ us.length = t1.length ∧ (∀ i : Nat, us[i]? = t1[i]? ∨ us[i]? = t2[i]?) ∧ c.ats.length ≤ m ∧ c.ss.length ≤ m := by
  unfold Ck.row at *
  obtain ⟨u1, rs, rfl, h1, hl2, g2⟩ := mix_cons hl h
  obtain ⟨u2, rs, rfl, h2, hl3, g3⟩ := mix_cons hl2 g2
  obtain ⟨u3, rs, rfl, h3, hl4, g4⟩ := mix_cons hl3 g3
  obtain ⟨u4, rs, rfl, h4, hl5, g5⟩ := mix_cons hl4 g4
  obtain ⟨j, rfl, j0⟩ : ∃ c : Int, u1 = .int c ∧ 0 ≤ c := by
    rcases h1 with rfl | rfl
    · exact ⟨_, rfl, o1.j0⟩
    · exact ⟨_, rfl, o2.j0⟩
  obtain ⟨a, rfl, x1, x2, x3⟩ : ∃ a : List At, u2 = .tup (a.map atD) ∧ a.length ≤ 500 ∧ (∀ x ∈ a, okAt x) ∧ a.length ≤ m := by
    rcases h2 with rfl | rfl
    · exact ⟨_, rfl, o1.al, o1.ao, a1⟩
    · exact ⟨_, rfl, o2.al, o2.ao, a2⟩
  obtain ⟨s, rfl, s1, s2, s3⟩ : ∃ a : List Sy, u3 = .tup (a.map stD) ∧ a.length ≤ 500 ∧ (∀ x ∈ a, okSy x) ∧ a.length ≤ m := by
    rcases h3 with rfl | rfl
    · exact ⟨_, rfl, o1.sl, o1.so, b1⟩
    · exact ⟨_, rfl, o2.sl, o2.so, b2⟩
  obtain ⟨f, rfl, fo⟩ : ∃ f : Option Int, u4 = oD f ∧ ∀ x, f = some x → 0 ≤ x ∧ x ≤ 400 := by
    rcases h4 with rfl | rfl
    · exact ⟨_, rfl, o1.fo⟩
    · exact ⟨_, rfl, o2.fo⟩
  exact ⟨⟨j, a, s, f⟩, rs, rfl, ⟨j0, x1, x2, s1, s2, fo⟩, hl5, g5, x3, s3⟩
end Dl

/-! Dl: is not True, is not False. -/
namespace Dl
open PySem L2 PySem.W
def rIsnBool : R2 := fun x y H Q => ∃ b : Bool, y = .bl b ∧ ∃ a : Bool, x = .bl a ∧ Q (.bl (!decide (a = b))) H
theorem op_isnBool {X : Cx} : OpR X (compareOp .IsNot) rIsnBool := by
  intro pins s σ H x y v u Q I rx ry h
  obtain ⟨b, rfl, a, rfl, q⟩ := h
  cases (show v = Value.bool a from rx)
  cases (show u = Value.bool b from ry)
  refine wpAny_isNot_plain rfl ⟨.bl (!decide (a = b)), H, I, ?_, q⟩
  cases a <;> cases b <;> rfl
def isnBR : R2D
  | .bl a, .bl b, P => P (.bl (!decide (a = b)))
  | _, _, _ => False
theorem ev_isnB {a b : Bool} {P : D → Prop} : isnBR (.bl a) (.bl b) P = P (.bl (!decide (a = b))) := rfl
theorem os_isnB {K : PySem.W.Frag} : OpS K rIsnBool isnBR := fun F H a b x y P Q e ha hb h k => by
  cases b with
  | bl b =>
    rw [bl_v hb]
    cases a with
    | bl a =>
      rw [bl_v ha]
      exact ⟨b, rfl, a, rfl, k _ _ F H h (stay (P := True)) rB_⟩
    | _ => exact h.elim
  | _ => cases a <;> exact h.elim
end Dl

/-! Dl: terms over stays of which one single day may lie late. -/
namespace Dl
open PySem L2
def LateS (ss : List Sy) : Prop := ∃ x : Int, ∀ d : Int, 400 < d → d ≠ x → styd ss d = false
theorem late_of {ss : List Sy} (h : ∀ s ∈ ss, okSy s) : LateS ss := ⟨0, fun d hd _ => styd_late h hd⟩
theorem late_snoc {ss : List Sy} (h : ∀ s ∈ ss, okSy s) (x : Int) : LateS (ss ++ [(x, x)]) := ⟨x, fun d hd ne => by
  rw [styd_snoc, styd_late h hd]
  show (([(x, x)] : List Sy).any fun q => decide (q.1 ≤ d) && decide (d ≤ q.2)) = false
  simp
  omega⟩
theorem cntP_but {p : Int → Bool} {x f : Int} (n : Nat) : cntP p f (f + n) ≤ cntP (fun y => p y && decide (y ≠ x)) f (f + n) + (if f < x ∧ x ≤ f + n then 1 else 0) := by
  induction n with
  | zero =>
    rw [cntP_zero (by omega)]
    exact Nat.zero_le _
  | succ n ih =>
    have e : f + ((n + 1 : Nat) : Int) = f + (n : Int) + 1 := by omega
    rw [e, cntP_succ (by omega), cntP_succ (by omega)]
    by_cases q : f + (n : Int) + 1 = x
    · rw [if_pos (show f < x ∧ x ≤ f + (n : Int) + 1 by omega)]
      rw [if_neg (show ¬ (f < x ∧ x ≤ f + (n : Int)) by omega)] at ih
      split <;> split <;> omega
    · have h2 : (if f < x ∧ x ≤ f + (n : Int) + 1 then 1 else 0) = (if f < x ∧ x ≤ f + (n : Int) then (1 : Nat) else 0) := by
        by_cases z : f < x ∧ x ≤ f + (n : Int)
        · rw [if_pos z, if_pos (by omega)]
        · rw [if_neg z, if_neg (by omega)]
      rw [h2]
      have h3 : (p (f + (n : Int) + 1) && decide (f + (n : Int) + 1 ≠ x)) = p (f + (n : Int) + 1) := by
        rw [decide_eq_true q, Bool.and_true]
      rw [h3]
      omega
section
variable {k : Kal} {ss : List Sy} {b : Bool} {d : Int} {n : Nat}
theorem term_hitL (h : k.ok) (hs : LateS ss) (hd : 0 ≤ d) (h1 : 1 ≤ n) (hn : n ≤ 60) : ∃ e, d ≤ e ∧ e < d + 900 ∧ n ≤ cntP (k.counts ss b) d e ∧ k.mayEnd ss e = true := by
  obtain ⟨x, hx⟩ := hs
  obtain ⟨m, hm⟩ : ∃ m : Int, m = if d < 400 then 400 else d := ⟨_, rfl⟩
  have m1 : d ≤ m ∧ 400 ≤ m ∧ m ≤ d + 400 := by rw [hm]; split <;> omega
  have a0 := k.after_ge (d := m) n
  have a1 := k.after_lt (d := m) n
  have a2 := Kal.after_le h m (n + 1)
  have a3 := Kal.after_cnt h m n
  have a4 := Kal.after_cnt h m (n + 1)
  have w : ∀ j, 1 ≤ j → k.works (k.after m j) = true := fun j hj => by
    obtain ⟨j, rfl⟩ : ∃ i, j = i + 1 := ⟨j - 1, by omega⟩
    exact Kal.next_works h _
  by_cases q : k.after m (n + 1) = x
  · refine ⟨k.after m n, by omega, by omega, ?_, ?_⟩
    · refine Nat.le_trans ?_ (cntP_sub (b := m) (by omega) (by omega))
      refine Nat.le_trans (Nat.le_of_eq a3.symm) ?_
      rw [Kal.cnt_eq]
      refine cntP_mono fun y y1 y2 hy => ?_
      unfold Kal.counts
      rw [hx y (by omega) (by omega), hy]
      simp
    · unfold Kal.mayEnd
      rw [hx _ (by omega) (by omega), w n h1]
      rfl
  · refine ⟨k.after m (n + 1), by omega, by omega, ?_, ?_⟩
    · refine Nat.le_trans ?_ (cntP_sub (b := m) (by omega) (by omega))
      obtain ⟨j, hj⟩ := Int.eq_ofNat_of_zero_le (show 0 ≤ k.after m (n + 1) - m by omega)
      have but := cntP_but (p := k.works) (x := x) (f := m) j
      rw [show m + (j : Int) = k.after m (n + 1) by omega, ← Kal.cnt_eq, a4] at but
      have c1 : cntP (fun y => k.works y && decide (y ≠ x)) m (k.after m (n + 1)) ≤ cntP (k.counts ss b) m (k.after m (n + 1)) := cntP_mono fun y y1 y2 hy => by
        simp only [Bool.and_eq_true, decide_eq_true_eq] at hy
        unfold Kal.counts
        rw [hx y (by omega) hy.2, hy.1]
        simp
      have : (if m < x ∧ x ≤ k.after m (n + 1) then 1 else 0) ≤ (1 : Nat) := by split <;> omega
      omega
    · unfold Kal.mayEnd
      rw [hx _ (by omega) q, w (n + 1) (by omega)]
      rfl
theorem term_yesL (h : k.ok) (hs : LateS ss) (hd : 0 ≤ d) (h1 : 1 ≤ n) (hn : n ≤ 60) : n ≤ cntP (k.counts ss b) d (k.term ss b d n) ∧ k.mayEnd ss (k.term ss b d n) = true := by
  obtain ⟨e, e1, e2, e3, e4⟩ := term_hitL (b := b) h hs hd h1 hn
  have := upB_yes (fun e => decide (n ≤ cntP (k.counts ss b) d e) && k.mayEnd ss e) 900 d e e1 e2 (by simp [e3, e4])
  simp only [Bool.and_eq_true, decide_eq_true_eq] at this
  exact this
theorem term_ltL (h : k.ok) (hs : LateS ss) (hd : 0 ≤ d) (h1 : 1 ≤ n) (hn : n ≤ 60) : k.term ss b d n < d + 900 := by
  obtain ⟨e, e1, e2, e3, e4⟩ := term_hitL (b := b) h hs hd h1 hn
  rcases Int.lt_or_le e (k.term ss b d n) with q | q
  · have := term_no e1 q
    simp [e3, e4] at this
  · omega
theorem term_eqL (h : k.ok) (hs : LateS ss) (hd : 0 ≤ d) (h1 : 1 ≤ n) (hn : n ≤ 60) {e : Int} (e1 : d ≤ e) (e2 : n ≤ cntP (k.counts ss b) d e) (e3 : k.mayEnd ss e = true) (e4 : ∀ m, d ≤ m → m < e → (decide (n ≤ cntP (k.counts ss b) d m) && k.mayEnd ss m) = false) : k.term ss b d n = e := by
  obtain ⟨t1, t2⟩ := term_yesL (b := b) h hs hd h1 hn
  rcases Int.lt_trichotomy (k.term ss b d n) e with q | q | q
  · have := e4 _ term_ge q
    simp [t1, t2] at this
  · exact q
  · have := term_no e1 q
    simp [e2, e3] at this
theorem term_gtL (h : k.ok) (hs : LateS ss) (hd : 0 ≤ d) (h1 : 1 ≤ n) (hn : n ≤ 60) : d < k.term ss b d n := by
  have t := (term_yesL (b := b) h hs hd h1 hn).1
  have g : d ≤ k.term ss b d n := term_ge
  rcases Int.lt_or_le d (k.term ss b d n) with q | q
  · exact q
  · rw [cntP_zero q] at t
    omega
theorem term_le_iffL (h : k.ok) (hs : LateS ss) (h1 : 1 ≤ n) (hn : n ≤ 60) {d y : Int} (hd : 0 ≤ d) : k.term ss b d n ≤ y ↔ ∃ e, d ≤ e ∧ e ≤ y ∧ n ≤ cntP (k.counts ss b) d e ∧ k.mayEnd ss e = true := by
  constructor
  · intro hy
    have t := term_yesL (b := b) h hs hd h1 hn
    exact ⟨_, term_ge, hy, t.1, t.2⟩
  · rintro ⟨e, e1, e2, e3, e4⟩
    rcases Int.lt_or_le e (k.term ss b d n) with q | q
    · have := term_no e1 q
      simp [e3, e4] at this
    · omega
theorem term_monoL (h : k.ok) (hs : LateS ss) (h1 : 1 ≤ n) (hn : n ≤ 60) {d e : Int} (hd : 0 ≤ d) (hde : d ≤ e) : k.term ss b d n ≤ k.term ss b e n := by
  have t := term_yesL (b := b) h hs (show 0 ≤ e by omega) h1 hn
  have g : e ≤ k.term ss b e n := term_ge
  exact (term_le_iffL h hs h1 hn hd).mpr ⟨_, by omega, Int.le_refl _, Nat.le_trans t.1 (cntP_sub hde g), t.2⟩
end
end Dl

/-! Dl: events that change the end of a period. -/
namespace Dl
open PySem L2
/-- a clock of whose stays one single day may lie late -/
structure Ck.okL (c : Ck) : Prop where
  j0 : 0 ≤ c.j
  al : c.ats.length ≤ 500
  ao : ∀ a ∈ c.ats, okAt a
  sl : c.ss.length ≤ 500
  sL : LateS c.ss
  fo : ∀ x, c.f = some x → 0 ≤ x ∧ x ≤ 400
theorem Ck.ok.L {c : Ck} (h : c.ok) : c.okL := ⟨h.j0, h.al, h.ao, h.sl, late_of h.so, h.fo⟩
theorem styd_one (ss : List Sy) (e : Int) : styd (ss ++ [(e, e)]) e = true := by
  rw [styd_snoc]
  have : styd [(e, e)] e = true := by
    show (([(e, e)] : List Sy).any fun q => decide (q.1 ≤ e) && decide (e ≤ q.2)) = true
    simp
  rw [this, Bool.or_true]
/-- a stay of the last day moves the end on -/
theorem term_on {k : Kal} {ss : List Sy} {b : Bool} {d : Int} {n : Nat} {x : Int} (h : k.ok) (hs : ∀ s ∈ ss, okSy s) (hd : 0 ≤ d) (h1 : 1 ≤ n) (hn : n ≤ 60) : k.term ss b d n ≤ k.term (ss ++ [(x, x)]) b d n ∧ k.term (ss ++ [(x, x)]) b d n ≠ x := by
  have t := term_yesL (b := b) h (late_snoc hs x) hd h1 hn
  constructor
  · refine (term_le_iffL h (late_of hs) h1 hn hd).mpr ⟨_, term_ge, Int.le_refl _, ?_, ?_⟩
    · refine Nat.le_trans t.1 ?_
      refine cntP_mono fun m _ _ hm => ?_
      unfold Kal.counts at hm ⊢
      rw [styd_snoc] at hm
      simp only [Bool.and_eq_true, Bool.not_eq_true', Bool.or_eq_false_iff] at hm ⊢
      exact ⟨hm.1.1, hm.2⟩
    · have := t.2
      unfold Kal.mayEnd at this ⊢
      rw [styd_snoc] at this
      simp only [Bool.and_eq_true, Bool.not_eq_true', Bool.or_eq_false_iff] at this ⊢
      exact ⟨this.1, this.2.1⟩
  · intro z
    have := t.2
    unfold Kal.mayEnd at this
    rw [z, styd_one] at this
    simp at this
section
variable {r : Ru} {b : Bool} {n : Nat} {c : Ck} {day : Int}
theorem move_okL {x : Int} (ok : c.ok) (ls : c.ss.length ≤ 400) : (c.move day (.stay (x, x))).okL := by
  refine ⟨ok.j0, ok.al, ok.ao, ?_, late_snoc ok.so x, ok.fo⟩
  show (c.ss ++ [_]).length ≤ 500
  rw [List.length_append, List.length_singleton]
  omega
theorem move_ok {m : Mt} (ok : c.ok) (la : c.ats.length ≤ 400) (hd : 0 ≤ day ∧ day ≤ 400) : (c.move day (.att m)).ok := by
  refine ⟨ok.j0, ?_, ?_, ok.sl, ok.so, ok.fo⟩
  · show (c.ats ++ [_]).length ≤ 500
    rw [List.length_append, List.length_singleton]
    omega
  · intro x hx
    rcases List.mem_append.mp hx with hx | hx
    · exact ok.ao x hx
    · rw [List.mem_singleton.mp hx]
      exact hd
/-- a stay of the last day of the period moves its end on, of a party that is served or where a cross-appeal ends on it -/
theorem per_on (h : r.ok) (ok : c.ok) (h1 : 1 ≤ n) (hn : n ≤ 60) {x : Int} (hx : r.per b n c = x) (q : r.served c.ats ≠ none ∨ r.crs c = some x) : r.per b n (c.move day (.stay (x, x))) ≠ x := by
  have c2 := h.c2
  have o := own_le_per (r := r) (b := b) (n := n) (c := c.move day (.stay (x, x)))
  have lt : ∀ y, r.crs c = some y → ∃ y', r.crs (c.move day (.stay (x, x))) = some y' ∧ y ≤ y' ∧ y' ≠ x := fun y e => by
    cases f : c.f with
    | none =>
      rw [Ru.crs_none f] at e
      cases e
    | some z =>
      rw [Ru.crs_some f] at e
      cases e
      have t := term_on (b := true) (x := x) h.kal ok.so (ok.fo z f).1 h.c1 (show r.cross ≤ 60 by omega)
      exact ⟨_, Ru.crs_some (c := c.move day (.stay (x, x))) f, t.1, t.2⟩
  by_cases e : r.crs c = some x
  · obtain ⟨y', e2, y1, y2⟩ := lt x e
    have := crs_le_per (b := b) (n := n) e2
    omega
  · have ow : r.own b n c = x := by
      cases e3 : r.crs c with
      | none =>
        rw [Ru.per_none e3] at hx
        exact hx
      | some y =>
        rw [Ru.per_some e3] at hx
        split at hx
        · rw [e3, hx] at e
          exact absurd rfl e
        · exact hx
    have q := q.resolve_right e
    cases e3 : r.served c.ats with
    | none => exact absurd e3 q
    | some s =>
      rw [Ru.own_some e3] at ow
      have t := term_on (b := b) (x := x) h.kal ok.so (Ru.served_ge h ok.ao e3).1 h1 hn
      rw [Ru.own_some (c := c.move day (.stay (x, x))) e3] at o
      have : r.k.term (c.move day (.stay (x, x))).ss b s n = r.k.term (c.ss ++ [(x, x)]) b s n := rfl
      omega
/-- an attempt serves -/
theorem att_serves {m : Mt} : r.served (c.move day (.att m)).ats ≠ none := fun e => by
  have := Ru.served_none.mp e ⟨day, m, false⟩ (List.mem_append_right _ List.mem_cons_self)
  cases this
theorem own_is_per {x : Int} (hx : r.per b n c = x) (e : r.crs c ≠ some x) : r.own b n c = x := by
  cases e3 : r.crs c with
  | none =>
    rw [Ru.per_none e3] at hx
    exact hx
  | some y =>
    rw [Ru.per_some e3] at hx
    split at hx
    · rw [e3, hx] at e
      exact absurd rfl e
    · exact hx
end
/-- the events that change a clock -/
def chg (r : Ru) (b : Bool) (n : Nat) (c : Ck) (day : Int) : Option (List Ev) :=
  if r.per b n c < day then none
  else if r.served c.ats ≠ none ∨ r.crs c = some (r.per b n c) then some [.stay (r.per b n c, r.per b n c)]
  else if r.per b n (c.move day (.att .hand)) = r.per b n c then some [.att .hand, .stay (r.per b n c, r.per b n c)]
  else some [.att .hand]
def chgD : Option (List Ev) → D
  | none => .non
  | some l => .tup (l.map evD)
/-- the events that change are permitted, one behind another, and change the end -/
def runs (r : Ru) (b : Bool) (n : Nat) (day : Int) (x : Int) : Ck → List Ev → Prop
  | c, [] => c.okL ∧ r.per b n c ≠ x
  | c, e :: es => c.ok ∧ r.per b n c = x ∧ allow r b n c day e = true ∧ runs r b n day x (c.move day e) es
theorem chg_fin {r : Ru} {b : Bool} {n : Nat} {c : Ck} {day : Int} (h : r.ok) (ok : c.ok) (la : c.ats.length ≤ 400) (ls : c.ss.length ≤ 400) (hd : 0 ≤ day ∧ day ≤ 400) (h1 : 1 ≤ n) (hn : n ≤ 60) {l : List Ev} (e : chg r b n c day = some l) : runs r b n day (r.per b n c) c l := by
  unfold chg at e
  split at e
  · cases e
  · rename_i hday
    split at e
    · rename_i q
      cases e
      exact ⟨ok, rfl, by show decide (day ≤ r.per b n c) = true; simp; omega, move_okL ok ls, per_on h ok h1 hn rfl q⟩
    · rename_i q
      have ne : r.crs c ≠ some (r.per b n c) := fun z => q (.inr z)
      have ow := own_is_per (b := b) (n := n) rfl ne
      have al : allow r b n c day (.att .hand) = true := by
        show decide (day ≤ r.own b n c) = true
        simp
        omega
      have ok2 := move_ok (m := .hand) ok la hd
      split at e
      · rename_i same
        cases e
        exact ⟨ok, rfl, al, ok2, same, by show decide (day ≤ r.per b n c) = true; simp; omega, move_okL ok2 ls, per_on h ok2 h1 hn same (.inl att_serves)⟩
      · rename_i same
        cases e
        exact ⟨ok, rfl, al, ok2.L, same⟩
def row14 (r : Ru) (z : Bool) (n : Nat) (ck : Ck) (day : Int) : List D := r.row (.str (kindS z) :: .int (n : Int) :: ck.row [.int day])
section
variable {a b c d e f g h i j k l m n o : D}
theorem cut14 : cutD [a, b, c, d, e, f, g, h, i, j, k, l, m, n] (some 9) (some 13) = [j, k, l, m] := rfl
theorem cut14_7 : cutD [a, b, c, d, e, f, g, h, i, j, k, l, m, n] none (some 7) = [a, b, c, d, e, f, g] := rfl
theorem cut14_2 : cutD [a, b, c, d, e, f, g, h, i, j, k, l, m, n] none (some 2) = [a, b] := rfl
theorem at14_13 : atI [a, b, c, d, e, f, g, h, i, j, k, l, m, n] 13 = some n := rfl
end
end Dl

/-! Dl: dicts of the module, read at a text. -/
namespace Dl
open PySem L2
/-- at p the module holds a dict with these entries (perhaps more) -/
def DictOk (K : PySem.W.Frag) (w : World) (p : Addr) (tab : List (Str × D)) : Prop := ∀ s d, (s, d) ∈ tab → ∃ v, KDct K w p s v ∧ ∀ F, Rep K F d v
def dictR (tab : List (Str × D)) : D → (D → Prop) → Prop := fun d P => match d with
  | .str s => ∃ e, (s, e) ∈ tab ∧ P e
  | _ => False
theorem dict_of {tab : List (Str × D)} {s : Str} {e : D} {P : D → Prop} (h : (s, e) ∈ tab) (q : P e) : dictR tab (.str s) P := ⟨e, h, q⟩
theorem e_dict {X : Cx} {b : Expr} {rb : DV} {x : Str} {p : Addr} {tab : List (Str × D)} {pos pos2 : Pos} (hg : Gl X x) (hm : X.mg x = some (.ref p)) (hD : DictOk X.K X.w p tab) (hb : PE X b (liftV X.K rb)) (hs : PlainIx b) (hd : (x == ("__debug__" : Str)) = false := by decide) :
    PE X (.Subscript (.Name x pos) b pos2) (liftV X.K (rUn (dictR tab) rb)) :=
  pe_wk (pe_ix ix_kdict (pe_glob (v := .ref p) hg hm rfl hd) hb hs) fun σ H Q ⟨c, F, δ, P, S, h, k⟩ => (show liftV X.K rb σ H (fun y H2 => rIxD X.K X.w (.ref p) y H2 Q) from ⟨c, F, δ, _, S, h, fun w1 δ1 h1 x F1 H1 e1 S1 r1 => by
    cases q1 : vget δ1 w1 with
    | none => simp only [q1] at h1
    | some d1 =>
      simp only [q1] at h1
      cases d1 with
      | str s =>
        obtain ⟨d, hd, hp⟩ := h1
        obtain ⟨v, kd, rv⟩ := hD s d hd
        have r2 := S1.view r1 q1
        have ex : x = .str s := by simpa only [RepV, Rep] using r2
        exact ⟨p, s, v, rfl, ex, kd, k _ _ hp v F1 H1 e1 S1 (rv F1)⟩
      | _ => exact h1.elim⟩)
/-- its entries, one by one -/
def DkI (K : PySem.W.Frag) (p : Addr) (tab : List (Str × D)) : Prop := ∀ s d, (s, d) ∈ tab → ∃ v u, PySem.W.nsIn K p s = some (some u) ∧ RelV v u ∧ ∀ F, Rep K F d v
def PlainV (K : PySem.W.Frag) (d : D) (u : Value) : Prop := ∃ v, RelV v u ∧ ∀ F, Rep K F d v
theorem pv_bl {K : PySem.W.Frag} {b : Bool} : PlainV K (.bl b) (.bool b) := ⟨.bl b, rfl, fun _ => by simp only [Rep]⟩
theorem pv_non {K : PySem.W.Frag} : PlainV K .non .none := ⟨.non, rfl, fun _ => by simp only [Rep]⟩
theorem pv_int {K : PySem.W.Frag} {i : Int} {t : Tok} : PlainV K (.int i) (.int i t) := ⟨.int i, ⟨t, rfl⟩, fun _ => by simp only [Rep]⟩
def PVs (K : PySem.W.Frag) : List D → List Value → Prop
  | [], us => us = []
  | d :: ds, us => ∃ u vs, us = u :: vs ∧ PlainV K d u ∧ PVs K ds vs
theorem pvs_nil {K : PySem.W.Frag} : PVs K [] [] := rfl
theorem pvs_cons {K : PySem.W.Frag} {d : D} {ds : List D} {u : Value} {us : List Value} (h : PlainV K d u) (t : PVs K ds us) : PVs K (d :: ds) (u :: us) := ⟨u, us, rfl, h, t⟩
theorem pvs_vals {K : PySem.W.Frag} : ∀ {ds : List D} {us : List Value}, PVs K ds us → ∃ vs, Vals vs us ∧ ∀ F, Reps K F ds vs
  | [], us, h => by
    rw [show us = [] from h]
    exact ⟨[], .nil, fun _ => by simp only [Reps]⟩
  | d :: ds, us, h => by
    obtain ⟨u, us, rfl, ⟨v, r1, r2⟩, h⟩ := h
    obtain ⟨vs, h1, h2⟩ := pvs_vals h
    exact ⟨v :: vs, .cons r1 h1, fun F => by
      simp only [Reps]
      exact ⟨v, vs, rfl, r2 F, h2 F⟩⟩
theorem pv_tup {K : PySem.W.Frag} {a : Addr} {od : Option Addr} {its : Array Value} {n : Nat} {osl : Array (Option Value)} {ds : List D} (l : K.lookup a = some ⟨.type "tuple", od, .seq its n, osl⟩) (h : PVs K ds its.toList) (hz : ds.length ≤ 100 := by decide) : PlainV K (.tup ds) (.ref a) := by
  obtain ⟨vs, h1, h2⟩ := pvs_vals h
  refine ⟨.ref a, rfl, fun F => ?_⟩
  simp only [Rep]
  refine ⟨a, vs, rfl, Or.inr ⟨_, its, n, l, rfl, rfl, ?_, h1⟩, h2 F⟩
  have e1 : its.size = its.toList.length := rfl
  have e2 := h1.length
  have e3 := (h2 F).len
  have e4 : 100 ≤ sizeLine := by decide
  omega
theorem dk_nil {K : PySem.W.Frag} {p : Addr} : DkI K p [] := nofun
theorem dk_cons {K : PySem.W.Frag} {p : Addr} {s : Str} {d : D} {u : Value} {tab : List (Str × D)} (r : PlainV K d u) (e : PySem.W.nsIn K p s = some (some u)) (t : DkI K p tab) : DkI K p ((s, d) :: tab) := fun s' d' h => by
  rcases List.mem_cons.mp h with h | h
  · cases h
    obtain ⟨v, h1, h2⟩ := r
    exact ⟨v, u, e, h1, h2⟩
  · exact t s' d' h
theorem cd_mk {K : PySem.W.Frag} {w : World} {h : Heap} {mg : Str → Option Value} {x : Str} {p : Addr} {es : Array DictEntry} {n : Nat} {tab : List (Str × D)} (X : K.In h) (G : h.Ns mainGlobals mg) (e : PySem.W.nsIn K mainGlobals x = some (some (.ref p)))
    (l : K.lookup p = some ⟨.type "dict", none, .dict es n, #[]⟩) (k : PySem.W.KeysLit w.params es.toList) (t : DkI K p tab) : ∃ p, mg x = some (.ref p) ∧ DictOk K w p tab :=
  ⟨p, PySem.W.mg_of X G e, fun s d hd => by
    obtain ⟨v, u, e2, r, rep⟩ := t s d hd
    exact ⟨v, ⟨es, n, u, l, k, e2, r⟩, rep⟩⟩
end Dl

/-! Dl: values of causes by findings. -/
namespace Dl
open PySem L2
theorem cutS_ofL (xs : List Nat) (lo hi : Option Int) : cutS (ofL xs) lo hi = ofL (cutD xs lo hi) := by
  unfold cutS cutD
  rw [ofL_len, tl_ofL]
  rfl
theorem cutS_take (xs : List Nat) (n : Nat) : cutS (ofL xs) none (some (n : Int)) = ofL (xs.take n) := by rw [cutS_ofL, cut_take]
theorem cutS_drop (xs : List Nat) (n : Nat) : cutS (ofL xs) (some (n : Int)) none = ofL (xs.drop n) := by rw [cutS_ofL, cut_drop]
theorem q_sg : Str.ofString "?" = sgS 63 := rfl
theorem ofL_one (c : Nat) : ofL [c] = sgS c := rfl
theorem ev_kseqS {QF : List D → DS → Prop} {l : List Nat} {δ : DS} : kSeqI QF (.val (.str (ofL l))) δ = QF (l.map fun c => D.str (sgS c)) δ := rfl
/-- findings: signs 1, 0, ? -/
def Fs (fs : List Nat) : Prop := ∀ c ∈ fs, c = 48 ∨ c = 49 ∨ c = 63
theorem Fs.take {fs : List Nat} (h : Fs fs) (n : Nat) : Fs (fs.take n) := fun c hc => h c (List.mem_of_mem_take hc)
theorem Fs.drop {fs : List Nat} (h : Fs fs) (n : Nat) : Fs (fs.drop n) := fun c hc => h c (List.mem_of_mem_drop hc)
def bD : Option Bool → D
  | none => .non
  | some b => .bl b
def neg3 (x : Option Bool) : Option Bool := x.map not
def both3 (x y : Option Bool) : Option Bool := if x = some false ∨ y = some false then some false else if x = none ∨ y = none then none else some true
def sgn3 (c : Nat) : Option Bool := if c = 49 then some true else if c = 48 then some false else none
def val3 : Tr → List Nat → Option Bool
  | .leaf _ _ _, fs => sgn3 (fs.headD 63)
  | .node w a b, fs =>
    if w = "and" then both3 (val3 a (fs.take a.n)) (val3 b (fs.drop a.n))
    else if w = "or" then neg3 (both3 (neg3 (val3 a (fs.take a.n))) (neg3 (val3 b (fs.drop a.n))))
    else both3 (val3 a (fs.take a.n)) (neg3 (val3 b (fs.drop a.n)))
/-- the truth of a cause whose issues are all found -/
def tru : Tr → List Nat → Bool
  | .leaf _ _ _, fs => decide (fs.headD 63 = 49)
  | .node w a b, fs =>
    if w = "and" then tru a (fs.take a.n) && tru b (fs.drop a.n)
    else if w = "or" then tru a (fs.take a.n) || tru b (fs.drop a.n)
    else tru a (fs.take a.n) && !tru b (fs.drop a.n)
/-- a row completes findings -/
def Cmp : List Nat → List Nat → Prop
  | [], r => r = []
  | c :: fs, r => ∃ x rs, r = x :: rs ∧ (c = x ∨ (c = 63 ∧ (x = 48 ∨ x = 49))) ∧ (x = 48 ∨ x = 49) ∧ Cmp fs rs
theorem Cmp.len : ∀ {fs r : List Nat}, Cmp fs r → r.length = fs.length
  | [], r, h => by rw [h]
  | c :: fs, r, h => by
    obtain ⟨x, rs, rfl, _, _, h⟩ := h
    rw [List.length_cons, List.length_cons, Cmp.len h]
theorem Cmp.app : ∀ {f1 f2 r1 r2 : List Nat}, Cmp f1 r1 → Cmp f2 r2 → Cmp (f1 ++ f2) (r1 ++ r2)
  | [], f2, r1, r2, h, h2 => by
    rw [h]
    exact h2
  | c :: fs, f2, r1, r2, h, h2 => by
    obtain ⟨x, rs, rfl, e, e2, h⟩ := h
    exact ⟨x, rs ++ r2, rfl, e, e2, Cmp.app h h2⟩
theorem Cmp.take : ∀ {fs r : List Nat} (n : Nat), Cmp fs r → Cmp (fs.take n) (r.take n)
  | _, _, 0, _ => by
    rw [List.take_zero, List.take_zero]
    rfl
  | [], r, n + 1, h => by
    rw [show r = [] from h]
    rfl
  | c :: fs, r, n + 1, h => by
    obtain ⟨x, rs, rfl, e, e2, h⟩ := h
    exact ⟨x, rs.take n, rfl, e, e2, Cmp.take n h⟩
theorem Cmp.drop : ∀ {fs r : List Nat} (n : Nat), Cmp fs r → Cmp (fs.drop n) (r.drop n)
  | _, _, 0, h => h
  | [], r, n + 1, h => by
    rw [show r = [] from h]
    rfl
  | c :: fs, r, n + 1, h => by
    obtain ⟨x, rs, rfl, e, e2, h⟩ := h
    exact Cmp.drop n h
theorem Cmp.any : ∀ {fs : List Nat}, Fs fs → ∃ r, Cmp fs r
  | [], _ => ⟨[], rfl⟩
  | c :: fs, h => by
    obtain ⟨r, hr⟩ := Cmp.any (fs := fs) fun x hx => h x (List.mem_cons_of_mem _ hx)
    rcases h c List.mem_cons_self with q | q | q
    · exact ⟨c :: r, c, r, rfl, .inl rfl, .inl q, hr⟩
    · exact ⟨c :: r, c, r, rfl, .inl rfl, .inr q, hr⟩
    · exact ⟨48 :: r, 48, r, rfl, .inr ⟨q, .inl rfl⟩, .inl rfl, hr⟩
/-- some completion makes the cause so -/
def can (t : Tr) (fs : List Nat) (b : Bool) : Prop := ∃ r, Cmp fs r ∧ tru t r = b
theorem can_some {t : Tr} {fs : List Nat} (h : Fs fs) : can t fs true ∨ can t fs false := by
  obtain ⟨r, hr⟩ := Cmp.any h
  cases e : tru t r
  · exact .inr ⟨r, hr, e⟩
  · exact .inl ⟨r, hr, e⟩
/-- both parts freely -/
theorem can_node {a b : Tr} {fs : List Nat} {x y : Bool} (hl : fs.length = a.n + b.n) : (∃ r, Cmp fs r ∧ tru a (r.take a.n) = x ∧ tru b (r.drop a.n) = y) ↔ (can a (fs.take a.n) x ∧ can b (fs.drop a.n) y) := by
  constructor
  · rintro ⟨r, hr, e1, e2⟩
    exact ⟨⟨_, hr.take a.n, e1⟩, ⟨_, hr.drop a.n, e2⟩⟩
  · rintro ⟨⟨r1, h1, e1⟩, ⟨r2, h2, e2⟩⟩
    have l1 : r1.length = a.n := by rw [h1.len, List.length_take]; omega
    refine ⟨r1 ++ r2, by have := Cmp.app h1 h2; rwa [List.take_append_drop] at this, ?_, ?_⟩
    · rw [← l1, List.take_left]
      exact e1
    · rw [← l1, List.drop_left]
      exact e2
theorem can_and {w : Str} {a b : Tr} {fs : List Nat} (hl : fs.length = a.n + b.n) (z : Bool) : can (.node w a b) fs z ↔ ∃ x y : Bool, can a (fs.take a.n) x ∧ can b (fs.drop a.n) y ∧ (if w = "and" then x && y else if w = "or" then x || y else x && !y) = z := by
  constructor
  · rintro ⟨r, hr, e⟩
    exact ⟨_, _, ⟨_, hr.take a.n, rfl⟩, ⟨_, hr.drop a.n, rfl⟩, by rw [← e]; rfl⟩
  · rintro ⟨x, y, h1, h2, e⟩
    obtain ⟨r, hr, e1, e2⟩ := (can_node hl).mpr ⟨h1, h2⟩
    refine ⟨r, hr, ?_⟩
    rw [← e, ← e1, ← e2]
    rfl
/-- the value: what no completion can turn -/
theorem val_can : ∀ {t : Tr} {fs : List Nat}, Fs fs → fs.length = t.n → (can t fs true ↔ val3 t fs ≠ some false) ∧ (can t fs false ↔ val3 t fs ≠ some true)
  | .leaf x b m, fs, h, hl => by
    match fs, hl with
    | [c], _ =>
      have hc := h c List.mem_cons_self
      have key : ∀ z : Bool, can (.leaf x b m) [c] z ↔ (c = 63 ∨ (c = 49 ∧ z = true) ∨ (c = 48 ∧ z = false)) := fun z => by
        constructor
        · rintro ⟨r, ⟨y, rs, rfl, e, e2, _⟩, e3⟩
          have e3 : decide (y = 49) = z := e3
          rcases e with rfl | ⟨q, _⟩
          · rcases e2 with rfl | rfl
            · exact .inr (.inr ⟨rfl, e3.symm⟩)
            · exact .inr (.inl ⟨rfl, e3.symm⟩)
          · exact .inl q
        · rintro (rfl | ⟨rfl, rfl⟩ | ⟨rfl, rfl⟩)
          · cases z
            · exact ⟨[48], ⟨48, [], rfl, .inr ⟨rfl, .inl rfl⟩, .inl rfl, rfl⟩, rfl⟩
            · exact ⟨[49], ⟨49, [], rfl, .inr ⟨rfl, .inr rfl⟩, .inr rfl, rfl⟩, rfl⟩
          · exact ⟨[49], ⟨49, [], rfl, .inl rfl, .inr rfl, rfl⟩, rfl⟩
          · exact ⟨[48], ⟨48, [], rfl, .inl rfl, .inl rfl, rfl⟩, rfl⟩
      rw [key, key]
      unfold val3 sgn3
      rcases hc with rfl | rfl | rfl <;> decide
  | .node w a b, fs, h, hl => by
    have hl : fs.length = a.n + b.n := hl
    obtain ⟨a1, a2⟩ := val_can (t := a) (fs := fs.take a.n) (h.take _) (by rw [List.length_take]; omega)
    obtain ⟨b1, b2⟩ := val_can (t := b) (fs := fs.drop a.n) (h.drop _) (by rw [List.length_drop]; omega)
    have sa := can_some (t := a) (h.take a.n)
    have sb := can_some (t := b) (h.drop a.n)
    rw [can_and hl, can_and hl]
    unfold val3
    simp only [Bool.exists_bool]
    generalize can a (fs.take a.n) true = A1 at *
    generalize can a (fs.take a.n) false = A2 at *
    generalize can b (fs.drop a.n) true = B1 at *
    generalize can b (fs.drop a.n) false = B2 at *
    generalize val3 a (fs.take a.n) = x at *
    generalize val3 b (fs.drop a.n) = y at *
    rcases x with _ | _ | _ <;> rcases y with _ | _ | _ <;> simp at a1 a2 b1 b2 <;> (split <;> (try split)) <;> simp_all [both3, neg3]
theorem bD_none : bD none = .non := rfl
theorem bD_some {b : Bool} : bD (some b) = .bl b := rfl
theorem n_512v {t : Tr} (h : t.h ≤ 9) : t.n ≤ 512 := Nat.le_trans t.n_le (Nat.pow_le_pow_right (by decide) h)
def wD : Option Bool → D
  | none => .non
  | some true => .str "claimant"
  | some false => .str "respondent"
/-- the completions, in the order of the law -/
def fillS (rows : List (List Nat)) (c : Nat) : List (List Nat) := if c = 63 then rows.map (· ++ [48]) ++ rows.map (· ++ [49]) else rows.map (· ++ [c])
def fill (fs : List Nat) : List (List Nat) := fs.foldl fillS [[]]
theorem fill_snoc (fs : List Nat) (c : Nat) : fill (fs ++ [c]) = fillS (fill fs) c := by
  unfold fill
  rw [List.foldl_append]
  rfl
theorem fillS_len (rows : List (List Nat)) (c : Nat) : (fillS rows c).length ≤ 2 * rows.length := by
  unfold fillS
  split
  · rw [List.length_append, List.length_map, List.length_map]
    omega
  · rw [List.length_map]
    omega
theorem snoc_ind {P : List Nat → Prop} (h0 : P []) (h1 : ∀ l c, P l → P (l ++ [c])) (l : List Nat) : P l := by
  have : ∀ l : List Nat, P l.reverse := fun l => by
    induction l with
    | nil => exact h0
    | cons c l ih =>
      rw [List.reverse_cons]
      exact h1 _ _ ih
  have := this l.reverse
  rwa [List.reverse_reverse] at this
theorem fill_len (fs : List Nat) : (fill fs).length ≤ 2 ^ fs.length := by
  refine snoc_ind (P := fun fs => (fill fs).length ≤ 2 ^ fs.length) (Nat.le_refl _) (fun l c ih => ?_) fs
  rw [fill_snoc, List.length_append, List.length_singleton, Nat.pow_succ]
  have := fillS_len (fill l) c
  omega
theorem fill_cons_mem (rows : List (List Nat)) : ∀ (fs : List Nat) (r : List Nat), Fs fs → (r ∈ fs.foldl fillS rows ↔ ∃ p ∈ rows, ∃ q, r = p ++ q ∧ Cmp fs q)
  | [], r, _ => by
    constructor
    · intro h
      exact ⟨r, h, [], (List.append_nil _).symm, rfl⟩
    · rintro ⟨p, hp, q, rfl, rfl⟩
      rw [List.append_nil]
      exact hp
  | c :: fs, r, h => by
    have ht : Fs fs := fun x hx => h x (List.mem_cons_of_mem _ hx)
    rw [List.foldl_cons, fill_cons_mem _ fs r ht]
    have mem : ∀ p, p ∈ fillS rows c ↔ ∃ p0 ∈ rows, ∃ x, p = p0 ++ [x] ∧ (c = x ∨ (c = 63 ∧ (x = 48 ∨ x = 49))) ∧ (x = 48 ∨ x = 49) := fun p => by
      unfold fillS
      split
      · rename_i e
        constructor
        · intro hp
          rcases List.mem_append.mp hp with hp | hp
          · obtain ⟨p0, h0, rfl⟩ := List.mem_map.mp hp
            exact ⟨p0, h0, 48, rfl, .inr ⟨e, .inl rfl⟩, .inl rfl⟩
          · obtain ⟨p0, h0, rfl⟩ := List.mem_map.mp hp
            exact ⟨p0, h0, 49, rfl, .inr ⟨e, .inr rfl⟩, .inr rfl⟩
        · rintro ⟨p0, h0, x, rfl, _, rfl | rfl⟩
          · exact List.mem_append_left _ (List.mem_map.mpr ⟨p0, h0, rfl⟩)
          · exact List.mem_append_right _ (List.mem_map.mpr ⟨p0, h0, rfl⟩)
      · rename_i e
        constructor
        · intro hp
          obtain ⟨p0, h0, rfl⟩ := List.mem_map.mp hp
          refine ⟨p0, h0, c, rfl, .inl rfl, ?_⟩
          rcases h c List.mem_cons_self with q | q | q
          · exact .inl q
          · exact .inr q
          · exact absurd q e
        · rintro ⟨p0, h0, x, rfl, e1 | ⟨q, _⟩, _⟩
          · rw [e1]
            exact List.mem_map.mpr ⟨p0, h0, rfl⟩
          · exact absurd q e
    constructor
    · rintro ⟨p, hp, q, rfl, hq⟩
      obtain ⟨p0, h0, x, rfl, e1, e2⟩ := (mem p).mp hp
      exact ⟨p0, h0, x :: q, by rw [List.append_assoc]; rfl, x, q, rfl, e1, e2, hq⟩
    · rintro ⟨p0, h0, q, rfl, x, rs, rfl, e1, e2, hq⟩
      exact ⟨p0 ++ [x], (mem _).mpr ⟨p0, h0, x, rfl, e1, e2⟩, rs, by rw [List.append_assoc]; rfl, hq⟩
theorem mem_fill {fs : List Nat} (h : Fs fs) {r : List Nat} : r ∈ fill fs ↔ Cmp fs r := by
  unfold fill
  rw [fill_cons_mem _ _ _ h]
  constructor
  · rintro ⟨p, hp, q, rfl, hq⟩
    rw [List.mem_singleton.mp hp]
    exact hq
  · intro hq
    exact ⟨[], List.mem_singleton.mpr rfl, r, rfl, hq⟩
theorem fill_rowlen {fs : List Nat} (h : Fs fs) {r : List Nat} (hr : r ∈ fill fs) : r.length = fs.length := ((mem_fill h).mp hr).len
end Dl

/-! Dl: issues that still turn a cause. -/
namespace Dl
open PySem L2
/-! ### completions by number -/
def fillAt : List Nat → Nat → List Nat
  | [], _ => []
  | c :: r, j => if c = 63 then (48 + j % 2) :: fillAt r (j / 2) else c :: fillAt r j
theorem fillAt_q {r : List Nat} {j : Nat} : fillAt (63 :: r) j = (48 + j % 2) :: fillAt r (j / 2) := if_pos rfl
theorem fillAt_c {c : Nat} {r : List Nat} {j : Nat} (h : c ≠ 63) : fillAt (c :: r) j = c :: fillAt r j := if_neg h
theorem cnt_q {r : List Nat} : (63 :: r).count 63 = r.count 63 + 1 := List.count_cons_self
theorem cnt_c {c : Nat} {r : List Nat} (h : c ≠ 63) : (c :: r).count 63 = r.count 63 := List.count_cons_of_ne h
theorem fillAt_snoc_q : ∀ (fs : List Nat) (j : Nat), fillAt (fs ++ [63]) j = fillAt fs j ++ [48 + j / 2 ^ fs.count 63 % 2]
  | [], j => by
    show fillAt [63] j = [48 + j / 2 ^ 0 % 2]
    rw [fillAt_q, Nat.pow_zero, Nat.div_one]
    rfl
  | c :: fs, j => by
    rw [List.cons_append]
    by_cases h : c = 63
    · subst h
      rw [fillAt_q, fillAt_q, fillAt_snoc_q fs, cnt_q, List.cons_append, Nat.div_div_eq_div_mul, Nat.pow_succ, Nat.mul_comm 2]
    · rw [fillAt_c h, fillAt_c h, fillAt_snoc_q fs, cnt_c h, List.cons_append]
theorem fillAt_snoc_c {c : Nat} (hc : c ≠ 63) : ∀ (fs : List Nat) (j : Nat), fillAt (fs ++ [c]) j = fillAt fs j ++ [c]
  | [], j => fillAt_c hc
  | d :: fs, j => by
    rw [List.cons_append]
    by_cases h : d = 63
    · subst h
      rw [fillAt_q, fillAt_q, fillAt_snoc_c hc fs, List.cons_append]
    · rw [fillAt_c h, fillAt_c h, fillAt_snoc_c hc fs, List.cons_append]
theorem fillAt_per : ∀ (fs : List Nat) (j m : Nat), fillAt fs (j + 2 ^ fs.count 63 * m) = fillAt fs j
  | [], _, _ => rfl
  | c :: fs, j, m => by
    by_cases h : c = 63
    · subst h
      have e : 2 ^ (fs.count 63 + 1) * m = 2 * (2 ^ fs.count 63 * m) := by rw [Nat.pow_succ, Nat.mul_comm (2 ^ _) 2, Nat.mul_assoc]
      rw [fillAt_q, fillAt_q, cnt_q, e, show (j + 2 * (2 ^ fs.count 63 * m)) % 2 = j % 2 by omega, show (j + 2 * (2 ^ fs.count 63 * m)) / 2 = j / 2 + 2 ^ fs.count 63 * m by omega, fillAt_per fs]
    · rw [fillAt_c h, fillAt_c h, cnt_c h, fillAt_per fs]
theorem fill_at (fs : List Nat) : fill fs = (List.range (2 ^ fs.count 63)).map (fillAt fs) := by
  refine snoc_ind (P := fun fs => fill fs = (List.range (2 ^ fs.count 63)).map (fillAt fs)) rfl (fun l c ih => ?_) fs
  rw [fill_snoc, ih]
  unfold fillS
  by_cases h : c = 63
  · subst h
    rw [if_pos rfl, List.count_append, show List.count 63 [63] = 1 from rfl, Nat.pow_succ, Nat.mul_two, List.range_add, List.map_append, List.map_map, List.map_map, List.map_map]
    congr 1
    · refine List.map_congr_left fun j hj => ?_
      have hj := List.mem_range.mp hj
      show fillAt l j ++ [48] = fillAt (l ++ [63]) j
      rw [fillAt_snoc_q, Nat.div_eq_of_lt hj]
    · refine List.map_congr_left fun j hj => ?_
      have hj := List.mem_range.mp hj
      show fillAt l j ++ [49] = fillAt (l ++ [63]) (2 ^ l.count 63 + j)
      have p := fillAt_per l j 1
      rw [Nat.mul_one] at p
      rw [fillAt_snoc_q, Nat.add_comm, p, Nat.add_div_right _ (Nat.pow_pos (by decide)), Nat.div_eq_of_lt hj]
  · rw [if_neg h, List.count_append, show List.count 63 [c] = 0 from List.count_eq_zero_of_not_mem (by simp; exact fun z => h z.symm), Nat.add_zero, List.map_map]
    refine List.map_congr_left fun j hj => ?_
    exact (fillAt_snoc_c h l j).symm
/-- the weight of an undetermined place -/
def wt (fs : List Nat) (k : Nat) : Nat := 2 ^ (fs.take k).count 63
theorem wt_q {r : List Nat} {k : Nat} : wt (63 :: r) (k + 1) = 2 * wt r k := by
  unfold wt
  rw [List.take_succ_cons, cnt_q, Nat.pow_succ, Nat.mul_comm]
theorem wt_c {c : Nat} {r : List Nat} {k : Nat} (h : c ≠ 63) : wt (c :: r) (k + 1) = wt r k := by
  unfold wt
  rw [List.take_succ_cons, cnt_c h]
theorem fillAt_get : ∀ {fs : List Nat} {k j : Nat}, fs[k]? = some 63 → (fillAt fs j)[k]? = some (48 + j / wt fs k % 2)
  | [], k, j, h => by simp at h
  | c :: fs, 0, j, h => by
    obtain rfl : c = 63 := by simpa using h
    rw [fillAt_q]
    show some _ = some (48 + j / 2 ^ 0 % 2)
    rw [Nat.pow_zero, Nat.div_one]
  | c :: fs, k + 1, j, h => by
    have h' : fs[k]? = some 63 := by simpa using h
    by_cases q : c = 63
    · subst q
      rw [fillAt_q, List.getElem?_cons_succ, fillAt_get h', wt_q, Nat.div_div_eq_div_mul]
    · rw [fillAt_c q, List.getElem?_cons_succ, fillAt_get h', wt_c q]
theorem fillAt_turn : ∀ {fs : List Nat} {k j : Nat}, fs[k]? = some 63 → j / wt fs k % 2 = 0 → fillAt fs (j + wt fs k) = (fillAt fs j).set k 49
  | [], k, j, h, _ => by simp at h
  | c :: fs, 0, j, h, e => by
    obtain rfl : c = 63 := by simpa using h
    have w : wt (63 :: fs) 0 = 1 := rfl
    rw [w, Nat.div_one] at e
    rw [w, fillAt_q, fillAt_q, show (j + 1) % 2 = 1 by omega, show (j + 1) / 2 = j / 2 by omega]
    rfl
  | c :: fs, k + 1, j, h, e => by
    have h' : fs[k]? = some 63 := by simpa using h
    by_cases q : c = 63
    · subst q
      rw [wt_q, ← Nat.div_div_eq_div_mul] at e
      rw [wt_q, fillAt_q, fillAt_q, show (j + 2 * wt fs k) % 2 = j % 2 by omega, show (j + 2 * wt fs k) / 2 = j / 2 + wt fs k by omega, fillAt_turn h' e]
      rfl
    · rw [wt_c q] at e
      rw [wt_c q, fillAt_c q, fillAt_c q, fillAt_turn h' e]
      rfl
theorem wt_lt : ∀ {fs : List Nat} {k j : Nat}, fs[k]? = some 63 → j < 2 ^ fs.count 63 → j / wt fs k % 2 = 0 → j + wt fs k < 2 ^ fs.count 63
  | [], k, j, h, _, _ => by simp at h
  | c :: fs, 0, j, h, hj, e => by
    obtain rfl : c = 63 := by simpa using h
    have w : wt (63 :: fs) 0 = 1 := rfl
    rw [w, Nat.div_one] at e
    rw [cnt_q, Nat.pow_succ] at hj ⊢
    rw [w]
    omega
  | c :: fs, k + 1, j, h, hj, e => by
    have h' : fs[k]? = some 63 := by simpa using h
    by_cases q : c = 63
    · subst q
      rw [wt_q, ← Nat.div_div_eq_div_mul] at e
      rw [cnt_q, Nat.pow_succ] at hj ⊢
      have := wt_lt h' (j := j / 2) (by omega) e
      rw [wt_q]
      omega
    · rw [wt_c q] at e ⊢
      rw [cnt_c q] at hj ⊢
      exact wt_lt h' hj e
/-! ### what turns -/
def turnP (t : Tr) (fs : List Nat) (k : Nat) : Prop := fs[k]? = some 63 ∧ ∃ r, Cmp fs r ∧ r[k]? = some 48 ∧ tru t r ≠ tru t (r.set k 49)
def lows (t : Tr) (fs : List Nat) (k : Nat) : List Nat := ((List.range (2 ^ fs.count 63)).filter fun j => decide (j / wt fs k % 2 = 0)).filter fun j => decide (tru t (fillAt fs j) ≠ tru t (fillAt fs (j + wt fs k)))
theorem turn_iff {t : Tr} {fs : List Nat} {k : Nat} (h : Fs fs) (hk : fs[k]? = some 63) : 0 < (lows t fs k).length ↔ turnP t fs k := by
  have hm := fun r => mem_fill (fs := fs) h (r := r)
  constructor
  · intro z
    obtain ⟨j, hj⟩ := List.exists_mem_of_length_pos z
    unfold lows at hj
    rw [List.mem_filter, List.mem_filter, List.mem_range] at hj
    obtain ⟨⟨j1, j2⟩, j3⟩ := hj
    have j2 := of_decide_eq_true j2
    have j3 := of_decide_eq_true j3
    refine ⟨hk, fillAt fs j, (hm _).mp ?_, ?_, ?_⟩
    · rw [fill_at]
      exact List.mem_map.mpr ⟨j, List.mem_range.mpr j1, rfl⟩
    · rw [fillAt_get hk, j2]
    · rwa [← fillAt_turn hk j2]
  · rintro ⟨_, r, hr, r1, r2⟩
    have hr := (hm r).mpr hr
    rw [fill_at] at hr
    obtain ⟨j, hj, rfl⟩ := List.mem_map.mp hr
    rw [fillAt_get hk] at r1
    have r1 := Option.some.inj r1
    have e : j / wt fs k % 2 = 0 := by omega
    refine List.length_pos_of_mem (a := j) ?_
    unfold lows
    rw [List.mem_filter, List.mem_filter]
    refine ⟨⟨hj, decide_eq_true e⟩, decide_eq_true ?_⟩
    rwa [fillAt_turn hk e]
theorem Cmp.set : ∀ {fs r : List Nat} {k : Nat}, Cmp fs r → fs[k]? = some 63 → Cmp fs (r.set k 49)
  | [], r, k, h, e => by simp at e
  | c :: fs, r, 0, h, e => by
    obtain ⟨x, rs, rfl, _, _, h⟩ := h
    obtain rfl : c = 63 := by simpa using e
    exact ⟨49, rs, rfl, .inr ⟨rfl, .inr rfl⟩, .inr rfl, h⟩
  | c :: fs, r, k + 1, h, e => by
    obtain ⟨x, rs, rfl, e1, e2, h⟩ := h
    exact ⟨x, rs.set k 49, rfl, e1, e2, Cmp.set h (by simpa using e)⟩
def opW (w : Str) (x y : Bool) : Bool := if w = "and" then x && y else if w = "or" then x || y else x && !y
theorem tru_node {w : Str} {a b : Tr} {r : List Nat} : tru (.node w a b) r = opW w (tru a (r.take a.n)) (tru b (r.drop a.n)) := rfl
def nl (w : Str) : Bool := decide (w = "and")
def nr (w : Str) : Bool := decide (w ≠ "or")
theorem opW_l {w : Str} {x x' : Bool} (h : x ≠ x') : opW w x (nl w) ≠ opW w x' (nl w) := by
  unfold opW nl
  by_cases h1 : w = "and"
  · cases x <;> cases x' <;> simp_all
  · by_cases h2 : w = "or"
    · cases x <;> cases x' <;> simp_all
    · cases x <;> cases x' <;> simp_all
theorem opW_r {w : Str} {x x' : Bool} (h : x ≠ x') : opW w (nr w) x ≠ opW w (nr w) x' := by
  unfold opW nr
  have hne : ¬ (Str.ofString "and" = Str.ofString "or") := by decide
  by_cases h1 : w = "and"
  · subst h1
    cases x <;> cases x' <;> simp_all
  · by_cases h2 : w = "or"
    · cases x <;> cases x' <;> simp_all
    · cases x <;> cases x' <;> simp_all
theorem val_node {w : Str} {a b : Tr} {fs : List Nat} : val3 (.node w a b) fs = if w = "and" then both3 (val3 a (fs.take a.n)) (val3 b (fs.drop a.n)) else if w = "or" then neg3 (both3 (neg3 (val3 a (fs.take a.n))) (neg3 (val3 b (fs.drop a.n)))) else both3 (val3 a (fs.take a.n)) (neg3 (val3 b (fs.drop a.n))) := rfl
/-- what an undetermined value says of the parts -/
theorem val_open {w : Str} {a b : Tr} {fs : List Nat} (h : val3 (.node w a b) fs = none) : val3 b (fs.drop a.n) ≠ some (!nl w) ∧ val3 a (fs.take a.n) ≠ some (!nr w) ∧ (val3 a (fs.take a.n) = none ∨ val3 b (fs.drop a.n) = none) := by
  rw [val_node] at h
  generalize val3 a (fs.take a.n) = x at *
  generalize val3 b (fs.drop a.n) = y at *
  unfold nl nr
  have hne : ¬ (Str.ofString "and" = Str.ofString "or") := by decide
  by_cases h1 : w = "and"
  · subst h1
    rcases x with _ | _ | _ <;> rcases y with _ | _ | _ <;> simp_all [both3, neg3]
  · by_cases h2 : w = "or"
    · rcases x with _ | _ | _ <;> rcases y with _ | _ | _ <;> simp_all [both3, neg3]
    · rcases x with _ | _ | _ <;> rcases y with _ | _ | _ <;> simp_all [both3, neg3]
theorem can_of {t : Tr} {fs : List Nat} {b : Bool} (h : Fs fs) (hl : fs.length = t.n) (e : val3 t fs ≠ some (!b)) : can t fs b := by
  obtain ⟨c1, c2⟩ := val_can h hl
  cases b
  · exact c2.mpr e
  · exact c1.mpr e
theorem can_not {t : Tr} {fs : List Nat} {b : Bool} (h : Fs fs) (hl : fs.length = t.n) (e : val3 t fs = some b) {r : List Nat} (hr : Cmp fs r) : tru t r = b := by
  obtain ⟨c1, c2⟩ := val_can h hl
  cases b
  · cases q : tru t r
    · rfl
    · exact absurd e (c1.mp ⟨r, hr, q⟩)
  · cases q : tru t r
    · exact absurd e (c2.mp ⟨r, hr, q⟩)
    · rfl
def rel3 : Tr → List Nat → Nat → List Nat
  | .leaf x b m, fs, s => if val3 (.leaf x b m) fs = none then [s] else []
  | .node w a b, fs, s => if val3 (.node w a b) fs = none then rel3 a (fs.take a.n) s ++ rel3 b (fs.drop a.n) (s + a.n) else []
theorem rel3_leaf {x : Str} {b : Bool} {m : Int} {fs : List Nat} {s : Nat} : rel3 (.leaf x b m) fs s = if val3 (.leaf x b m) fs = none then [s] else [] := rfl
theorem rel3_node {w : Str} {a b : Tr} {fs : List Nat} {s : Nat} : rel3 (.node w a b) fs s = if val3 (.node w a b) fs = none then rel3 a (fs.take a.n) s ++ rel3 b (fs.drop a.n) (s + a.n) else [] := rfl
theorem rel3_nil : ∀ {t : Tr} {fs : List Nat} {s : Nat}, rel3 t fs s = [] ↔ val3 t fs ≠ none
  | .leaf x b m, fs, s => by
    rw [rel3_leaf]
    split
    · simp_all
    · simp_all
  | .node w a b, fs, s => by
    rw [rel3_node]
    split
    · rename_i e
      have o := (val_open e).2.2
      rw [List.append_eq_nil_iff, rel3_nil, rel3_nil]
      constructor
      · rintro ⟨h1, h2⟩
        exact (o.elim h1 h2).elim
      · exact fun h => absurd e h
    · rename_i e
      simp [e]
theorem rel3_len : ∀ {t : Tr} {fs : List Nat} {s : Nat}, (rel3 t fs s).length ≤ t.n
  | .leaf x b m, fs, s => by
    rw [rel3_leaf]
    split
    · exact Nat.le_refl _
    · exact Nat.zero_le _
  | .node w a b, fs, s => by
    rw [rel3_node]
    have h1 := rel3_len (t := a) (fs := fs.take a.n) (s := s)
    have h2 := rel3_len (t := b) (fs := fs.drop a.n) (s := s + a.n)
    show _ ≤ a.n + b.n
    split
    · rw [List.length_append]
      omega
    · exact Nat.zero_le _
theorem turn_det {t : Tr} {fs : List Nat} {k : Nat} (h : Fs fs) (hl : fs.length = t.n) (e : val3 t fs ≠ none) : ¬ turnP t fs k := by
  rintro ⟨hk, r, hr, _, ne⟩
  obtain ⟨b, hb⟩ := Option.ne_none_iff_exists'.mp e
  exact ne ((can_not h hl hb hr).trans (can_not h hl hb (hr.set hk)).symm)
theorem turn_l {w : Str} {a b : Tr} {fs : List Nat} {k : Nat} (h : Fs fs) (hl : fs.length = a.n + b.n) (e : val3 (.node w a b) fs = none) (hk : k < a.n) : turnP (.node w a b) fs k ↔ turnP a (fs.take a.n) k := by
  have ek : (fs.take a.n)[k]? = fs[k]? := by rw [List.getElem?_take, if_pos hk]
  constructor
  · rintro ⟨h1, r, hr, h2, h3⟩
    refine ⟨ek.trans h1, r.take a.n, hr.take a.n, by rw [List.getElem?_take, if_pos hk]; exact h2, fun z => h3 ?_⟩
    rw [tru_node, tru_node, List.drop_set_of_lt hk, List.take_set, z]
  · rintro ⟨h1, r1, hr1, h2, h3⟩
    obtain ⟨r2, hr2, e2⟩ := can_of (h.drop a.n) (by rw [List.length_drop]; omega) (val_open e).1
    have l1 : r1.length = a.n := by rw [hr1.len, List.length_take]; omega
    have c := Cmp.app hr1 hr2
    rw [List.take_append_drop] at c
    refine ⟨ek.symm.trans h1, r1 ++ r2, c, by rw [List.getElem?_append_left (by omega)]; exact h2, ?_⟩
    rw [tru_node, tru_node, List.set_append_left _ _ (by omega)]
    have t1 : (r1 ++ r2).take a.n = r1 := by rw [← l1, List.take_left]
    have t2 : (r1 ++ r2).drop a.n = r2 := by rw [← l1, List.drop_left]
    have t3 : (r1.set k 49 ++ r2).take a.n = r1.set k 49 := by rw [← l1, ← List.length_set (as := r1) (i := k) (a := 49), List.take_left]
    have t4 : (r1.set k 49 ++ r2).drop a.n = r2 := by rw [← l1, ← List.length_set (as := r1) (i := k) (a := 49), List.drop_left]
    rw [t1, t2, t3, t4, e2]
    exact opW_l h3
theorem turn_r {w : Str} {a b : Tr} {fs : List Nat} {k : Nat} (h : Fs fs) (hl : fs.length = a.n + b.n) (e : val3 (.node w a b) fs = none) : turnP (.node w a b) fs (a.n + k) ↔ turnP b (fs.drop a.n) k := by
  have ek : (fs.drop a.n)[k]? = fs[a.n + k]? := List.getElem?_drop
  constructor
  · rintro ⟨h1, r, hr, h2, h3⟩
    refine ⟨ek.trans h1, r.drop a.n, hr.drop a.n, by rw [List.getElem?_drop]; exact h2, fun z => h3 ?_⟩
    have d : (r.set (a.n + k) 49).drop a.n = (r.drop a.n).set k 49 := by rw [List.drop_set, if_neg (by omega), Nat.add_sub_cancel_left]
    have t : (r.set (a.n + k) 49).take a.n = r.take a.n := by rw [List.take_set_of_le (by omega)]
    rw [tru_node, tru_node, d, t, z]
  · rintro ⟨h1, r2, hr2, h2, h3⟩
    obtain ⟨r1, hr1, e1⟩ := can_of (h.take a.n) (by rw [List.length_take]; omega) (val_open e).2.1
    have l1 : r1.length = a.n := by rw [hr1.len, List.length_take]; omega
    have c := Cmp.app hr1 hr2
    rw [List.take_append_drop] at c
    refine ⟨ek.symm.trans h1, r1 ++ r2, c, by rw [List.getElem?_append_right (by omega), l1, Nat.add_sub_cancel_left]; exact h2, ?_⟩
    rw [tru_node, tru_node, List.set_append_right _ _ (by omega), l1, Nat.add_sub_cancel_left]
    have t1 : (r1 ++ r2).take a.n = r1 := by rw [← l1, List.take_left]
    have t2 : (r1 ++ r2).drop a.n = r2 := by rw [← l1, List.drop_left]
    have t3 : (r1 ++ r2.set k 49).take a.n = r1 := by rw [← l1, List.take_left]
    have t4 : (r1 ++ r2.set k 49).drop a.n = r2.set k 49 := by rw [← l1, List.drop_left]
    rw [t1, t2, t3, t4, e1]
    exact opW_r h3
open Classical in
/-- the relevant issues are those that turn the cause -/
theorem rel3_turn : ∀ {t : Tr} {fs : List Nat} {s : Nat}, Fs fs → fs.length = t.n → rel3 t fs s = ((List.range t.n).filter fun k => decide (turnP t fs k)).map fun k => s + k
  | .leaf x b m, fs, s, h, hl => by
    match fs, hl with
    | [c], _ =>
      rw [rel3_leaf]
      by_cases e : val3 (.leaf x b m) [c] = none
      · rw [if_pos e]
        have hc : c = 63 := by
          rcases h c List.mem_cons_self with rfl | rfl | rfl
          · cases e
          · cases e
          · rfl
        subst hc
        have tp : turnP (.leaf x b m) [63] 0 := ⟨rfl, [48], ⟨48, [], rfl, .inr ⟨rfl, .inl rfl⟩, .inl rfl, rfl⟩, rfl, by show decide (48 = 49) ≠ decide (49 = 49); decide⟩
        show _ = ((List.range 1).filter _).map _
        rw [show List.range 1 = [0] from rfl, List.filter_cons, if_pos (decide_eq_true tp)]
        rfl
      · rw [if_neg e]
        have : ((List.range 1).filter fun k => decide (turnP (.leaf x b m) [c] k)) = [] := by
          rw [List.filter_eq_nil_iff]
          intro k _ z
          exact turn_det h (by rfl) e (of_decide_eq_true z)
        show _ = ((List.range 1).filter _).map _
        rw [this]
        rfl
  | .node w a b, fs, s, h, hl => by
    have hl' : fs.length = a.n + b.n := hl
    rw [rel3_node]
    by_cases e : val3 (.node w a b) fs = none
    · rw [if_pos e, rel3_turn (h.take a.n) (by rw [List.length_take]; omega), rel3_turn (h.drop a.n) (by rw [List.length_drop]; omega)]
      show _ = ((List.range (a.n + b.n)).filter _).map _
      rw [List.range_add, List.filter_append, List.map_append, List.filter_map, List.map_map]
      congr 1
      · congr 1
        refine List.filter_congr fun k hk => decide_eq_decide.mpr ?_
        exact (turn_l h hl' e (List.mem_range.mp hk)).symm
      · rw [show ((fun k => s + k) ∘ fun x => a.n + x) = fun k => s + a.n + k from funext fun k => (Nat.add_assoc s a.n k).symm]
        congr 1
        refine List.filter_congr fun k hk => decide_eq_decide.mpr ?_
        exact (turn_r h hl' e).symm
    · rw [if_neg e]
      have : ((List.range (Tr.node w a b).n).filter fun k => decide (turnP (.node w a b) fs k)) = [] := by
        rw [List.filter_eq_nil_iff]
        intro k _ z
        exact turn_det h hl e (of_decide_eq_true z)
      rw [this]
      rfl
def isTurn (t : Tr) (fs : List Nat) (k : Nat) : Bool := decide (fs.getD k 0 = 63) && decide (0 < (lows t fs k).length)
theorem isTurn_iff {t : Tr} {fs : List Nat} {k : Nat} (h : Fs fs) : isTurn t fs k = true ↔ turnP t fs k := by
  unfold isTurn
  rw [Bool.and_eq_true, decide_eq_true_eq, decide_eq_true_eq]
  constructor
  · rintro ⟨h1, h2⟩
    refine (turn_iff h ?_).mp h2
    rw [List.getD_eq_getElem?_getD] at h1
    cases e : fs[k]? with
    | none =>
      rw [e] at h1
      cases h1
    | some c =>
      rw [e] at h1
      exact congrArg some h1
  · intro z
    exact ⟨by rw [List.getD_eq_getElem?_getD, z.1]; rfl, (turn_iff h z.1).mpr z⟩
open Classical in
theorem rel3_is {t : Tr} {fs : List Nat} (h : Fs fs) (hl : fs.length = t.n) : rel3 t fs 0 = (List.range fs.length).filter (isTurn t fs) := by
  rw [rel3_turn h hl, hl, show (fun k => 0 + k) = (id : Nat → Nat) from funext fun k => Nat.zero_add k, List.map_id]
  refine List.filter_congr fun k _ => ?_
  have := isTurn_iff (t := t) (k := k) h
  cases q : isTurn t fs k
  · exact decide_eq_false fun z => by rw [this.mpr z] at q; cases q
  · exact decide_eq_true (this.mp q)
/-- findings that decide more -/
def Ext (f g : List Nat) : Prop := g.length = f.length ∧ ∀ i : Nat, g[i]? = f[i]? ∨ f[i]? = some 63
theorem Ext.snoc {f g : List Nat} {x v : Nat} (h : Ext f g) (e : v = x ∨ x = 63) : Ext (f ++ [x]) (g ++ [v]) := by
  refine ⟨by rw [List.length_append, List.length_append, h.1]; rfl, fun i => ?_⟩
  rcases Nat.lt_trichotomy i f.length with q | q | q
  · rw [List.getElem?_append_left (by rw [h.1]; exact q), List.getElem?_append_left q]
    exact h.2 i
  · rw [List.getElem?_append_right (by rw [h.1, q]; exact Nat.le_refl _), List.getElem?_append_right (by rw [q]; exact Nat.le_refl _), h.1, q, Nat.sub_self]
    rcases e with rfl | rfl
    · exact .inl rfl
    · exact .inr rfl
  · rw [List.getElem?_eq_none (by rw [List.length_append, h.1]; exact q), List.getElem?_eq_none (by rw [List.length_append]; exact q)]
    exact .inl rfl
theorem Ext.cmp : ∀ {f g r : List Nat}, Ext f g → Cmp g r → Cmp f r
  | [], g, r, h, hc => by
    have : g = [] := List.eq_nil_of_length_eq_zero h.1
    rwa [this] at hc
  | c :: f, [], r, h, hc => by cases h.1
  | c :: f, d :: g, r, h, hc => by
    obtain ⟨x, rs, rfl, e1, e2, hc⟩ := hc
    have h0 := h.2 0
    refine ⟨x, rs, rfl, ?_, e2, Ext.cmp (g := g) ⟨Nat.succ.inj h.1, fun i => by simpa using h.2 (i + 1)⟩ hc⟩
    rcases h0 with q | q
    · have q : d = c := by simpa using q
      rw [← q]
      exact e1
    · exact .inr ⟨by simpa using q, e2⟩
theorem Ext.turn {t : Tr} {f g : List Nat} {k : Nat} (h : Ext f g) (z : turnP t g k) : turnP t f k := by
  obtain ⟨h1, r, hr, h2, h3⟩ := z
  refine ⟨?_, r, h.cmp hr, h2, h3⟩
  rcases h.2 k with q | q
  · rw [← q]
    exact h1
  · exact q
theorem rel3_sub {t : Tr} {f g : List Nat} (hf : Fs f) (hg : Fs g) (l1 : f.length = t.n) (h : Ext f g) : ∀ k ∈ rel3 t g 0, k ∈ rel3 t f 0 := fun k hk => by
  rw [rel3_is hg (h.1.trans l1)] at hk
  rw [rel3_is hf l1]
  rw [List.mem_filter, List.mem_range] at hk ⊢
  exact ⟨by rw [← h.1]; exact hk.1, (isTurn_iff hf).mpr (h.turn ((isTurn_iff hg).mp hk.2))⟩
end Dl

/-! Dl: findings that stall a cause. -/
namespace Dl
open PySem L2
theorem val_open_iff {w : Str} {a b : Tr} {fs : List Nat} : val3 (.node w a b) fs = none ↔ (val3 b (fs.drop a.n) ≠ some (!nl w) ∧ val3 a (fs.take a.n) ≠ some (!nr w) ∧ (val3 a (fs.take a.n) = none ∨ val3 b (fs.drop a.n) = none)) := by
  rw [val_node]
  generalize val3 a (fs.take a.n) = x at *
  generalize val3 b (fs.drop a.n) = y at *
  unfold nl nr
  have hne : ¬ (Str.ofString "and" = Str.ofString "or") := by decide
  by_cases h1 : w = "and"
  · subst h1
    rcases x with _ | _ | _ <;> rcases y with _ | _ | _ <;> simp_all [both3, neg3]
  · by_cases h2 : w = "or"
    · rcases x with _ | _ | _ <;> rcases y with _ | _ | _ <;> simp_all [both3, neg3]
    · rcases x with _ | _ | _ <;> rcases y with _ | _ | _ <;> simp_all [both3, neg3]
theorem rel3_shift : ∀ {t : Tr} {fs : List Nat} {s : Nat}, rel3 t fs s = (rel3 t fs 0).map fun k => s + k
  | .leaf x b m, fs, s => by
    rw [rel3_leaf, rel3_leaf]
    split <;> rfl
  | .node w a b, fs, s => by
    rw [rel3_node, rel3_node]
    split
    · rw [List.map_append, rel3_shift (t := a), rel3_shift (t := b) (s := s + a.n), rel3_shift (t := b) (s := 0 + a.n), List.map_map]
      congr 1
      refine List.map_congr_left fun k _ => ?_
      show s + a.n + k = s + (0 + a.n + k)
      omega
    · rfl
theorem rel3_two {w : Str} {a b : Tr} {fs : List Nat} (e : val3 (.node w a b) fs = none) : rel3 (.node w a b) fs 0 = rel3 a (fs.take a.n) 0 ++ (rel3 b (fs.drop a.n) 0).map fun k => a.n + k := by
  rw [rel3_node, if_pos e, rel3_shift (t := b), Nat.zero_add]
def sgB (b : Bool) : Nat := if b then 49 else 48
theorem sgB_ok (b : Bool) : sgB b = 48 ∨ sgB b = 49 := by cases b <;> simp [sgB]
theorem Fs.set {fs : List Nat} (h : Fs fs) (k : Nat) (b : Bool) : Fs (fs.set k (sgB b)) := fun c hc => by
  rcases List.mem_or_eq_of_mem_set hc with hc | hc
  · exact h c hc
  · rw [hc]
    rcases sgB_ok b with q | q
    · exact .inl q
    · exact .inr (.inl q)
theorem Ext.set {fs : List Nat} {k : Nat} (e : fs[k]? = some 63) (v : Nat) : Ext fs (fs.set k v) := ⟨List.length_set, fun i => by
  by_cases q : k = i
  · subst q
    exact .inr e
  · rw [List.getElem?_set_ne q]
    exact .inl rfl⟩
theorem rel3_mem {t : Tr} {fs : List Nat} {k : Nat} (h : Fs fs) (hl : fs.length = t.n) (hk : k ∈ rel3 t fs 0) : fs[k]? = some 63 ∧ k < t.n := by
  rw [rel3_is h hl, List.mem_filter, List.mem_range] at hk
  exact ⟨((isTurn_iff h).mp hk.2).1, by omega⟩
/-- deciding one issue makes no other relevant -/
theorem rel3_set {t : Tr} {fs : List Nat} {k : Nat} (h : Fs fs) (hl : fs.length = t.n) (e : fs[k]? = some 63) (b : Bool) : ∀ x ∈ rel3 t (fs.set k (sgB b)) 0, x ∈ rel3 t fs 0 ∧ x ≠ k := fun x hx => by
  refine ⟨rel3_sub h (h.set k b) hl (Ext.set e _) x hx, fun q => ?_⟩
  subst q
  have m := (rel3_mem (h.set x b) (by rw [List.length_set]; exact hl) hx).1
  have lx : x < fs.length := (List.getElem?_eq_some_iff.mp e).1
  rw [List.getElem?_set_self lx] at m
  rcases sgB_ok b with q | q <;> rw [q] at m <;> cases m
theorem rel3_nodup {t : Tr} {fs : List Nat} (h : Fs fs) (hl : fs.length = t.n) : (rel3 t fs 0).Nodup := by
  rw [rel3_is h hl]
  exact List.Nodup.sublist List.filter_sublist List.nodup_range
def oth (l : List Nat) (k : Nat) : List Nat := l.filter fun x => x != k
theorem oth_len {l : List Nat} {k : Nat} (d : l.Nodup) (h : k ∈ l) : (oth l k).length + 1 = l.length := by
  unfold oth
  rw [← d.erase_eq_filter k, List.length_erase_of_mem h]
  have := List.length_pos_of_mem h
  omega
theorem Cmp.pin : ∀ {fs r : List Nat} {k : Nat}, Cmp fs r → fs[k]? = some 63 → ∃ b : Bool, Cmp (fs.set k (sgB b)) r
  | [], r, k, h, e => by simp at e
  | c :: fs, r, 0, h, e => by
    obtain ⟨x, rs, rfl, _, e2, h⟩ := h
    rcases e2 with rfl | rfl
    · exact ⟨false, 48, rs, rfl, .inl rfl, .inl rfl, h⟩
    · exact ⟨true, 49, rs, rfl, .inl rfl, .inr rfl, h⟩
  | c :: fs, r, k + 1, h, e => by
    obtain ⟨x, rs, rfl, e1, e2, h⟩ := h
    obtain ⟨b, hb⟩ := Cmp.pin h (by simpa using e)
    exact ⟨b, x, rs, rfl, e1, e2, hb⟩
/-- the two findings on an issue that alone is relevant lead to two values -/
theorem val_split {t : Tr} {fs : List Nat} {k : Nat} {z : Bool} (h : Fs fs) (hl : fs.length = t.n) (e : fs[k]? = some 63) (hv : val3 t fs = none) (h1 : ∀ b, val3 t (fs.set k (sgB b)) = some z) : False := by
  obtain ⟨r, hr, er⟩ := can_of (b := !z) h hl (by rw [hv]; exact nofun)
  obtain ⟨b, hb⟩ := hr.pin e
  have := can_not (h.set k b) (by rw [List.length_set]; exact hl) (h1 b) hb
  rw [er] at this
  cases z <;> cases this
theorem val_alone {t : Tr} {fs : List Nat} {k : Nat} (h : Fs fs) (hl : fs.length = t.n) (hr : rel3 t fs 0 = [k]) : ∃ z : Bool, val3 t (fs.set k (sgB true)) = some z ∧ val3 t (fs.set k (sgB false)) = some (!z) := by
  have hk : k ∈ rel3 t fs 0 := by rw [hr]; exact List.mem_singleton.mpr rfl
  have e := (rel3_mem h hl hk).1
  have hv : val3 t fs = none := by
    cases q : val3 t fs with
    | none => rfl
    | some z =>
      have := rel3_nil (s := 0).mpr (by rw [q]; exact nofun : val3 t fs ≠ none)
      rw [hr] at this
      cases this
  have det : ∀ b, ∃ z, val3 t (fs.set k (sgB b)) = some z := fun b => by
    refine Option.ne_none_iff_exists'.mp (rel3_nil (s := 0).mp ?_)
    cases q : rel3 t (fs.set k (sgB b)) 0 with
    | nil => rfl
    | cons x xs =>
      obtain ⟨h1, h2⟩ := rel3_set h hl e b x (by rw [q]; exact List.mem_cons_self)
      rw [hr] at h1
      exact absurd (List.mem_singleton.mp h1) h2
  obtain ⟨z, hz⟩ := det true
  obtain ⟨y, hy⟩ := det false
  refine ⟨z, hz, ?_⟩
  by_cases q : y = z
  · subst q
    exact (val_split h hl e hv fun b => by cases b <;> assumption).elim
  · rw [hy]
    cases y <;> cases z <;> simp_all
def stf : Tr → List Nat → Nat → Bool
  | .leaf _ _ _, _, _ => true
  | .node w a b, fs, k =>
    if (rel3 (.node w a b) fs 0).length = 1 then true
    else if k < a.n then
      if 1 < (rel3 a (fs.take a.n) 0).length then stf a (fs.take a.n) k else decide (val3 a ((fs.take a.n).set k (sgB true)) = some (nr w))
    else
      if 1 < (rel3 b (fs.drop a.n) 0).length then stf b (fs.drop a.n) (k - a.n) else decide (val3 b ((fs.drop a.n).set (k - a.n) (sgB true)) = some (nl w))
theorem stf_node {w : Str} {a b : Tr} {fs : List Nat} {k : Nat} : stf (.node w a b) fs k = if (rel3 (.node w a b) fs 0).length = 1 then true
    else if k < a.n then
      if 1 < (rel3 a (fs.take a.n) 0).length then stf a (fs.take a.n) k else decide (val3 a ((fs.take a.n).set k (sgB true)) = some (nr w))
    else
      if 1 < (rel3 b (fs.drop a.n) 0).length then stf b (fs.drop a.n) (k - a.n) else decide (val3 b ((fs.drop a.n).set (k - a.n) (sgB true)) = some (nl w)) := rfl
structure Stall (t : Tr) (fs : List Nat) (k : Nat) (s : Bool) : Prop where
  keeps : rel3 t (fs.set k (sgB s)) 0 = oth (rel3 t fs 0) k
  less : oth (rel3 t fs 0) k ≠ [] → (rel3 t (fs.set k (sgB !s)) 0).length < (oth (rel3 t fs 0) k).length
  one : oth (rel3 t fs 0) k = [] → s = true
theorem rel3_one {t : Tr} {fs : List Nat} {k : Nat} (h : Fs fs) (hl : fs.length = t.n) (hk : k ∈ rel3 t fs 0) (h1 : (rel3 t fs 0).length = 1) : Stall t fs k true := by
  have e := (rel3_mem h hl hk).1
  have d := oth_len (rel3_nodup h hl) hk
  have o : oth (rel3 t fs 0) k = [] := List.eq_nil_of_length_eq_zero (by omega)
  refine ⟨?_, fun z => absurd o z, fun _ => rfl⟩
  rw [o]
  cases q : rel3 t (fs.set k (sgB true)) 0 with
  | nil => rfl
  | cons x xs =>
    obtain ⟨m1, m2⟩ := rel3_set h hl e true x (by rw [q]; exact List.mem_cons_self)
    have : x ∈ oth (rel3 t fs 0) k := by
      unfold oth
      rw [List.mem_filter]
      exact ⟨m1, by simpa using m2⟩
    rw [o] at this
    cases this
theorem oth_app (l m : List Nat) (k : Nat) : oth (l ++ m) k = oth l k ++ oth m k := List.filter_append _ _
theorem oth_all {l : List Nat} {k : Nat} (h : ∀ x ∈ l, x ≠ k) : oth l k = l := List.filter_eq_self.mpr fun x hx => by simpa using h x hx
theorem oth_map {l : List Nat} {j k : Nat} : oth (l.map fun x => j + x) (j + k) = (oth l k).map fun x => j + x := by
  unfold oth
  rw [List.filter_map]
  congr 1
  refine List.filter_congr fun x _ => ?_
  show (j + x != j + k) = (x != k)
  by_cases q : x = k
  · subst q
    simp
  · have : j + x ≠ j + k := by omega
    rw [bne_iff_ne.mpr q, bne_iff_ne.mpr this]
/-- the one or the other finding on an issue stalls -/
theorem stalls : ∀ {t : Tr} {fs : List Nat} {k : Nat}, Fs fs → fs.length = t.n → k ∈ rel3 t fs 0 → Stall t fs k (stf t fs k)
  | .leaf x b m, fs, k, h, hl, hk => rel3_one h hl hk (by
      have l1 := rel3_len (t := .leaf x b m) (fs := fs) (s := 0)
      have l2 := List.length_pos_of_mem hk
      have : (Tr.leaf x b m).n = 1 := rfl
      omega)
  | .node w a b, fs, k, h, hl, hk => by
    have hl' : fs.length = a.n + b.n := hl
    have la : (fs.take a.n).length = a.n := by rw [List.length_take]; omega
    have lb : (fs.drop a.n).length = b.n := by rw [List.length_drop]; omega
    rw [stf_node]
    by_cases h1 : (rel3 (.node w a b) fs 0).length = 1
    · rw [if_pos h1]
      exact rel3_one h hl hk h1
    rw [if_neg h1]
    have hv : val3 (.node w a b) fs = none := by
      cases q : val3 (.node w a b) fs with
      | none => rfl
      | some z =>
        have := rel3_nil (s := 0).mpr (by rw [q]; exact nofun : val3 (.node w a b) fs ≠ none)
        rw [this] at hk
        cases hk
    obtain ⟨v1, v2, v3⟩ := val_open_iff.mp hv
    have r2 := rel3_two hv
    have dn := oth_len (rel3_nodup h hl) hk
    have kn := (rel3_mem h hl hk).2
    have pos := List.length_pos_of_mem hk
    have ko : oth (rel3 (.node w a b) fs 0) k ≠ [] := fun z => by
      rw [z] at dn
      exact h1 dn.symm
    by_cases hka : k < a.n
    · rw [if_pos hka]
      have ma : k ∈ rel3 a (fs.take a.n) 0 := by
        rw [r2] at hk
        rcases List.mem_append.mp hk with z | z
        · exact z
        · obtain ⟨y, _, hy⟩ := List.mem_map.mp z
          omega
      have ob : oth ((rel3 b (fs.drop a.n) 0).map fun k => a.n + k) k = (rel3 b (fs.drop a.n) 0).map fun k => a.n + k := oth_all fun x hx => by
        obtain ⟨y, _, hy⟩ := List.mem_map.mp hx
        omega
      have da := oth_len (rel3_nodup (h.take a.n) la) ma
      have st : ∀ v, (fs.set k v).take a.n = (fs.take a.n).set k v := fun v => List.take_set
      have sd : ∀ v, (fs.set k v).drop a.n = fs.drop a.n := fun v => List.drop_set_of_lt hka
      have oe : oth (rel3 (.node w a b) fs 0) k = oth (rel3 a (fs.take a.n) 0) k ++ (rel3 b (fs.drop a.n) 0).map fun k => a.n + k := by rw [r2, oth_app, ob]
      by_cases h2 : 1 < (rel3 a (fs.take a.n) 0).length
      · rw [if_pos h2]
        obtain ⟨i1, i2, i3⟩ := stalls (h.take a.n) la ma
        generalize stf a (fs.take a.n) k = s at *
        have na : oth (rel3 a (fs.take a.n) 0) k ≠ [] := fun z => by
          rw [z] at da
          simp at da
          omega
        have xa : val3 a ((fs.take a.n).set k (sgB s)) = none := by
          cases q : val3 a ((fs.take a.n).set k (sgB s)) with
          | none => rfl
          | some z =>
            have := rel3_nil (s := 0).mpr (by rw [q]; exact nofun : val3 a ((fs.take a.n).set k (sgB s)) ≠ none)
            rw [i1] at this
            exact absurd this na
        have vs : val3 (.node w a b) (fs.set k (sgB s)) = none := val_open_iff.mpr (by rw [st, sd, xa]; exact ⟨v1, nofun, .inl rfl⟩)
        refine ⟨?_, fun _ => ?_, fun z => absurd z ko⟩
        · rw [rel3_two vs, st, sd, i1, oe]
        · rw [oe, List.length_append]
          have i2 := i2 na
          by_cases q : val3 (.node w a b) (fs.set k (sgB !s)) = none
          · rw [rel3_two q, st, sd, List.length_append]
            omega
          · rw [rel3_nil.mpr q]
            show 0 < _
            omega
      · rw [if_neg h2]
        have ra : rel3 a (fs.take a.n) 0 = [k] := by
          match e : rel3 a (fs.take a.n) 0, ma, h2 with
          | [x], ma, _ => rw [List.mem_singleton.mp ma]
          | x :: y :: l, _, h2 => simp at h2
        obtain ⟨z, z1, z2⟩ := val_alone (h.take a.n) la ra
        have nb : rel3 b (fs.drop a.n) 0 ≠ [] := fun q => h1 (by rw [r2, ra, q]; rfl)
        have yb : val3 b (fs.drop a.n) = none := by
          cases q : val3 b (fs.drop a.n) with
          | none => rfl
          | some y => exact absurd (rel3_nil.mpr (by rw [q]; exact nofun)) nb
        have key : ∀ s : Bool, val3 a ((fs.take a.n).set k (sgB s)) = some (nr w) → val3 a ((fs.take a.n).set k (sgB !s)) = some (!nr w) → Stall (.node w a b) fs k s := fun s y1 y2 => by
          have vs : val3 (.node w a b) (fs.set k (sgB s)) = none := val_open_iff.mpr (by rw [st, sd, y1, yb]; exact ⟨nofun, by cases nr w <;> decide, .inr rfl⟩)
          have vn : val3 (.node w a b) (fs.set k (sgB !s)) ≠ none := fun q => (val_open_iff.mp q).2.1 (by rw [st, y2])
          refine ⟨?_, fun _ => ?_, fun q => absurd q ko⟩
          · rw [rel3_two vs, st, sd, oe, ra, rel3_nil.mpr (by rw [y1]; exact nofun)]
            congr 1
            unfold oth
            simp
          · rw [rel3_nil.mpr vn]
            exact List.length_pos_iff.mpr ko
        rw [z1]
        by_cases q : z = nr w
        · subst q
          rw [decide_eq_true rfl]
          exact key true z1 z2
        · have q2 : z = !nr w := by cases z <;> cases hw : nr w <;> simp_all
          rw [decide_eq_false (fun p => q (Option.some.inj p))]
          rw [q2] at z1 z2
          rw [Bool.not_not] at z2
          exact key false z2 z1
    · rw [if_neg hka]
      obtain ⟨j, rfl⟩ : ∃ j, k = a.n + j := ⟨k - a.n, by omega⟩
      rw [Nat.add_sub_cancel_left]
      have mb : j ∈ rel3 b (fs.drop a.n) 0 := by
        rw [r2] at hk
        rcases List.mem_append.mp hk with z | z
        · have := (rel3_mem (h.take a.n) la z).2
          omega
        · obtain ⟨y, hy, e⟩ := List.mem_map.mp z
          have : y = j := by omega
          rwa [← this]
      have oa : oth (rel3 a (fs.take a.n) 0) (a.n + j) = rel3 a (fs.take a.n) 0 := oth_all fun x hx => by
        have := (rel3_mem (h.take a.n) la hx).2
        omega
      have db := oth_len (rel3_nodup (h.drop a.n) lb) mb
      have st : ∀ v, (fs.set (a.n + j) v).take a.n = fs.take a.n := fun v => List.take_set_of_le (by omega)
      have sd : ∀ v, (fs.set (a.n + j) v).drop a.n = (fs.drop a.n).set j v := fun v => by rw [List.drop_set, if_neg (by omega), Nat.add_sub_cancel_left]
      have oe : oth (rel3 (.node w a b) fs 0) (a.n + j) = rel3 a (fs.take a.n) 0 ++ (oth (rel3 b (fs.drop a.n) 0) j).map fun k => a.n + k := by rw [r2, oth_app, oa, oth_map]
      by_cases h2 : 1 < (rel3 b (fs.drop a.n) 0).length
      · rw [if_pos h2]
        obtain ⟨i1, i2, i3⟩ := stalls (h.drop a.n) lb mb
        generalize stf b (fs.drop a.n) j = s at *
        have nb : oth (rel3 b (fs.drop a.n) 0) j ≠ [] := fun z => by
          rw [z] at db
          simp at db
          omega
        have xb : val3 b ((fs.drop a.n).set j (sgB s)) = none := by
          cases q : val3 b ((fs.drop a.n).set j (sgB s)) with
          | none => rfl
          | some z =>
            have := rel3_nil (s := 0).mpr (by rw [q]; exact nofun : val3 b ((fs.drop a.n).set j (sgB s)) ≠ none)
            rw [i1] at this
            exact absurd this nb
        have vs : val3 (.node w a b) (fs.set (a.n + j) (sgB s)) = none := val_open_iff.mpr (by rw [st, sd, xb]; exact ⟨nofun, v2, .inr rfl⟩)
        refine ⟨?_, fun _ => ?_, fun z => absurd z ko⟩
        · rw [rel3_two vs, st, sd, i1, oe]
        · rw [oe, List.length_append, List.length_map]
          have i2 := i2 nb
          by_cases q : val3 (.node w a b) (fs.set (a.n + j) (sgB !s)) = none
          · rw [rel3_two q, st, sd, List.length_append, List.length_map]
            omega
          · rw [rel3_nil.mpr q]
            show 0 < _
            omega
      · rw [if_neg h2]
        have rb : rel3 b (fs.drop a.n) 0 = [j] := by
          match e : rel3 b (fs.drop a.n) 0, mb, h2 with
          | [x], mb, _ => rw [List.mem_singleton.mp mb]
          | x :: y :: l, _, h2 => simp at h2
        obtain ⟨z, z1, z2⟩ := val_alone (h.drop a.n) lb rb
        have na : rel3 a (fs.take a.n) 0 ≠ [] := fun q => h1 (by rw [r2, rb, q]; rfl)
        have ya : val3 a (fs.take a.n) = none := by
          cases q : val3 a (fs.take a.n) with
          | none => rfl
          | some y => exact absurd (rel3_nil.mpr (by rw [q]; exact nofun)) na
        have key : ∀ s : Bool, val3 b ((fs.drop a.n).set j (sgB s)) = some (nl w) → val3 b ((fs.drop a.n).set j (sgB !s)) = some (!nl w) → Stall (.node w a b) fs (a.n + j) s := fun s y1 y2 => by
          have vs : val3 (.node w a b) (fs.set (a.n + j) (sgB s)) = none := val_open_iff.mpr (by rw [st, sd, y1, ya]; exact ⟨by cases nl w <;> decide, nofun, .inl rfl⟩)
          have vn : val3 (.node w a b) (fs.set (a.n + j) (sgB !s)) ≠ none := fun q => (val_open_iff.mp q).1 (by rw [sd, y2])
          refine ⟨?_, fun _ => ?_, fun q => absurd q ko⟩
          · have e0 : rel3 b ((fs.drop a.n).set j (sgB s)) 0 = [] := rel3_nil.mpr (by rw [y1]; exact nofun)
            rw [rel3_two vs, st, sd, oe, rb, e0]
            congr 1
            unfold oth
            simp
          · rw [rel3_nil.mpr vn]
            exact List.length_pos_iff.mpr ko
        rw [z1]
        by_cases q : z = nl w
        · subst q
          rw [decide_eq_true rfl]
          exact key true z1 z2
        · have q2 : z = !nl w := by cases z <;> cases hw : nl w <;> simp_all
          rw [decide_eq_false (fun p => q (Option.some.inj p))]
          rw [q2] at z1 z2
          rw [Bool.not_not] at z2
          exact key false z2 z1
end Dl

/-! Dl: degrees of values; tuples of numbers compared. -/
namespace Dl
open PySem L2
theorem eqP_nats (a b : List Nat) : eqP (.tup (a.map nI)) (.tup (b.map nI)) = decide (a = b) := by
  have key : ∀ a b : List Nat, PyData.eqvAll (toPys (a.map nI)) (toPys (b.map nI)) = decide (a = b) := fun a => by
    induction a with
    | nil =>
      intro b
      cases b with
      | nil => rfl
      | cons y ys => rfl
    | cons x xs ih =>
      intro b
      cases b with
      | nil => rfl
      | cons y ys =>
        show (PyData.eqv (.int (x : Int)) (.int (y : Int)) && PyData.eqvAll (toPys (xs.map nI)) (toPys (ys.map nI))) = _
        rw [ih]
        show (((x : Int) == (y : Int)) && decide (xs = ys)) = _
        by_cases h : x = y
        · subst h
          simp
        · have h2 : ¬ (x : Int) = (y : Int) := by omega
          simp [h, h2]
  exact key a b
theorem sh_nats (l : List Nat) : shP (.tup (l.map nI)) = true := pi_sh pi_nats (by decide)
theorem set_cut {fs : List Nat} {k v : Nat} (h : k < fs.length) : fs.take k ++ [v] ++ fs.drop (k + 1) = fs.set k v := by
  rw [List.set_eq_take_append_cons_drop, if_pos h, List.append_assoc]
  rfl
theorem stalls_eq {t : Tr} {fs : List Nat} {k : Nat} (h : Fs fs) (hl : fs.length = t.n) (hk : k ∈ rel3 t fs 0) : decide (rel3 t (fs.set k (sgB true)) 0 = oth (rel3 t fs 0) k) = stf t fs k := by
  obtain ⟨s1, s2, s3⟩ := stalls h hl hk
  cases e : stf t fs k
  · rw [e] at s1 s2 s3
    refine decide_eq_false fun q => ?_
    have ne : oth (rel3 t fs 0) k ≠ [] := fun z => by cases s3 z
    have := s2 ne
    rw [show (!false) = true from rfl, q] at this
    omega
  · rw [e] at s1
    exact decide_eq_true s1
theorem eq_bD {v : Option Bool} {z : Bool} {P : D → Prop} : eqR (bD v) (.bl z) P = P (.bl (decide (v = some z))) := by
  rcases v with _ | v
  · rfl
  · show P (.bl (decide (v = z))) = _
    simp
/-- the degree of a value -/
def vd : Option Bool → Nat
  | some false => 0
  | none => 1
  | some true => 2
theorem vd_le (v : Option Bool) : vd v ≤ 2 := by rcases v with _ | _ | _ <;> decide
theorem vd_one {v : Option Bool} : vd v = 1 ↔ v = none := by rcases v with _ | _ | _ <;> simp [vd]
theorem vd_and (x y : Option Bool) : vd (both3 x y) = if vd y < vd x then vd y else vd x := by rcases x with _ | _ | _ <;> rcases y with _ | _ | _ <;> rfl
theorem vd_or (x y : Option Bool) : vd (neg3 (both3 (neg3 x) (neg3 y))) = if vd y > vd x then vd y else vd x := by rcases x with _ | _ | _ <;> rcases y with _ | _ | _ <;> rfl
theorem vd_neg (x : Option Bool) : vd (neg3 x) = 2 - vd x := by rcases x with _ | _ | _ <;> rfl
end Dl

/-! Dl: not, of any value. -/
namespace Dl
open PySem L2
def rNotT (r : DV) : DV := fun δ Q => r δ fun w δ1 => match vget δ1 w with
  | some d => truD d fun b => Q (.val (.bl (!b))) δ1
  | none => False
theorem e_notT {X : Cx} {a : Expr} {ra : DV} {pos : Pos} (h : PE X a (liftV X.K ra)) : PE X (.UnaryOp .Not a pos) (liftV X.K (rNotT ra)) :=
  pe_wk (pe_notT h) fun σ H Q ⟨c, F, δ, P, S, h, k⟩ => ⟨c, F, δ, _, S, h, fun w δ1 h1 v F1 H1 e1 S1 r1 => by
    replace k := fun w δ' hp F' H' e' S' v' r' => k w δ' hp v' F' H' e' S' r'
    cases q : vget δ1 w with
    | none => simp only [q] at h1
    | some d =>
      simp only [q] at h1
      have rv := S1.view r1 q
      cases d with
      | non =>
        have e : v = .non := by simpa only [RepV, Rep] using rv
        subst e
        exact ⟨false, rfl, k _ _ h1 F1 H1 e1 S1 _ bl_rel⟩
      | bl b =>
        have e : v = .bl b := by simpa only [RepV, Rep] using rv
        subst e
        exact ⟨b, rfl, k _ _ h1 F1 H1 e1 S1 _ bl_rel⟩
      | int i =>
        have e : v = .int i := by simpa only [RepV, Rep] using rv
        subst e
        exact ⟨_, rfl, k _ _ h1 F1 H1 e1 S1 _ bl_rel⟩
      | str x =>
        have e : v = .str x := by simpa only [RepV, Rep] using rv
        subst e
        exact ⟨_, ⟨line_le h1.1, rfl⟩, k _ _ h1.2 F1 H1 e1 S1 _ bl_rel⟩
      | tup ds =>
        simp only [RepV, Rep] at rv
        obtain ⟨a, vs, rfl, g1, g2⟩ := rv
        refine ⟨!ds.isEmpty, Or.inr (Or.inl ⟨vs, same_t S1.sub g1, ?_⟩), k _ _ h1 F1 H1 e1 S1 _ bl_rel⟩
        cases ds with
        | nil => rw [g2.unnil]; rfl
        | cons d ds =>
          obtain ⟨v, us, rfl, _⟩ := g2.uncons
          rfl
      | lst ds =>
        obtain ⟨a, vs, rfl, g1, g2⟩ := rv
        refine ⟨!ds.isEmpty, Or.inl ⟨vs, SqL.of g1, ?_⟩, k _ _ h1 F1 H1 e1 S1 _ bl_rel⟩
        cases ds with
        | nil => rw [g2.unnil]; rfl
        | cons d ds =>
          obtain ⟨v, us, rfl, _⟩ := g2.uncons
          rfl
      | rol ds =>
        simp only [RepV, Rep] at rv
        obtain ⟨a, vs, rfl, g1, g2⟩ := rv
        refine ⟨!ds.isEmpty, Or.inl ⟨vs, same_l S1.sub g1, ?_⟩, k _ _ h1 F1 H1 e1 S1 _ bl_rel⟩
        cases ds with
        | nil => rw [g2.unnil]; rfl
        | cons d ds =>
          obtain ⟨v, us, rfl, _⟩ := g2.uncons
          rfl⟩
def kNotT (Q : Vw → DS → Prop) : Vw → DS → Prop := fun w δ1 => match vget δ1 w with
  | some d => truD d fun b => Q (.val (.bl (!b))) δ1
  | none => False
theorem ev_notT {r : DV} {δ : DS} {Q : Vw → DS → Prop} : rNotT r δ Q = r δ (kNotT Q) := rfl
theorem ev_knotTt {δ : DS} {Q : Vw → DS → Prop} {ds : List D} : kNotT Q (.val (.tup ds)) δ = Q (.val (.bl (!(!ds.isEmpty)))) δ := rfl
end Dl

/-! Dl: findings that favour a side. -/
namespace Dl
open PySem L2
/-- the party of the right part -/
def sw (w : Str) (p : Bool) : Bool := if w = "unless" then !p else p
def sdB : Tr → Bool → List Bool
  | .leaf _ _ _, p => [p]
  | .node w a b, p => sdB a p ++ sdB b (if w = "unless" then !p else p)
theorem sdB_n : ∀ (t : Tr) (p : Bool), (sdB t p).length = t.n
  | .leaf _ _ _, _ => rfl
  | .node w a b, p => by
    show (sdB a p ++ sdB b _).length = a.n + b.n
    rw [List.length_append, sdB_n, sdB_n]
theorem sdB_not : ∀ (t : Tr) (p : Bool), (sdB t p).map not = sdB t (!p)
  | .leaf _ _ _, _ => rfl
  | .node w a b, p => by
    show (sdB a p ++ sdB b _).map not = sdB a (!p) ++ sdB b _
    rw [List.map_append, sdB_not, sdB_not]
    congr 2
    by_cases h : w = "unless"
    · rw [if_pos h, if_pos h]
    · rw [if_neg h, if_neg h]
/-- a finding's degree -/
def dg (c : Nat) : Nat := vd (sgn3 c)
def Fav : List Bool → List Nat → List Nat → Prop
  | [], f, g => f = [] ∧ g = []
  | s :: ss, f, g => ∃ c d f' g', f = c :: f' ∧ g = d :: g' ∧ (s = true → dg c ≤ dg d) ∧ (s = false → dg d ≤ dg c) ∧ Fav ss f' g'
theorem Fav.len : ∀ {ss : List Bool} {f g : List Nat}, Fav ss f g → f.length = ss.length ∧ g.length = ss.length
  | [], f, g, h => by
    rw [h.1, h.2]
    exact ⟨rfl, rfl⟩
  | s :: ss, f, g, h => by
    obtain ⟨c, d, f, g, rfl, rfl, _, _, h⟩ := h
    have := h.len
    exact ⟨congrArg (· + 1) this.1, congrArg (· + 1) this.2⟩
theorem Fav.split : ∀ {s1 s2 : List Bool} {f g : List Nat}, Fav (s1 ++ s2) f g → Fav s1 (f.take s1.length) (g.take s1.length) ∧ Fav s2 (f.drop s1.length) (g.drop s1.length)
  | [], s2, f, g, h => ⟨⟨rfl, rfl⟩, h⟩
  | s :: s1, s2, f, g, h => by
    obtain ⟨c, d, f, g, rfl, rfl, h1, h2, h⟩ := h
    obtain ⟨h3, h4⟩ := Fav.split (s1 := s1) h
    exact ⟨⟨c, d, _, _, rfl, rfl, h1, h2, h3⟩, h4⟩
theorem Fav.snoc : ∀ {ss : List Bool} {f g : List Nat} {s : Bool} {c d : Nat}, Fav ss f g → (s = true → dg c ≤ dg d) → (s = false → dg d ≤ dg c) → Fav (ss ++ [s]) (f ++ [c]) (g ++ [d])
  | [], f, g, s, c, d, h, h1, h2 => by
    rw [h.1, h.2]
    exact ⟨c, d, [], [], rfl, rfl, h1, h2, rfl, rfl⟩
  | s' :: ss, f, g, s, c, d, h, h1, h2 => by
    obtain ⟨c', d', f, g, rfl, rfl, h3, h4, h⟩ := h
    exact ⟨c', d', _, _, rfl, rfl, h3, h4, h.snoc h1 h2⟩
theorem Fav.refl : ∀ {ss : List Bool} {f : List Nat}, f.length = ss.length → Fav ss f f
  | [], [], _ => ⟨rfl, rfl⟩
  | s :: ss, c :: f, h => ⟨c, c, f, f, rfl, rfl, fun _ => Nat.le_refl _, fun _ => Nat.le_refl _, Fav.refl (Nat.succ.inj h)⟩
  | [], c :: f, h => by cases h
  | s :: ss, [], h => by cases h
theorem Fav.set_up : ∀ {ss : List Bool} {f : List Nat} {k : Nat}, f.length = ss.length → f[k]? = some 48 → ss[k]? = some true → Fav ss f (f.set k 49)
  | s :: ss, c :: f, 0, h, h1, h2 => by
    obtain rfl : c = 48 := by simpa using h1
    exact ⟨48, 49, f, f, rfl, rfl, fun _ => by decide, fun z => (by rw [z] at h2; cases h2), Fav.refl (Nat.succ.inj h)⟩
  | s :: ss, c :: f, k + 1, h, h1, h2 => ⟨c, c, f, f.set k 49, rfl, rfl, fun _ => Nat.le_refl _, fun _ => Nat.le_refl _, Fav.set_up (Nat.succ.inj h) (by simpa using h1) (by simpa using h2)⟩
  | [], f, k, h, h1, h2 => by simp at h2
  | s :: ss, [], k, h, h1, h2 => by simp at h1
theorem Fav.set_dn : ∀ {ss : List Bool} {f : List Nat} {k : Nat}, f.length = ss.length → f[k]? = some 48 → ss[k]? = some false → Fav ss (f.set k 49) f
  | s :: ss, c :: f, 0, h, h1, h2 => by
    obtain rfl : c = 48 := by simpa using h1
    exact ⟨49, 48, f, f, rfl, rfl, fun z => (by rw [z] at h2; cases h2), fun _ => by decide, Fav.refl (Nat.succ.inj h)⟩
  | s :: ss, c :: f, k + 1, h, h1, h2 => ⟨c, c, f.set k 49, f, rfl, rfl, fun _ => Nat.le_refl _, fun _ => Nat.le_refl _, Fav.set_dn (Nat.succ.inj h) (by simpa using h1) (by simpa using h2)⟩
  | [], f, k, h, h1, h2 => by simp at h2
  | s :: ss, [], k, h, h1, h2 => by simp at h1
/-- what favours a side more does not turn the value against it -/
theorem fav_val : ∀ {t : Tr} {p : Bool} {f g : List Nat}, t.ok → Fav (sdB t p) f g → (p = true → vd (val3 t f) ≤ vd (val3 t g)) ∧ (p = false → vd (val3 t g) ≤ vd (val3 t f))
  | .leaf _ _ _, p, f, g, _, h => by
    obtain ⟨c, d, f, g, rfl, rfl, h1, h2, _⟩ := h
    exact ⟨h1, h2⟩
  | .node w a b, p, f, g, ok, h => by
    have h : Fav (sdB a p ++ sdB b (if w = "unless" then !p else p)) f g := h
    obtain ⟨ha, hb⟩ := h.split
    rw [sdB_n] at ha hb
    have ia := fav_val ok.2.1 ha
    have ib := fav_val ok.2.2 hb
    rw [val_node, val_node]
    generalize val3 a (f.take a.n) = x at *
    generalize val3 a (g.take a.n) = x' at *
    generalize val3 b (f.drop a.n) = y at *
    generalize val3 b (g.drop a.n) = y' at *
    have l1 := vd_le x
    have l2 := vd_le x'
    have l3 := vd_le y
    have l4 := vd_le y'
    by_cases h1 : w = "and"
    · have hu : ¬ w = "unless" := by rw [h1]; decide
      rw [if_neg hu] at ib
      rw [if_pos h1, if_pos h1, vd_and, vd_and]
      cases p <;> simp at ia ib ⊢ <;> (split <;> split <;> omega)
    · rw [if_neg h1, if_neg h1]
      by_cases h2 : w = "or"
      · have hu : ¬ w = "unless" := by rw [h2]; decide
        rw [if_neg hu] at ib
        rw [if_pos h2, if_pos h2, vd_or, vd_or]
        cases p <;> simp at ia ib ⊢ <;> (split <;> split <;> omega)
      · rw [if_neg h2, if_neg h2, vd_and, vd_and, vd_neg, vd_neg]
        have hu : w = "unless" := (ok.1.resolve_left h1).resolve_left h2
        rw [if_pos hu] at ib
        cases p <;> simp at ia ib ⊢ <;> (split <;> split <;> omega)
theorem val_best : ∀ {t : Tr} {p : Bool}, t.ok → val3 t ((sdB t p).map sgB) = some p
  | .leaf _ _ _, p, _ => by cases p <;> rfl
  | .node w a b, p, ok => by
    have e : (sdB (.node w a b) p).map sgB = (sdB a p).map sgB ++ (sdB b (if w = "unless" then !p else p)).map sgB := List.map_append
    have l : ((sdB a p).map sgB).length = a.n := by rw [List.length_map, sdB_n]
    have t1 : ((sdB (.node w a b) p).map sgB).take a.n = (sdB a p).map sgB := by rw [e, ← l, List.take_left]
    have t2 : ((sdB (.node w a b) p).map sgB).drop a.n = (sdB b (if w = "unless" then !p else p)).map sgB := by rw [e, ← l, List.drop_left]
    rw [val_node, t1, t2, val_best ok.2.1, val_best ok.2.2]
    rcases ok.1 with rfl | rfl | rfl <;> cases p <;> decide
theorem val_q : ∀ {t : Tr} {fs : List Nat}, (∀ c ∈ fs, c = 63) → fs.length = t.n → val3 t fs = none
  | .leaf _ _ _, fs, h, hl => by
    match fs, hl with
    | [c], _ =>
      obtain rfl := h c List.mem_cons_self
      rfl
  | .node w a b, fs, h, hl => by
    have hl : fs.length = a.n + b.n := hl
    rw [val_node, val_q (fun c hc => h c (List.mem_of_mem_take hc)) (by rw [List.length_take]; omega), val_q (fun c hc => h c (List.mem_of_mem_drop hc)) (by rw [List.length_drop]; omega)]
    split
    · rfl
    · split <;> rfl
theorem rel_q : ∀ {t : Tr} {fs : List Nat} {s : Nat}, (∀ c ∈ fs, c = 63) → fs.length = t.n → rel3 t fs s = (List.range t.n).map fun k => s + k
  | .leaf _ _ _, fs, s, h, hl => by
    rw [rel3_leaf, if_pos (val_q h hl)]
    rfl
  | .node w a b, fs, s, h, hl => by
    have hl' : fs.length = a.n + b.n := hl
    rw [rel3_node, if_pos (val_q h hl), rel_q (fun c hc => h c (List.mem_of_mem_take hc)) (by rw [List.length_take]; omega), rel_q (fun c hc => h c (List.mem_of_mem_drop hc)) (by rw [List.length_drop]; omega)]
    show _ = (List.range (a.n + b.n)).map _
    rw [List.range_add, List.map_append, List.map_map]
    congr 1
    refine List.map_congr_left fun k _ => ?_
    show s + a.n + k = s + (a.n + k)
    omega
theorem val_bits : ∀ {t : Tr} {r : List Nat}, (∀ c ∈ r, c = 48 ∨ c = 49) → r.length = t.n → val3 t r = some (tru t r)
  | .leaf _ _ _, r, h, hl => by
    match r, hl with
    | [c], _ => rcases h c List.mem_cons_self with rfl | rfl <;> rfl
  | .node w a b, r, h, hl => by
    have hl : r.length = a.n + b.n := hl
    rw [val_node, tru_node, val_bits (fun c hc => h c (List.mem_of_mem_take hc)) (by rw [List.length_take]; omega), val_bits (fun c hc => h c (List.mem_of_mem_drop hc)) (by rw [List.length_drop]; omega)]
    generalize tru a (r.take a.n) = x
    generalize tru b (r.drop a.n) = y
    unfold opW
    split
    · cases x <;> cases y <;> rfl
    · split <;> cases x <;> cases y <;> rfl
theorem Cmp.bits : ∀ {fs r : List Nat}, Cmp fs r → ∀ c ∈ r, c = 48 ∨ c = 49
  | [], r, h, c, hc => by
    rw [show r = [] from h] at hc
    cases hc
  | d :: fs, r, h, c, hc => by
    obtain ⟨x, rs, rfl, _, e2, h⟩ := h
    rcases List.mem_cons.mp hc with rfl | hc
    · exact e2
    · exact h.bits c hc
/-- further findings leave a value as it is -/
theorem val_ext {t : Tr} {f g : List Nat} {z : Bool} (hf : Fs f) (hg : Fs g) (l : f.length = t.n) (h : Ext f g) (e : val3 t f = some z) : val3 t g = some z := by
  by_cases q : val3 t g = some z
  · exact q
  · obtain ⟨r, hr, er⟩ := can_of (b := !z) hg (h.1.trans l) (by rw [Bool.not_not]; exact q)
    have := can_not hf l e (h.cmp hr)
    rw [er] at this
    cases z <;> cases this
/-- the side of an issue: the way in which it turns the cause -/
theorem side_turn {t : Tr} {n k : Nat} {s : Bool} (ok : t.ok) (hn : t.n = n) (hs : (sdB t true)[k]? = some s) :
    (s = true ↔ ∃ j, j < 2 ^ n ∧ j / 2 ^ k % 2 = 0 ∧ tru t (fillAt (List.replicate n 63) j) = false ∧ tru t (fillAt (List.replicate n 63) (j + 2 ^ k)) = true) ∧
    (s = false ↔ ∃ j, j < 2 ^ n ∧ j / 2 ^ k % 2 = 0 ∧ tru t (fillAt (List.replicate n 63) j) = true ∧ tru t (fillAt (List.replicate n 63) (j + 2 ^ k)) = false) := by
  have hk : k < n := by
    have := (List.getElem?_eq_some_iff.mp hs).1
    rw [sdB_n] at this
    omega
  obtain ⟨fs, hfs⟩ : ∃ fs, fs = List.replicate n 63 := ⟨_, rfl⟩
  have hq : ∀ c ∈ fs, c = 63 := fun c hc => by rw [hfs] at hc; exact List.eq_of_mem_replicate hc
  have hF : Fs fs := fun c hc => .inr (.inr (hq c hc))
  have hl : fs.length = t.n := by rw [hfs, List.length_replicate, hn]
  have hc : fs.count 63 = n := by rw [hfs, List.count_replicate_self]
  have hw : wt fs k = 2 ^ k := by
    unfold wt
    rw [hfs, List.take_replicate, List.count_replicate_self, Nat.min_eq_left (by omega)]
  have ek : fs[k]? = some 63 := by rw [hfs, List.getElem?_replicate, if_pos hk]
  have tp : turnP t fs k := by
    have m : k ∈ rel3 t fs 0 := by
      rw [rel_q hq hl]
      exact List.mem_map.mpr ⟨k, List.mem_range.mpr (by omega), by omega⟩
    rw [rel3_is hF hl, List.mem_filter] at m
    exact (isTurn_iff hF).mp m.2
  rw [← hfs]
  have row : ∀ j, j < 2 ^ n → Cmp fs (fillAt fs j) := fun j hj => (mem_fill hF).mp (by rw [fill_at, hc]; exact List.mem_map.mpr ⟨j, List.mem_range.mpr hj, rfl⟩)
  have way : ∀ j, j < 2 ^ n → j / 2 ^ k % 2 = 0 → (s = true → tru t (fillAt fs j) = true → tru t (fillAt fs (j + 2 ^ k)) = true) ∧ (s = false → tru t (fillAt fs (j + 2 ^ k)) = true → tru t (fillAt fs j) = true) := fun j hj hb => by
    have ft := fillAt_turn (j := j) ek (by rw [hw]; exact hb)
    rw [hw] at ft
    have g48 := fillAt_get (j := j) ek
    rw [hw, hb] at g48
    have c1 := row j hj
    have l1 : (fillAt fs j).length = (sdB t true).length := by rw [c1.len, hl, sdB_n]
    have v1 := val_bits c1.bits (c1.len.trans hl)
    have v2 := val_bits (c1.set ek).bits ((c1.set ek).len.trans hl)
    rw [ft]
    constructor
    · intro e h1
      rw [e] at hs
      have := (fav_val ok (Fav.set_up l1 g48 hs)).1 rfl
      rw [v1, v2, h1] at this
      cases q : tru t ((fillAt fs j).set k 49)
      · rw [q] at this
        simp [vd] at this
      · rfl
    · intro e h1
      rw [e] at hs
      have := (fav_val ok (Fav.set_dn l1 g48 hs)).1 rfl
      rw [v1, v2, h1] at this
      cases q : tru t (fillAt fs j)
      · rw [q] at this
        simp [vd] at this
      · rfl
  obtain ⟨_, r, hr, h48, hne⟩ := tp
  have hr2 := (mem_fill hF).mpr hr
  rw [fill_at, hc] at hr2
  obtain ⟨j, hj, rfl⟩ := List.mem_map.mp hr2
  have hj := List.mem_range.mp hj
  have hb : j / 2 ^ k % 2 = 0 := by
    rw [fillAt_get ek, hw] at h48
    have := Option.some.inj h48
    omega
  have ft := fillAt_turn (j := j) ek (by rw [hw]; exact hb)
  rw [hw] at ft
  rw [← ft] at hne
  have wj := way j hj hb
  constructor
  · constructor
    · intro e
      refine ⟨j, hj, hb, ?_⟩
      have := wj.1 e
      cases q1 : tru t (fillAt fs j) <;> cases q2 : tru t (fillAt fs (j + 2 ^ k)) <;> simp_all
    · rintro ⟨i, hi, b1, b2, b3⟩
      cases s
      · have := (way i hi b1).2 rfl b3
        rw [b2] at this
        cases this
      · rfl
  · constructor
    · intro e
      refine ⟨j, hj, hb, ?_⟩
      have := wj.2 e
      cases q1 : tru t (fillAt fs j) <;> cases q2 : tru t (fillAt fs (j + 2 ^ k)) <;> simp_all
    · rintro ⟨i, hi, b1, b2, b3⟩
      cases s
      · rfl
      · have := (way i hi b1).1 rfl b2
        rw [b3] at this
        cases this
end Dl

/-! Dl: least numbers of rulings. -/
namespace Dl
open PySem L2
/-- a cost: none is infinite -/
def plusO : Option Int → Option Int → Option Int
  | some x, some y => some (x + y)
  | _, _ => none
def pluS : Option Int → Option Int → Option Int
  | some x, some y => some (x + y)
  | _, _ => none
def smalS : Option Int → Option Int → Option Int
  | none, b => b
  | some x, none => some x
  | some x, some y => if y < x then some y else some x
/-- the least of a set of numbers, none if it is empty -/
structure IsMin (o : Option Int) (S : Nat → Prop) : Prop where
  at_ : ∀ x, o = some x → ∃ m : Nat, x = (m : Int) ∧ S m
  le_ : ∀ m, S m → ∃ x, o = some x ∧ x ≤ (m : Int)
theorem IsMin.uniq {o p : Option Int} {S : Nat → Prop} (h : IsMin o S) (g : IsMin p S) : o = p := by
  cases o with
  | none =>
    cases p with
    | none => rfl
    | some y =>
      obtain ⟨m, _, hm⟩ := g.at_ y rfl
      obtain ⟨x, hx, _⟩ := h.le_ m hm
      cases hx
  | some x =>
    obtain ⟨m, rfl, hm⟩ := h.at_ x rfl
    obtain ⟨y, rfl, hy⟩ := g.le_ m hm
    obtain ⟨m2, rfl, hm2⟩ := g.at_ y rfl
    obtain ⟨z, hz, hz2⟩ := h.le_ m2 hm2
    have := Option.some.inj hz
    congr 1
    omega
theorem IsMin.congr {o : Option Int} {S T : Nat → Prop} (h : IsMin o S) (e : ∀ m, S m ↔ T m) : IsMin o T :=
  ⟨fun x hx => by obtain ⟨m, e1, hm⟩ := h.at_ x hx; exact ⟨m, e1, (e m).mp hm⟩, fun m hm => h.le_ m ((e m).mpr hm)⟩
theorem IsMin.plus {o p : Option Int} {S T : Nat → Prop} (h : IsMin o S) (g : IsMin p T) : IsMin (pluS o p) fun m => ∃ m1 m2, m = m1 + m2 ∧ S m1 ∧ T m2 := by
  constructor
  · intro x hx
    cases o with
    | none => cases hx
    | some a =>
      cases p with
      | none => cases hx
      | some b =>
        obtain ⟨m, rfl, hm⟩ := h.at_ a rfl
        obtain ⟨n, rfl, hn⟩ := g.at_ b rfl
        cases hx
        exact ⟨m + n, rfl, m, n, rfl, hm, hn⟩
  · rintro m ⟨m1, m2, rfl, h1, h2⟩
    obtain ⟨x, rfl, hx⟩ := h.le_ m1 h1
    obtain ⟨y, rfl, hy⟩ := g.le_ m2 h2
    exact ⟨x + y, rfl, by omega⟩
theorem IsMin.small {o p : Option Int} {S T U : Nat → Prop} (h : IsMin o S) (g : IsMin p T) (h1 : ∀ m, S m → U m) (h2 : ∀ m, T m → U m) (h3 : ∀ m, U m → ∃ n, n ≤ m ∧ (S n ∨ T n)) : IsMin (smalS o p) U := by
  constructor
  · intro x hx
    cases o with
    | none =>
      obtain ⟨m, e, hm⟩ := g.at_ x hx
      exact ⟨m, e, h2 m hm⟩
    | some a =>
      obtain ⟨m, e1, hm⟩ := h.at_ a rfl
      cases p with
      | none =>
        cases hx
        exact ⟨m, e1, h1 m hm⟩
      | some b =>
        obtain ⟨n, e2, hn⟩ := g.at_ b rfl
        have hx : (if b < a then some b else some a) = some x := hx
        split at hx
        · cases hx
          exact ⟨n, e2, h2 n hn⟩
        · cases hx
          exact ⟨m, e1, h1 m hm⟩
  · intro m hm
    obtain ⟨n, hn, q⟩ := h3 m hm
    rcases q with q | q
    · obtain ⟨x, rfl, hx⟩ := h.le_ n q
      cases p with
      | none => exact ⟨x, rfl, by omega⟩
      | some b =>
        by_cases z : b < x
        · exact ⟨b, if_pos z, by omega⟩
        · exact ⟨x, if_neg z, by omega⟩
    · obtain ⟨x, rfl, hx⟩ := g.le_ n q
      cases o with
      | none => exact ⟨x, rfl, by omega⟩
      | some a =>
        by_cases z : x < a
        · exact ⟨x, if_pos z, by omega⟩
        · exact ⟨a, if_neg z, by omega⟩
/-! ### helped findings -/
def Hlp : List Nat → List Nat → List Nat → Nat → Prop
  | [], bs, r, m => bs = [] ∧ r = [] ∧ m = 0
  | c :: fs, bs, r, m => ∃ d ds x rs, bs = d :: ds ∧ r = x :: rs ∧ ((x = c ∧ Hlp fs ds rs m) ∨ (c = 63 ∧ x = d ∧ ∃ k, m = k + 1 ∧ Hlp fs ds rs k))
theorem Hlp.len : ∀ {fs bs r : List Nat} {m : Nat}, Hlp fs bs r m → r.length = fs.length ∧ bs.length = fs.length
  | [], bs, r, m, h => by
    rw [h.1, h.2.1]
    exact ⟨rfl, rfl⟩
  | c :: fs, bs, r, m, h => by
    obtain ⟨d, ds, x, rs, rfl, rfl, ⟨_, h⟩ | ⟨_, _, k, _, h⟩⟩ := h
    · exact ⟨congrArg (· + 1) h.len.1, congrArg (· + 1) h.len.2⟩
    · exact ⟨congrArg (· + 1) h.len.1, congrArg (· + 1) h.len.2⟩
theorem Hlp.same : ∀ {fs bs : List Nat}, bs.length = fs.length → Hlp fs bs fs 0
  | [], [], _ => ⟨rfl, rfl, rfl⟩
  | c :: fs, d :: bs, h => ⟨d, bs, c, fs, rfl, rfl, .inl ⟨rfl, Hlp.same (Nat.succ.inj h)⟩⟩
  | [], d :: bs, h => by cases h
  | c :: fs, [], h => by cases h
theorem Hlp.app : ∀ {f1 f2 b1 b2 r1 r2 : List Nat} {m1 m2 : Nat}, Hlp f1 b1 r1 m1 → Hlp f2 b2 r2 m2 → Hlp (f1 ++ f2) (b1 ++ b2) (r1 ++ r2) (m1 + m2)
  | [], f2, b1, b2, r1, r2, m1, m2, h, g => by
    obtain ⟨rfl, rfl, rfl⟩ := h
    rw [Nat.zero_add]
    exact g
  | c :: f1, f2, b1, b2, r1, r2, m1, m2, h, g => by
    obtain ⟨d, ds, x, rs, rfl, rfl, ⟨e, h⟩ | ⟨e1, e2, k, rfl, h⟩⟩ := h
    · exact ⟨d, ds ++ b2, x, rs ++ r2, rfl, rfl, .inl ⟨e, h.app g⟩⟩
    · exact ⟨d, ds ++ b2, x, rs ++ r2, rfl, rfl, .inr ⟨e1, e2, k + m2, by omega, h.app g⟩⟩
theorem Hlp.split : ∀ {f1 f2 b1 b2 r : List Nat} {m : Nat}, b1.length = f1.length → Hlp (f1 ++ f2) (b1 ++ b2) r m → ∃ r1 r2 m1 m2, r = r1 ++ r2 ∧ m = m1 + m2 ∧ r1.length = f1.length ∧ Hlp f1 b1 r1 m1 ∧ Hlp f2 b2 r2 m2
  | [], f2, [], b2, r, m, _, h => ⟨[], r, 0, m, rfl, (Nat.zero_add m).symm, rfl, ⟨rfl, rfl, rfl⟩, h⟩
  | [], _, d :: b1, _, _, _, l, _ => by cases l
  | c :: f1, _, [], _, _, _, l, _ => by cases l
  | c :: f1, f2, d :: b1, b2, r, m, l, h => by
    obtain ⟨d', ds, x, rs, e, rfl, h⟩ := h
    cases e
    rcases h with ⟨e, h⟩ | ⟨e1, e2, k, rfl, h⟩
    · obtain ⟨r1, r2, m1, m2, rfl, rfl, l1, h1, h2⟩ := Hlp.split (Nat.succ.inj l) h
      exact ⟨x :: r1, r2, m1, m2, rfl, rfl, congrArg (· + 1) l1, ⟨d, b1, x, r1, rfl, rfl, .inl ⟨e, h1⟩⟩, h2⟩
    · obtain ⟨r1, r2, m1, m2, rfl, rfl, l1, h1, h2⟩ := Hlp.split (Nat.succ.inj l) h
      exact ⟨x :: r1, r2, m1 + 1, m2, rfl, by omega, congrArg (· + 1) l1, ⟨d, b1, x, r1, rfl, rfl, .inr ⟨e1, e2, m1, rfl, h1⟩⟩, h2⟩
theorem Hlp.fs : ∀ {fs bs r : List Nat} {m : Nat}, Fs fs → Fs bs → Hlp fs bs r m → Fs r
  | [], bs, r, m, _, _, h => by
    rw [h.2.1]
    exact nofun
  | c :: fs, bs, r, m, hf, hb, h => by
    obtain ⟨d, ds, x, rs, rfl, rfl, h⟩ := h
    have t1 : Fs fs := fun y hy => hf y (List.mem_cons_of_mem _ hy)
    have t2 : Fs ds := fun y hy => hb y (List.mem_cons_of_mem _ hy)
    intro y hy
    rcases h with ⟨e, h⟩ | ⟨e1, e2, k, rfl, h⟩
    · rcases List.mem_cons.mp hy with rfl | hy
      · rw [e]
        exact hf c List.mem_cons_self
      · exact Hlp.fs t1 t2 h y hy
    · rcases List.mem_cons.mp hy with rfl | hy
      · rw [e2]
        exact hb d List.mem_cons_self
      · exact Hlp.fs t1 t2 h y hy
def rb : Tr → List Nat → Option Int × Option Int
  | .leaf _ _ _, fs => if fs.headD 63 = 49 then (some 0, none) else if fs.headD 63 = 48 then (none, some 0) else (some 1, some 1)
  | .node w a b, fs =>
    let f := rb a (fs.take a.n)
    let g := rb b (fs.drop a.n)
    let s := if w = "unless" then (g.2, g.1) else g
    if w = "or" then (smalS f.1 s.1, pluS f.2 s.2) else (pluS f.1 s.1, smalS f.2 s.2)
def rbB (t : Tr) (fs : List Nat) (b : Bool) : Option Int := if b then (rb t fs).1 else (rb t fs).2
def swB (w : Str) (b : Bool) : Bool := if w = "unless" then !b else b
def prodB (w : Str) (b : Bool) : Bool := if w = "or" then !b else b
theorem rbB_node {w : Str} {a b : Tr} {fs : List Nat} {z : Bool} : rbB (.node w a b) fs z = if prodB w z then pluS (rbB a (fs.take a.n) z) (rbB b (fs.drop a.n) (swB w z)) else smalS (rbB a (fs.take a.n) z) (rbB b (fs.drop a.n) (swB w z)) := by
  unfold rbB prodB swB
  rw [rb]
  by_cases h1 : w = "unless"
  · have h2 : ¬ w = "or" := by rw [h1]; decide
    rw [if_neg h2, if_neg h2, if_pos h1, if_pos h1]
    cases z <;> rfl
  · rw [if_neg h1, if_neg h1]
    by_cases h2 : w = "or"
    · rw [if_pos h2, if_pos h2]
      cases z <;> rfl
    · rw [if_neg h2, if_neg h2]
      cases z <;> rfl
theorem val_sides {w : Str} {a b : Tr} {fs : List Nat} {z : Bool} (hw : Wd w) : val3 (.node w a b) fs = some z ↔ if prodB w z then (val3 a (fs.take a.n) = some z ∧ val3 b (fs.drop a.n) = some (swB w z)) else (val3 a (fs.take a.n) = some z ∨ val3 b (fs.drop a.n) = some (swB w z)) := by
  rw [val_node]
  generalize val3 a (fs.take a.n) = x
  generalize val3 b (fs.drop a.n) = y
  unfold prodB swB
  rcases hw with rfl | rfl | rfl <;> cases z <;> rcases x with _ | _ | _ <;> rcases y with _ | _ | _ <;> decide
def bestL (t : Tr) (z : Bool) : List Nat := (sdB t z).map sgB
theorem bestL_n (t : Tr) (z : Bool) : (bestL t z).length = t.n := by
  unfold bestL
  rw [List.length_map, sdB_n]
theorem bestL_fs (t : Tr) (z : Bool) : Fs (bestL t z) := fun c hc => by
  obtain ⟨b, _, rfl⟩ := List.mem_map.mp hc
  rcases sgB_ok b with q | q
  · exact .inl q
  · exact .inr (.inl q)
/-- the least number of rulings is the least number of issues to be decided -/
theorem rb_min : ∀ {t : Tr} {fs : List Nat} {z : Bool}, t.ok → Fs fs → fs.length = t.n → IsMin (rbB t fs z) fun m => ∃ r, Hlp fs (bestL t z) r m ∧ val3 t r = some z
  | .leaf x b m, fs, z, _, h, hl => by
    match fs, hl with
    | [c], _ =>
      have rows : ∀ r m', Hlp [c] [sgB z] r m' ↔ (r = [c] ∧ m' = 0) ∨ (c = 63 ∧ r = [sgB z] ∧ m' = 1) := fun r m' => by
        constructor
        · rintro ⟨d, ds, y, rs, e, rfl, ⟨rfl, _, rfl, rfl⟩ | ⟨rfl, rfl, k, rfl, _, rfl, rfl⟩⟩
          · exact .inl ⟨rfl, rfl⟩
          · cases e
            exact .inr ⟨rfl, rfl, rfl⟩
        · rintro (⟨rfl, rfl⟩ | ⟨rfl, rfl, rfl⟩)
          · exact ⟨sgB z, [], c, [], rfl, rfl, .inl ⟨rfl, rfl, rfl, rfl⟩⟩
          · exact ⟨sgB z, [], sgB z, [], rfl, rfl, .inr ⟨rfl, rfl, 0, rfl, rfl, rfl, rfl⟩⟩
      have vl : ∀ d, val3 (.leaf x b m) [d] = sgn3 d := fun d => rfl
      have bl : bestL (.leaf x b m) z = [sgB z] := rfl
      rw [bl]
      rcases h c List.mem_cons_self with rfl | rfl | rfl
      · cases z
        · exact ⟨fun y hy => ⟨0, (Option.some.inj hy).symm, [48], (rows _ _).mpr (.inl ⟨rfl, rfl⟩), rfl⟩, fun m' _ => ⟨0, rfl, by omega⟩⟩
        · refine ⟨fun y hy => (by cases hy), ?_⟩
          rintro m' ⟨r, hr, e⟩
          rcases (rows _ _).mp hr with ⟨rfl, rfl⟩ | ⟨q, _, _⟩
          · cases e
          · cases q
      · cases z
        · refine ⟨fun y hy => (by cases hy), ?_⟩
          rintro m' ⟨r, hr, e⟩
          rcases (rows _ _).mp hr with ⟨rfl, rfl⟩ | ⟨q, _, _⟩
          · cases e
          · cases q
        · exact ⟨fun y hy => ⟨0, (Option.some.inj hy).symm, [49], (rows _ _).mpr (.inl ⟨rfl, rfl⟩), rfl⟩, fun m' _ => ⟨0, rfl, by omega⟩⟩
      · have e1 : rbB (.leaf x b m) [63] z = some 1 := by cases z <;> rfl
        rw [e1]
        refine ⟨fun y hy => ⟨1, (Option.some.inj hy).symm, [sgB z], (rows _ _).mpr (.inr ⟨rfl, rfl, rfl⟩), by cases z <;> rfl⟩, ?_⟩
        rintro m' ⟨r, hr, e⟩
        rcases (rows _ _).mp hr with ⟨rfl, rfl⟩ | ⟨_, _, rfl⟩
        · cases e
        · exact ⟨1, rfl, by omega⟩
  | .node w a b, fs, z, ok, h, hl => by
    have hl : fs.length = a.n + b.n := hl
    have la : (fs.take a.n).length = a.n := by rw [List.length_take]; omega
    have lb : (fs.drop a.n).length = b.n := by rw [List.length_drop]; omega
    have ia := rb_min (z := z) ok.2.1 (h.take a.n) la
    have ib := rb_min (z := swB w z) ok.2.2 (h.drop a.n) lb
    have eb : bestL (.node w a b) z = bestL a z ++ bestL b (swB w z) := List.map_append
    have cut : ∀ r m, Hlp fs (bestL (.node w a b) z) r m ↔ ∃ r1 r2 m1 m2, r = r1 ++ r2 ∧ m = m1 + m2 ∧ r1.length = a.n ∧ Hlp (fs.take a.n) (bestL a z) r1 m1 ∧ Hlp (fs.drop a.n) (bestL b (swB w z)) r2 m2 := fun r m => by
      rw [eb]
      constructor
      · intro q
        have q : Hlp (fs.take a.n ++ fs.drop a.n) (bestL a z ++ bestL b (swB w z)) r m := by rw [List.take_append_drop]; exact q
        obtain ⟨r1, r2, m1, m2, e1, e2, l, h1, h2⟩ := Hlp.split (by rw [bestL_n, la]) q
        exact ⟨r1, r2, m1, m2, e1, e2, l.trans la, h1, h2⟩
      · rintro ⟨r1, r2, m1, m2, rfl, rfl, _, h1, h2⟩
        have := h1.app h2
        rwa [List.take_append_drop] at this
    have tk : ∀ {r1 r2 : List Nat}, r1.length = a.n → (r1 ++ r2).take a.n = r1 ∧ (r1 ++ r2).drop a.n = r2 := fun {r1 r2} l => ⟨by rw [← l, List.take_left], by rw [← l, List.drop_left]⟩
    rw [rbB_node]
    by_cases hp : prodB w z = true
    · rw [if_pos hp]
      refine (ia.plus ib).congr fun m => ?_
      constructor
      · rintro ⟨m1, m2, rfl, ⟨r1, h1, v1⟩, r2, h2, v2⟩
        have l1 : r1.length = a.n := h1.len.1.trans la
        refine ⟨r1 ++ r2, (cut _ _).mpr ⟨r1, r2, m1, m2, rfl, rfl, l1, h1, h2⟩, ?_⟩
        rw [val_sides ok.1, if_pos hp, (tk l1).1, (tk l1).2]
        exact ⟨v1, v2⟩
      · rintro ⟨r, hr, v⟩
        obtain ⟨r1, r2, m1, m2, rfl, rfl, l1, h1, h2⟩ := (cut _ _).mp hr
        rw [val_sides ok.1, if_pos hp, (tk l1).1, (tk l1).2] at v
        exact ⟨m1, m2, rfl, ⟨r1, h1, v.1⟩, r2, h2, v.2⟩
    · rw [if_neg hp]
      refine ia.small ib ?_ ?_ ?_
      · rintro m ⟨r1, h1, v1⟩
        have l1 : r1.length = a.n := h1.len.1.trans la
        refine ⟨r1 ++ fs.drop a.n, (cut _ _).mpr ⟨r1, _, m, 0, rfl, rfl, l1, h1, Hlp.same (by rw [bestL_n, lb])⟩, ?_⟩
        rw [val_sides ok.1, if_neg hp, (tk l1).1]
        exact .inl v1
      · rintro m ⟨r2, h2, v2⟩
        refine ⟨fs.take a.n ++ r2, (cut _ _).mpr ⟨_, r2, 0, m, rfl, (Nat.zero_add m).symm, la, Hlp.same (by rw [bestL_n, la]), h2⟩, ?_⟩
        rw [val_sides ok.1, if_neg hp, (tk la).2]
        exact .inr v2
      · rintro m ⟨r, hr, v⟩
        obtain ⟨r1, r2, m1, m2, rfl, rfl, l1, h1, h2⟩ := (cut _ _).mp hr
        rw [val_sides ok.1, if_neg hp, (tk l1).1, (tk l1).2] at v
        rcases v with v | v
        · exact ⟨m1, by omega, .inl ⟨r1, h1, v⟩⟩
        · exact ⟨m2, by omega, .inr ⟨r2, h2, v⟩⟩
/-- of findings that extend others those helped are as good -/
theorem Ext.help : ∀ {ss : List Bool} {f g : List Nat}, Ext f g → f.length = ss.length → ∃ r m, Hlp f (ss.map sgB) r m ∧ Fav ss g r ∧ m + g.count 63 = f.count 63
  | [], [], g, h, _ => by
    have : g = [] := List.eq_nil_of_length_eq_zero h.1
    subst this
    exact ⟨[], 0, ⟨rfl, rfl, rfl⟩, ⟨rfl, rfl⟩, rfl⟩
  | [], c :: f, _, _, l => by cases l
  | s :: ss, [], _, _, l => by cases l
  | s :: ss, c :: f, [], h, _ => by cases h.1
  | s :: ss, c :: f, d :: g, h, l => by
    have h0 := h.2 0
    obtain ⟨r, m, h1, h2, h3⟩ := Ext.help (ss := ss) (f := f) (g := g) ⟨Nat.succ.inj h.1, fun i => by simpa using h.2 (i + 1)⟩ (Nat.succ.inj l)
    have e : d = c ∨ c = 63 := by
      rcases h0 with q | q
      · exact .inl (by simpa using q)
      · exact .inr (by simpa using q)
    by_cases q : d = c
    · subst q
      refine ⟨d :: r, m, ⟨sgB s, _, d, r, rfl, rfl, .inl ⟨rfl, h1⟩⟩, ⟨d, d, g, r, rfl, rfl, fun _ => Nat.le_refl _, fun _ => Nat.le_refl _, h2⟩, ?_⟩
      rw [List.count_cons, List.count_cons]
      omega
    · have hc := e.resolve_left q
      subst hc
      refine ⟨sgB s :: r, m + 1, ⟨sgB s, _, sgB s, r, rfl, rfl, .inr ⟨rfl, rfl, m, rfl, h1⟩⟩, ⟨d, sgB s, g, r, rfl, rfl, fun z => ?_, fun z => ?_, h2⟩, ?_⟩
      · rw [z]
        exact vd_le _
      · rw [z]
        exact Nat.zero_le _
      · rw [cnt_q, cnt_c q]
        omega
theorem wins_least {t : Tr} {f g : List Nat} {z : Bool} (ok : t.ok) (hf : Fs f) (hl : f.length = t.n) (h : Ext f g) (e : val3 t g = some z) : ∃ x, rbB t f z = some x ∧ x ≤ (f.count 63 : Int) - (g.count 63 : Int) := by
  obtain ⟨r, m, h1, h2, h3⟩ := Ext.help (ss := sdB t z) h (by rw [sdB_n, hl])
  have fv := fav_val ok h2
  have v : val3 t r = some z := by
    rw [e] at fv
    cases z
    · have := fv.2 rfl
      cases q : val3 t r with
      | none => rw [q] at this; simp [vd] at this
      | some b => cases b with
        | false => rfl
        | true => rw [q] at this; simp [vd] at this
    · have := fv.1 rfl
      cases q : val3 t r with
      | none => rw [q] at this; simp [vd] at this
      | some b => cases b with
        | true => rfl
        | false => rw [q] at this; simp [vd] at this
  obtain ⟨x, h4, h5⟩ := (rb_min (z := z) ok hf hl).le_ m ⟨r, h1, v⟩
  exact ⟨x, h4, by omega⟩
/-- the rows of the law -/
def helpS (rows : List (List Nat × Nat)) (cd : Nat × Nat) : List (List Nat × Nat) :=
  if cd.1 = 63 then rows.map (fun r => (r.1 ++ [63], r.2)) ++ rows.map (fun r => (r.1 ++ [cd.2], r.2 + 1)) else rows.map (fun r => (r.1 ++ [cd.1], r.2))
def helped (l : List (Nat × Nat)) : List (List Nat × Nat) := l.foldl helpS [([], 0)]
theorem helped_snoc (l : List (Nat × Nat)) (x : Nat × Nat) : helped (l ++ [x]) = helpS (helped l) x := by
  unfold helped
  rw [List.foldl_append]
  rfl
theorem helpS_len (rows : List (List Nat × Nat)) (x : Nat × Nat) : (helpS rows x).length ≤ 2 * rows.length := by
  unfold helpS
  split
  · rw [List.length_append, List.length_map, List.length_map]
    omega
  · rw [List.length_map]
    omega
theorem help_mem (rows : List (List Nat × Nat)) : ∀ (fs bs : List Nat) (r : List Nat) (m : Nat), bs.length = fs.length → ((r, m) ∈ (fs.zip bs).foldl helpS rows ↔ ∃ p ∈ rows, ∃ q k, r = p.1 ++ q ∧ m = p.2 + k ∧ Hlp fs bs q k)
  | [], [], r, m, _ => by
    constructor
    · intro h
      exact ⟨(r, m), h, [], 0, (List.append_nil _).symm, rfl, rfl, rfl, rfl⟩
    · rintro ⟨p, hp, q, k, rfl, rfl, _, rfl, rfl⟩
      rw [List.append_nil]
      exact hp
  | [], d :: bs, _, _, l => by cases l
  | c :: fs, [], _, _, l => by cases l
  | c :: fs, d :: bs, r, m, l => by
    rw [List.zip_cons_cons, List.foldl_cons, help_mem _ fs bs r m (Nat.succ.inj l)]
    have mem : ∀ p, p ∈ helpS rows (c, d) ↔ ∃ p0 ∈ rows, (p = (p0.1 ++ [c], p0.2)) ∨ (c = 63 ∧ p = (p0.1 ++ [d], p0.2 + 1)) := fun p => by
      unfold helpS
      dsimp only
      split
      · rename_i e
        subst e
        constructor
        · intro hp
          rcases List.mem_append.mp hp with hp | hp
          · obtain ⟨p0, h0, rfl⟩ := List.mem_map.mp hp
            exact ⟨p0, h0, .inl rfl⟩
          · obtain ⟨p0, h0, rfl⟩ := List.mem_map.mp hp
            exact ⟨p0, h0, .inr ⟨rfl, rfl⟩⟩
        · rintro ⟨p0, h0, rfl | ⟨_, rfl⟩⟩
          · exact List.mem_append_left _ (List.mem_map.mpr ⟨p0, h0, rfl⟩)
          · exact List.mem_append_right _ (List.mem_map.mpr ⟨p0, h0, rfl⟩)
      · rename_i e
        constructor
        · intro hp
          obtain ⟨p0, h0, rfl⟩ := List.mem_map.mp hp
          exact ⟨p0, h0, .inl rfl⟩
        · rintro ⟨p0, h0, rfl | ⟨q, _⟩⟩
          · exact List.mem_map.mpr ⟨p0, h0, rfl⟩
          · exact absurd q e
    constructor
    · rintro ⟨p, hp, q, k, rfl, rfl, hq⟩
      obtain ⟨p0, h0, rfl | ⟨e, rfl⟩⟩ := (mem p).mp hp
      · exact ⟨p0, h0, c :: q, k, by rw [List.append_assoc]; rfl, rfl, d, bs, c, q, rfl, rfl, .inl ⟨rfl, hq⟩⟩
      · exact ⟨p0, h0, d :: q, k + 1, by rw [List.append_assoc]; rfl, by show p0.2 + 1 + k = _; omega, d, bs, d, q, rfl, rfl, .inr ⟨e, rfl, k, rfl, hq⟩⟩
    · rintro ⟨p0, h0, q, k, rfl, rfl, d', ds, x, rs, e, rfl, h⟩
      cases e
      rcases h with ⟨rfl, h⟩ | ⟨e1, rfl, k, rfl, h⟩
      · exact ⟨_, (mem _).mpr ⟨p0, h0, .inl rfl⟩, rs, k, by rw [List.append_assoc]; rfl, rfl, h⟩
      · exact ⟨_, (mem _).mpr ⟨p0, h0, .inr ⟨e1, rfl⟩⟩, rs, k, by rw [List.append_assoc]; rfl, by show _ = p0.2 + 1 + k; omega, h⟩
theorem mem_helped {fs bs r : List Nat} {m : Nat} (l : bs.length = fs.length) : (r, m) ∈ helped (fs.zip bs) ↔ Hlp fs bs r m := by
  unfold helped
  rw [help_mem _ _ _ _ _ l]
  constructor
  · rintro ⟨p, hp, q, k, rfl, rfl, h⟩
    rw [List.mem_singleton.mp hp, Nat.zero_add]
    exact h
  · intro h
    exact ⟨([], 0), List.mem_singleton.mpr rfl, r, m, rfl, (Nat.zero_add m).symm, h⟩
theorem IsMin.hit {o : Option Int} {S : Nat → Prop} (h : IsMin o S) (m : Nat) : IsMin (smalS o (some (m : Int))) fun k => S k ∨ k = m :=
  h.small (T := fun k => k = m) ⟨fun x hx => ⟨m, (Option.some.inj hx).symm, rfl⟩, fun k hk => ⟨m, rfl, by omega⟩⟩ (fun _ => .inl) (fun _ => .inr) fun k hk => ⟨k, Nat.le_refl _, hk⟩
theorem best_is (t : Tr) (z : Bool) : (sdB t true).map (fun b => sgB (decide (b = z))) = bestL t z := by
  have : (fun b => sgB (decide (b = z))) = fun b => sgB (if z then b else !b) := funext fun b => by cases b <;> cases z <;> rfl
  rw [this]
  unfold bestL
  cases z
  · rw [show sdB t false = (sdB t true).map not from (sdB_not t true).symm, List.map_map]
    rfl
  · rfl
theorem cnt_sg (w : List Nat) : Txt.count (ofL w) (Str.ofString "?") = ((w.count 63 : Nat) : Int) := by
  rw [show Str.ofString "?" = ⟨#[63]⟩ from rfl, PyProof.Rows.count_cnt, cnt_list]
  rfl
end Dl

/-! Dl: enumerate(tuple). -/
namespace Dl
open PySem L2 PySem.Spec PyProof.Rows
/-- enumerate(v): its cells, before they are laid -/
theorem enum_made {v : Value} {ob : Obj} {Hy : Heap → Prop} (Bg : Begins v ob Hy) :
    Meets (Builtin.«enumerate.__new__» ⟨[.type "enumerate", v], []⟩) (fun _ R st => Hy st.heap ∧
      R (.ok (.ret (.ref (st.heap.push ob).objs.size))) { st with heap := (st.heap.push ob).push { cls := .type "enumerate", data := .fields #[.none, .bool false, .ref st.heap.objs.size, rawInt 0, .none, .none] } }) :=
  .of_wp fun pr wd Ar Rr st hyp => by
    rcases st with ⟨hp, gg, dd, tt, oo⟩
    rcases hyp with ⟨hy, hyp⟩
    have subE := sub_enumerate
    have itE : ∀ {Ax : Around} {Ex : Value → Shared → Prop} {Qx : Value → Shared → Prop}, Qx (.ref hp.objs.size) ⟨hp.push ob, gg, dd, tt, oo⟩ → wpAny (model pr wd) Ax (pyIter v) Qx Ex ⟨hp, gg, dd, tt, oo⟩ := fun q => Bg.iter pr wd _ _ ⟨hp, gg, dd, tt, oo⟩ _ hy q
    wp_walk using itE
    refine wpAny_stack_any fun _ => wpAny_pure ?_
    split
    · rename_i cc _ _ _ _ _
      cases (cc == Value.type "enumerate")
      all_goals
        wp_walk using itE
        exact ⟨_, rfl, hyp⟩
    · wp_walk using itE
      exact ⟨_, rfl, hyp⟩
section
variable {pr : Program} {wd : World} {Ar : Around} {Ex : Value → Shared → Prop} {st : Shared}
theorem enum_call {t : Addr} {items : Array Value} {Q : Value → Shared → Prop} (hT : st.heap.IsTuple t items)
    (after : ∀ h2, IsEnum h2 (st.heap.objs.size + 1) st.heap.objs.size 0 .none → h2.IsTupleIter st.heap.objs.size t 0 → (∀ b o, st.heap.get? b = some o → h2.get? b = some o) → Q (.ref (st.heap.objs.size + 1)) { st with heap := h2 }) :
    wpAny (model pr wd) Ar (call (.type "enumerate") [.ref t]) Q Ex st := by
  refine callType_new F.called_enumerate (by decide) (F.typeCall_enumerate_1 _) (F.newCall_enumerate_1 _) (fun obj => F.args_object_init_2 obj _) F.entry_enumerate_new (enum_made (begins_tuple t items)) ⟨hT, ?_⟩
  have sz : (st.heap.push { cls := .type "tuple_iterator", data := .fields #[.ref t, .int 0 0] }).objs.size = st.heap.objs.size + 1 := Heap.size_push _ _
  show _ ∧ _
  rw [sz]
  obtain ⟨h1, eh1⟩ : ∃ h1 : Heap, h1 = st.heap.push { cls := .type "tuple_iterator", data := .fields #[.ref t, .int 0 0] } := ⟨_, rfl⟩
  rw [← eh1] at sz ⊢
  have g1 : h1.get? st.heap.objs.size = some { cls := .type "tuple_iterator", data := .fields #[.ref t, .int 0 0] } := by
    rw [eh1]
    exact Heap.get?_push_size _ rfl
  have up1 : ∀ b o, st.heap.get? b = some o → h1.get? b = some o := fun b o e => by
    rw [eh1]
    exact Heap.get?_push_of_some _ e
  have g2 : (h1.push { cls := .type "enumerate", data := .fields #[.none, .bool false, .ref st.heap.objs.size, rawInt 0, .none, .none] }).get? (st.heap.objs.size + 1) = some { cls := .type "enumerate", data := .fields #[.none, .bool false, .ref st.heap.objs.size, rawInt 0, .none, .none] } := by
    rw [← sz]
    exact Heap.get?_push_size _ rfl
  refine ⟨⟨_, g2, rfl⟩, after _ g2 ⟨_, Heap.get?_push_of_some _ g1, rfl, rfl⟩ fun b o e => Heap.get?_push_of_some _ (up1 b o e)⟩
end
/-- a tuple's items, each in a new pair behind its number -/
def ItE (K : PySem.W.Frag) (a : Addr) : It :=
  ⟨fun i H => ∃ (xs : List V) (x : V), SqT K H a xs ∧ xs[i]? = some x,
   fun i H v H' => ∃ T x, v = .ref T ∧ H T = none ∧ H' = upd H T (.tup [.int (i : Nat), x]) ∧ ∀ ys, SqT K H a ys → ys[i]? = some x,
   fun i H => ∃ ys : List V, SqT K H a ys ∧ ys.length ≤ i⟩
theorem turn_enu {P : Program} {w : World} {K : PySem.W.Frag} {elts : List Expr} {kk : Nat} {tpos : Pos} (a e it : Addr) :
    Turn P w K (.Tuple elts kk tpos) (ItE K a) [e, it] e (fun i h => (∃ old, IsEnum h e it ((i : Nat) : Int) old) ∧ h.IsTupleIter it a i ∧ e ≠ it ∧ a ≠ e ∧ a ≠ it) where
  mem := List.mem_cons_self
  obj := fun i h q b hb => by
    obtain ⟨⟨old, he⟩, ⟨o, ho, hc, hd⟩, _⟩ := q
    rcases List.mem_cons.mp hb with rfl | hb
    · exact ⟨_, he, nofun⟩
    · rw [List.mem_singleton.mp hb]
      exact ⟨o, ho, fun v z => by rw [hd] at z; cases z⟩
  keep := fun i h h2 q k => by
    obtain ⟨⟨old, he⟩, hit, hne⟩ := q
    exact ⟨⟨old, k e List.mem_cons_self _ he⟩, hit.at fun o z => k it (List.mem_cons_of_mem _ List.mem_cons_self) o z, hne⟩
  item := by
    rintro X rfl rfl rfl hc i pins s σ H E I hf ⟨⟨old, he⟩, hit, hne, hae, hai⟩ ⟨xs, x, hq, hx⟩
    obtain ⟨its, rv, p, hz⟩ := I.tuple hq
    obtain ⟨u, hu, ru⟩ := rv.get hx
    have hel : e < s.heap.objs.size := Heap.lt_size he
    have hil : it < s.heap.objs.size := by
      obtain ⟨_, z, _⟩ := hit
      exact Heap.lt_size z
    have hlt : i < its.toArray.size := by
      have := (List.getElem?_eq_some_iff.mp hu).1
      simpa using this
    refine wpAny_pyNext_enum_itemD (Draws.tuple (A := X.A.in1) (I.ok.hd hc) it a hai its.toArray) he ⟨hit, p⟩ hlt hne (by
      intro z
      rcases List.mem_cons.mp z with z | z
      · exact hne z
      · exact hae (List.mem_singleton.mp z).symm) fun u2 h2 tk hP ho hst hT hsz hk => ?_
    have eu : u2 = u := by
      have : its.toArray[i]? = some u := by simpa using hu
      rw [this] at hP
      exact (Option.some.inj hP).symm
    subst eu
    refine ⟨_, rfl, wpAny_letOwnedTupleGo_enum (s := { s with heap := h2, toks := tk + 1 }) ho fun h3 he3 sb => ?_⟩
    have hT3 : h3.get? s.heap.objs.size = some { cls := .type "tuple", data := .seq #[.int i tk, u2] } := (sb.2 _ (Nat.ne_of_gt hel)).trans hT
    have fresh : ObjOk X.prog X.w (upd H s.heap.objs.size (.tup [.int (i : Nat), x])) h3 s.heap.objs.size (.tup [.int (i : Nat), x]) :=
      ⟨(show 2 ≤ sizeLine by decide), [.int i tk, u2], .cons ⟨_, rfl⟩ (.cons ru .nil), ⟨_, hT3, rfl, _, rfl⟩⟩
    have I1 : Inv X pins σ (upd H s.heap.objs.size (.tup [.int (i : Nat), x])) { s with heap := h3, toks := tk + 1 } :=
      I.turnedNew (ch := [e, it]) (fun b ob hb q => (sb.2 b fun z => hb (by rw [z]; exact List.mem_cons_self)).trans (hk b ob (fun z => hb (by rw [z]; exact List.mem_cons_self)) (fun z => hb (by rw [z]; exact List.mem_cons_of_mem _ List.mem_cons_self)) q)) hf (Nat.le_refl _) fresh
    have e1 : ((i + 1 : Nat) : Int) = (i : Int) + 1 := rfl
    refine ⟨.ref s.heap.objs.size, _, I1, rfl, ⟨_, x, rfl, I.hok.fresh (Nat.le_refl _), rfl, fun ys hy => by rw [I.tuple_inj hy hq]; exact hx⟩, ⟨⟨u2, ?_⟩, hst.1.at fun o q => (sb.2 it (Ne.symm hne)).trans q, hne, hae, hai⟩, fun b hb => ?_⟩
    · rw [e1]
      exact he3
    · have hlb : b < s.heap.objs.size := by
        rcases List.mem_cons.mp hb with z | z
        · rw [z]
          exact hel
        · rw [List.mem_singleton.mp z]
          exact hil
      rw [upd_ne (Nat.ne_of_lt hlb)]
      exact (hf b hb).1
  done := by
    rintro X rfl rfl rfl hc i pins s σ H E I hf ⟨⟨old, he⟩, hit, hne, hae, hai⟩ ⟨xs, hq, hx⟩
    obtain ⟨its, rv, p, hz⟩ := I.tuple hq
    obtain ⟨f0, f1, f2, f3, f4, f5⟩ := hf it (List.mem_cons_of_mem _ List.mem_cons_self)
    have hl := rv.length
    have none : its.toArray[i]? = none := by
      simp
      omega
    have D : Draws X.prog X.w X.A.in1 it [it, a] i (fun _ _ => False) (fun j h => j = i ∧ h.IsTupleIter it a i ∧ h.IsTuple a its.toArray) := {
      live := fun j h q => by
        obtain ⟨_, ⟨o, ho, _⟩, _⟩ := q
        exact ⟨o, ho⟩
      frame := fun j h h2 q k => ⟨q.1, q.2.1.at fun o z => k it List.mem_cons_self o z, q.2.2.at fun o z => k a (List.mem_cons_of_mem _ List.mem_cons_self) o z⟩
      item := fun j s Q E hj q _ => by
        have := q.1
        omega
      done := fun s Q E q hE => wpAny_nextOf_tuple_end (I.ok.hd hc) q.2.1 q.2.2 none hE }
    exact wpAny_pyNext_enum_endD D he ⟨rfl, hit, p⟩ fun h2 eb => ⟨rfl, I.turned (t' := s.toks) eb f0 f1 f3 f4 f5⟩
  self := fun A i s Q E q h => by
    obtain ⟨⟨_, he⟩, _⟩ := q
    exact wpAny_pyIter_enum he h
def iEnuA (K : PySem.W.Frag) (ta : TA) : TI := fun σ H R => ta σ H fun vs H1 => ∃ a xs, vs = [.ref a] ∧ SqT K H1 a xs ∧ R (ItE K a) H1
theorem pi_enu {X : Cx} {e : Expr} {ta : TA} {p pos tpos : Pos} {elts : List Expr} {kk : Nat} (hg : Gl X "enumerate") (hm : X.mg "enumerate" = none) (ha : PA X [e] ta) (hs : starEach [e] X.env = [(false, eval e X.env)] := by rfl) :
    PI X (.Tuple elts kk tpos) (.Call (.Name "enumerate" p) [e] [] pos) (iEnuA X.K ta) := ⟨fun pins s σ H R I hyp => by
  refine Call_ (ld_blt I hg hm boot_enumerate (PyProof.Rows.callWith_type1 (thn (ha.run pos pins s σ H _ I hyp) fun us s1 res => ?_) hs rfl))
  obtain ⟨vs, H1, I1, r1, a, xs, rfl, hq, go⟩ := res
  cases r1 with
  | cons r rr =>
    cases rr
    cases r
    obtain ⟨its, rv, p2, _⟩ := I1.tuple hq
    obtain ⟨oa, hoa, _⟩ := id p2
    have la : a < s1.heap.objs.size := Heap.lt_size hoa
    refine enum_call p2 fun h2 he hit hk => wpAny_pyIter_enum he ?_
    refine ⟨s1.heap.objs.size + 1, [s1.heap.objs.size + 1, s1.heap.objs.size], _, _, H1, rfl, I1.kept (t' := s1.toks) hk, turn_enu a (s1.heap.objs.size + 1) s1.heap.objs.size, ⟨⟨.none, he⟩, hit, Nat.succ_ne_self _, Nat.ne_of_lt (Nat.lt_succ_of_lt la), Nat.ne_of_lt la⟩, fun b hb => ?_, go⟩
    have hle : s1.heap.objs.size ≤ b := by
      rcases List.mem_cons.mp hb with z | z
      · rw [z]
        exact Nat.le_succ _
      · rw [List.mem_singleton.mp z]
        exact Nat.le_refl _
    exact I1.fpOk hle (I1.hok.fresh hle)⟩
/-- the numbers and the items -/
def numD (k : Nat) : List D → List D
  | [] => []
  | d :: ds => .tup [.int (k : Int), d] :: numD (k + 1) ds
theorem numD_at : ∀ (ds : List D) (k i : Nat), (numD k ds)[i]? = (ds[i]?).map fun d => .tup [.int ((k + i : Nat) : Int), d]
  | [], _, i => by simp [numD]
  | d :: ds, k, 0 => rfl
  | d :: ds, k, i + 1 => by
    show (numD (k + 1) ds)[i]? = _
    rw [numD_at ds (k + 1) i, List.getElem?_cons_succ, show k + 1 + i = k + (i + 1) by omega]
theorem numD_len : ∀ (ds : List D) (k : Nat), (numD k ds).length = ds.length
  | [], _ => rfl
  | d :: ds, k => congrArg (· + 1) (numD_len ds (k + 1))
theorem src_enu {K : PySem.W.Frag} {c : Ct} {a : Addr} {F0 : Hp} {ds : List D} {vs : List V} (h : SqT K F0 a vs) (r : Reps K F0 ds vs) : SrcOk K c (ItE K a) F0 (numD 0 ds) := by
  have at' : ∀ {F σ H δ}, Same F0 F → StOk K c F σ H δ → SqT K H a vs := fun e S => same_t S.sub (same_t e h)
  have ln := numD_len ds 0
  refine ⟨fun F σ H δ e S => ⟨vs, at' e S, by rw [r.len, ln]; exact Nat.le_refl _⟩, fun i F σ H δ hi e S => ?_, fun i d F σ H δ x H' hi e S y => ?_⟩
  · have hi' : i < vs.length := by rw [r.len, ← ln]; exact hi
    exact ⟨vs, vs[i], at' e S, List.getElem?_eq_getElem hi'⟩
  · obtain ⟨T, x0, rfl, hT, rfl, hall⟩ := y
    rw [numD_at, Nat.zero_add] at hi
    have hi2 : i < ds.length := by
      rw [← ln]
      have := congrArg Option.isSome (numD_at ds 0 i)
      cases q : ds[i]? with
      | none =>
        rw [q] at hi
        cases hi
      | some d0 =>
        rw [ln]
        exact (List.getElem?_eq_some_iff.mp q).1
    obtain ⟨v0, h1, h2⟩ := r.get (List.getElem?_eq_getElem hi2)
    have h3 := hall vs (at' e S)
    rw [h1] at h3
    obtain rfl := Option.some.inj h3
    rw [List.getElem?_eq_getElem hi2] at hi
    obtain rfl := Option.some.inj hi
    obtain ⟨sF, S2⟩ := S.alloc (o := .tup [.int (i : Nat), v0]) hT
    refine ⟨_, sF, S2, ?_, fun p o f hp => ?_⟩
    · simp only [Rep]
      refine ⟨T, _, rfl, SqT.of upd_same, ?_⟩
      simp only [Reps]
      exact ⟨_, _, rfl, by simp only [Rep], _, _, rfl, Rep.mono (e.trans sF) _ _ h2, rfl⟩
    · have ne : p ≠ T := fun z => by
        rw [z, hT] at hp
        cases hp
      refine ⟨⟨?_, f.z, f.o⟩, ?_⟩
      · rw [upd_ne ne]
        exact f.f
      · rw [upd_ne ne]
        exact hp
def iEnuD (r : DA) : DI := fun δ Q => r δ fun ws δ1 => match ws with
  | [.val (.tup ds)] => Q (numD 0 ds) δ1
  | _ => False
theorem i_enu {X : Cx} {e : Expr} {rs : DA} {p pos tpos : Pos} {elts : List Expr} {kk : Nat} (hg : Gl X "enumerate") (hm : X.mg "enumerate" = none) (ha : PA X [e] (liftA X.K rs)) (hs : starEach [e] X.env = [(false, eval e X.env)] := by rfl) :
    PI X (.Tuple elts kk tpos) (.Call (.Name "enumerate" p) [e] [] pos) (liftI X.K (iEnuD rs)) := pi_wk (pi_enu hg hm ha hs) fun σ H R ⟨c, F, δ, P, S, h, k⟩ => ⟨c, F, δ, _, S, h, fun ws δ1 h1 vs F1 H1 e1 S1 r1 => by
  match ws, h1, r1 with
  | [.val (.tup ds)], h1, r1 =>
    obtain ⟨v, us, rfl, g1, g2⟩ := r1
    have e2 : us = [] := g2
    subst e2
    have r : Rep X.K F1 (.tup ds) v := g1
    simp only [Rep] at r
    obtain ⟨a, xs, rfl, q1, q2⟩ := r
    exact ⟨a, xs, rfl, same_t S1.sub q1, k _ _ h1 _ F1 H1 e1 S1 (src_enu q1 q2)⟩⟩
def kEnu (Q : List D → DS → Prop) : List Vw → DS → Prop := fun ws δ1 => match ws with
  | [.val (.tup ds)] => Q (numD 0 ds) δ1
  | _ => False
theorem ev_enu {r : DA} {δ : DS} {Q : List D → DS → Prop} : iEnuD r δ Q = r δ (kEnu Q) := rfl
theorem ev_kenu {ds : List D} {δ : DS} {Q : List D → DS → Prop} : kEnu Q [.val (.tup ds)] δ = Q (numD 0 ds) δ := rfl
/-- numbered items -/
def numL {β : Type} (k : Nat) : List β → List (Nat × β)
  | [] => []
  | x :: xs => (k, x) :: numL (k + 1) xs
theorem numD_map {β : Type} {enc : β → D} : ∀ (xs : List β) (k : Nat), numD k (xs.map enc) = (numL k xs).map fun p => .tup [.int (p.1 : Int), enc p.2]
  | [], _ => rfl
  | x :: xs, k => by
    rw [List.map_cons]
    show .tup [.int (k : Int), enc x] :: numD (k + 1) (xs.map enc) = _
    rw [numD_map xs (k + 1)]
    rfl
theorem numL_len {β : Type} : ∀ (xs : List β) (k : Nat), (numL k xs).length = xs.length
  | [], _ => rfl
  | x :: xs, k => congrArg (· + 1) (numL_len xs (k + 1))
theorem numL_eq {β : Type} (d : β) : ∀ (xs : List β) (k : Nat), numL k xs = (List.range xs.length).map fun i => (k + i, xs.getD i d)
  | [], _ => rfl
  | x :: xs, k => by
    show (k, x) :: numL (k + 1) xs = _
    rw [numL_eq d xs (k + 1), List.length_cons, List.range_succ_eq_map, List.map_cons, List.map_map]
    congr 1
    refine List.map_congr_left fun i _ => ?_
    show (k + 1 + i, xs.getD i d) = (k + (i + 1), (x :: xs).getD (i + 1) d)
    rw [show k + 1 + i = k + (i + 1) by omega]
    rfl
end Dl

/-! Dl: tuples of ints compared. -/
namespace Dl
open PySem L2 PySem.Spec PyProof.Rows
theorem eqP_ints (a b : List Int) : eqP (.tup (a.map D.int)) (.tup (b.map D.int)) = decide (a = b) := by
  have key : ∀ a b : List Int, PyData.eqvAll (toPys (a.map D.int)) (toPys (b.map D.int)) = decide (a = b) := fun a => by
    induction a with
    | nil =>
      intro b
      cases b <;> rfl
    | cons x xs ih =>
      intro b
      cases b with
      | nil => rfl
      | cons y ys =>
        show (PyData.eqv (.int x) (.int y) && PyData.eqvAll (toPys (xs.map D.int)) (toPys (ys.map D.int))) = _
        rw [ih]
        show ((x == y) && decide (xs = ys)) = _
        by_cases h : x = y <;> simp [h]
  exact key a b
theorem sh_ints (l : List Int) : shP (.tup (l.map D.int)) = true := pi_sh (n := 1) (fun d hd => by
  obtain ⟨i, _, rfl⟩ := List.mem_map.mp hd
  trivial) (by decide)
end Dl

/-! Dl: rules of jurisdiction. -/
namespace Dl
open PySem L2
structure Jr where
  cs : List Nat
  lo : Int
  hi : Option Int
  co : Int
def jrD (r : Jr) : D := .tup [.tup (r.cs.map nI), .int r.lo, oD r.hi, .int r.co]
theorem jrD_eq (r : Jr) : jrD r = .tup [.tup (r.cs.map nI), .int r.lo, oD r.hi, .int r.co] := rfl
def Jr.ok (r : Jr) : Prop := 0 ≤ r.lo ∧ r.lo ≤ 100000 ∧ ∀ h, r.hi = some h → 0 ≤ h ∧ h ≤ 100000
def below (a : Int) : Option Int → Bool
  | none => true
  | some h => decide (a ≤ h)
def apJ (c : Nat) (a : Int) (r : Jr) : Bool := decide (c ∈ r.cs) && (decide (r.lo ≤ a) && below a r.hi)
theorem apJ_iff {c : Nat} {a : Int} {r : Jr} : apJ c a r = true ↔ c ∈ r.cs ∧ r.lo ≤ a ∧ ∀ h, r.hi = some h → a ≤ h := by
  unfold apJ below
  cases e : r.hi with
  | none => simp
  | some h => simp
def cntJ (rs : List Jr) (c : Nat) (a : Int) : Nat := (rs.filter (apJ c a)).length
/-- the first category and amount of a kind -/
def firstJ (t : Nat → Int → Bool) (l : List Int) : List Nat → Option (Nat × Int)
  | [] => none
  | c :: cs => match l.find? (t c) with
    | some a => some (c, a)
    | none => firstJ t l cs
def fpD : Option (Nat × Int) → D
  | none => .non
  | some p => .tup [.int (p.1 : Int), .int p.2]
/-- of two sorted lists the least ones of a kind -/
theorem find_least {p : Int → Bool} {l : List Int} {x : Int} (hs : l.Pairwise (· ≤ ·)) (h : l.find? p = some x) : x ∈ l ∧ p x = true ∧ ∀ y ∈ l, p y = true → x ≤ y := by
  induction l with
  | nil => cases h
  | cons z l ih =>
    obtain ⟨h1, h2⟩ := List.pairwise_cons.mp hs
    rw [List.find?_cons] at h
    cases q : p z with
    | true =>
      rw [q] at h
      cases h
      refine ⟨List.mem_cons_self, q, fun y hy _ => ?_⟩
      rcases List.mem_cons.mp hy with rfl | hy
      · exact Int.le_refl _
      · exact h1 y hy
    | false =>
      rw [q] at h
      obtain ⟨i1, i2, i3⟩ := ih h2 h
      refine ⟨List.mem_cons_of_mem _ i1, i2, fun y hy hp => ?_⟩
      rcases List.mem_cons.mp hy with rfl | hy
      · rw [q] at hp
        cases hp
      · exact i3 y hy hp
theorem find_same {p : Int → Bool} {l m : List Int} (hl : l.Pairwise (· ≤ ·)) (hm : m.Pairwise (· ≤ ·)) (h1 : ∀ x ∈ l, p x = true → ∃ y ∈ m, y ≤ x ∧ p y = true) (h2 : ∀ x ∈ m, p x = true → ∃ y ∈ l, y ≤ x ∧ p y = true) : l.find? p = m.find? p := by
  cases e : l.find? p with
  | none =>
    cases f : m.find? p with
    | none => rfl
    | some y =>
      obtain ⟨f1, f2, _⟩ := find_least hm f
      obtain ⟨z, z1, _, z2⟩ := h2 y f1 f2
      have := List.find?_eq_none.mp e z z1
      exact absurd z2 this
  | some x =>
    obtain ⟨e1, e2, e3⟩ := find_least hl e
    cases f : m.find? p with
    | none =>
      obtain ⟨z, z1, _, z2⟩ := h1 x e1 e2
      exact absurd z2 (List.find?_eq_none.mp f z z1)
    | some y =>
      obtain ⟨f1, f2, f3⟩ := find_least hm f
      obtain ⟨u, u1, u2, u3⟩ := h1 x e1 e2
      obtain ⟨v, v1, v2, v3⟩ := h2 y f1 f2
      have := f3 u u1 u3
      have := e3 v v1 v3
      congr 1
      omega
theorem firstJ_same {t : Nat → Int → Bool} {l m : List Int} (h : ∀ c, l.find? (t c) = m.find? (t c)) : ∀ cs, firstJ t l cs = firstJ t m cs
  | [] => rfl
  | c :: cs => by
    unfold firstJ
    rw [h c, firstJ_same h cs]
def endsJ (rs : List Jr) : List Int := rs.filterMap fun r => r.hi.map (· + 1)
def gapA (rs : List Jr) : List Int := 0 :: endsJ rs
def lowsJ (rs : List Jr) : List Int := rs.map (·.lo)
theorem mem_ends {rs : List Jr} {x : Int} : x ∈ endsJ rs ↔ ∃ r ∈ rs, ∃ h, r.hi = some h ∧ x = h + 1 := by
  unfold endsJ
  rw [List.mem_filterMap]
  constructor
  · rintro ⟨r, hr, e⟩
    cases q : r.hi with
    | none => rw [q] at e; cases e
    | some h =>
      rw [q] at e
      cases e
      exact ⟨r, hr, h, q, rfl⟩
  · rintro ⟨r, hr, h, e, rfl⟩
    exact ⟨r, hr, by rw [e]; rfl⟩
/-- a greatest one of a list that is not above a number -/
theorem greatest_le : ∀ {l : List Int} {x y : Int}, y ∈ l → y ≤ x → ∃ z ∈ l, z ≤ x ∧ ∀ w ∈ l, w ≤ x → w ≤ z
  | [], _, _, h, _ => by cases h
  | a :: l, x, y, h, hy => by
    by_cases q : ∃ w ∈ l, w ≤ x
    · obtain ⟨w, w1, w2⟩ := q
      obtain ⟨z, z1, z2, z3⟩ := greatest_le w1 w2
      by_cases g : a ≤ x ∧ z ≤ a
      · refine ⟨a, List.mem_cons_self, g.1, fun v hv hx => ?_⟩
        rcases List.mem_cons.mp hv with rfl | hv
        · exact Int.le_refl _
        · have := z3 v hv hx
          omega
      · refine ⟨z, List.mem_cons_of_mem _ z1, z2, fun v hv hx => ?_⟩
        rcases List.mem_cons.mp hv with rfl | hv
        · omega
        · exact z3 v hv hx
    · rcases List.mem_cons.mp h with rfl | h
      · refine ⟨y, List.mem_cons_self, hy, fun v hv hx => ?_⟩
        rcases List.mem_cons.mp hv with rfl | hv
        · exact Int.le_refl _
        · exact absurd ⟨v, hv, hx⟩ q
      · exact absurd ⟨y, h, hy⟩ q
theorem cnt_zero {rs : List Jr} {c : Nat} {a : Int} : cntJ rs c a = 0 ↔ ∀ r ∈ rs, apJ c a r ≠ true := by
  unfold cntJ
  rw [List.length_eq_zero_iff, List.filter_eq_nil_iff]
/-- a gap begins at 0 or behind a rule -/
theorem gap_down {rs : List Jr} {c : Nat} {p : Int} (h0 : 0 ≤ p) (h : cntJ rs c p = 0) : ∃ q ∈ gapA rs, q ≤ p ∧ cntJ rs c q = 0 := by
  obtain ⟨q, q1, q2, q3⟩ := greatest_le (l := gapA rs) (x := p) List.mem_cons_self h0
  refine ⟨q, q1, q2, cnt_zero.mpr fun r hr ha => ?_⟩
  obtain ⟨a1, a2, a3⟩ := apJ_iff.mp ha
  refine cnt_zero.mp h r hr (apJ_iff.mpr ⟨a1, by omega, fun z hz => ?_⟩)
  rcases Int.lt_or_le z p with g | g
  · have := q3 (z + 1) (List.mem_cons_of_mem _ (mem_ends.mpr ⟨r, hr, z, hz, rfl⟩)) (by omega)
    have := a3 z hz
    omega
  · exact g
/-- an overlap begins where a rule begins -/
theorem over_down {rs : List Jr} {c : Nat} {p : Int} (h : 1 < cntJ rs c p) : ∃ q ∈ lowsJ rs, q ≤ p ∧ 1 < cntJ rs c q := by
  have pos : 0 < (rs.filter (apJ c p)).length := Nat.lt_trans Nat.zero_lt_one h
  obtain ⟨r0, hr0⟩ := List.exists_mem_of_length_pos pos
  have m0 := List.mem_filter.mp hr0
  obtain ⟨q, q1, q2, q3⟩ := greatest_le (l := lowsJ rs) (x := p) (List.mem_map.mpr ⟨r0, m0.1, rfl⟩) (apJ_iff.mp m0.2).2.1
  refine ⟨q, q1, q2, Nat.lt_of_lt_of_le h ?_⟩
  unfold cntJ
  rw [← List.countP_eq_length_filter, ← List.countP_eq_length_filter]
  refine List.countP_mono_left fun r hr ha => ?_
  obtain ⟨a1, a2, a3⟩ := apJ_iff.mp ha
  exact apJ_iff.mpr ⟨a1, q3 r.lo (List.mem_map.mpr ⟨r, hr, rfl⟩) a2, fun z hz => by have := a3 z hz; omega⟩
/-- the points of the law -/
def ptsJ (rs : List Jr) : List Int := rs.foldl (fun l r => l ++ [r.lo] ++ (match r.hi with
  | none => []
  | some h => [h + 1])) [0]
theorem mem_pts {rs : List Jr} {x : Int} : x ∈ ptsJ rs ↔ x = 0 ∨ x ∈ lowsJ rs ∨ x ∈ endsJ rs := by
  unfold ptsJ
  have key : ∀ (rs : List Jr) (l : List Int), x ∈ rs.foldl (fun l r => l ++ [r.lo] ++ (match r.hi with
      | none => []
      | some h => [h + 1])) l ↔ x ∈ l ∨ x ∈ lowsJ rs ∨ x ∈ endsJ rs := fun rs => by
    induction rs with
    | nil =>
      intro l
      simp [lowsJ, endsJ]
    | cons r rs ih =>
      intro l
      rw [List.foldl_cons, ih, mem_ends, mem_ends]
      unfold lowsJ
      rw [List.map_cons, List.mem_cons]
      cases e : r.hi with
      | none =>
        simp only [List.append_nil, List.mem_append, List.mem_singleton]
        constructor
        · rintro ((h | h) | h | ⟨r', h1, h2⟩)
          · exact .inl h
          · exact .inr (.inl (.inl h))
          · exact .inr (.inl (.inr h))
          · exact .inr (.inr ⟨r', List.mem_cons_of_mem _ h1, h2⟩)
        · rintro (h | (h | h) | ⟨r', h1, z, h2, h3⟩)
          · exact .inl (.inl h)
          · exact .inl (.inr h)
          · exact .inr (.inl h)
          · rcases List.mem_cons.mp h1 with rfl | h1
            · rw [e] at h2
              cases h2
            · exact .inr (.inr ⟨r', h1, z, h2, h3⟩)
      | some w =>
        simp only [List.mem_append, List.mem_singleton]
        constructor
        · rintro (((h | h) | h) | h | ⟨r', h1, h2⟩)
          · exact .inl h
          · exact .inr (.inl (.inl h))
          · exact .inr (.inr ⟨r, List.mem_cons_self, w, e, h⟩)
          · exact .inr (.inl (.inr h))
          · exact .inr (.inr ⟨r', List.mem_cons_of_mem _ h1, h2⟩)
        · rintro (h | (h | h) | ⟨r', h1, z, h2, h3⟩)
          · exact .inl (.inl (.inl h))
          · exact .inl (.inl (.inr h))
          · exact .inr (.inl h)
          · rcases List.mem_cons.mp h1 with rfl | h1
            · rw [e] at h2
              cases h2
              exact .inl (.inr h3)
            · exact .inr (.inr ⟨r', h1, z, h2, h3⟩)
  rw [key]
  simp
def kindJ (rs : List Jr) (k : Bool) (c : Nat) (a : Int) : Bool := if k then decide (1 < cntJ rs c a) else decide (cntJ rs c a = 0)
theorem gap_same {rs : List Jr} {l m : List Int} (hr : ∀ r ∈ rs, r.ok) (p1 : l.Perm (gapA rs)) (s1 : l.Pairwise (· ≤ ·)) (p2 : m.Perm (ptsJ rs)) (s2 : m.Pairwise (· ≤ ·)) (cs : List Nat) : firstJ (kindJ rs false) l cs = firstJ (kindJ rs false) m cs := by
  refine firstJ_same (fun c => find_same s1 s2 (fun x hx hp => ?_) fun x hx hp => ?_) cs
  · refine ⟨x, p2.mem_iff.mpr (mem_pts.mpr ?_), Int.le_refl _, hp⟩
    rcases List.mem_cons.mp (p1.mem_iff.mp hx) with h | h
    · exact .inl h
    · exact .inr (.inr h)
  · have x0 : 0 ≤ x := by
      rcases mem_pts.mp (p2.mem_iff.mp hx) with rfl | h | h
      · exact Int.le_refl _
      · obtain ⟨r, h1, rfl⟩ := List.mem_map.mp h
        exact (hr r h1).1
      · obtain ⟨r, h1, z, h2, rfl⟩ := mem_ends.mp h
        have := (hr r h1).2.2 z h2
        omega
    obtain ⟨q, q1, q2, q3⟩ := gap_down (c := c) x0 (of_decide_eq_true (show decide (cntJ rs c x = 0) = true from hp))
    exact ⟨q, p1.mem_iff.mpr q1, q2, decide_eq_true q3⟩
theorem over_same {rs : List Jr} {l m : List Int} (p1 : l.Perm (lowsJ rs)) (s1 : l.Pairwise (· ≤ ·)) (p2 : m.Perm (ptsJ rs)) (s2 : m.Pairwise (· ≤ ·)) (cs : List Nat) : firstJ (kindJ rs true) l cs = firstJ (kindJ rs true) m cs := by
  refine firstJ_same (fun c => find_same s1 s2 (fun x hx hp => ?_) fun x hx hp => ?_) cs
  · exact ⟨x, p2.mem_iff.mpr (mem_pts.mpr (.inr (.inl (p1.mem_iff.mp hx)))), Int.le_refl _, hp⟩
  · obtain ⟨q, q1, q2, q3⟩ := over_down (of_decide_eq_true (show decide (1 < cntJ rs c x) = true from hp))
    exact ⟨q, p1.mem_iff.mpr q1, q2, decide_eq_true q3⟩
/-- the rules that apply, by number -/
def jr0 : Jr := ⟨[], 0, none, 0⟩
def appl (rs : List Jr) (c : Nat) (a : Int) : List Nat := (List.range rs.length).filter fun i => apJ c a (rs.getD i jr0)
theorem appl_len (rs : List Jr) (c : Nat) (a : Int) : (appl rs c a).length = cntJ rs c a := by
  unfold appl cntJ
  have e : rs = (List.range rs.length).map fun i => rs.getD i jr0 := by
    refine List.ext_getElem (by rw [List.length_map, List.length_range]) fun i h1 h2 => ?_
    rw [List.getElem_map, List.getElem_range, List.getD_eq_getElem?_getD, List.getElem?_eq_getElem h1]
    rfl
  have e2 : (rs.filter (apJ c a)).length = (((List.range rs.length).map fun i => rs.getD i jr0).filter (apJ c a)).length := by rw [← e]
  rw [e2, List.filter_map, List.length_map]
  rfl
/-- the first of them -/
theorem appl_first (rs : List Jr) (c : Nat) (a : Int) : (appl rs c a).head?.map (fun i => (rs.getD i jr0).co) = (rs.find? (apJ c a)).map (·.co) := by
  have e : rs = (List.range rs.length).map fun i => rs.getD i jr0 := by
    refine List.ext_getElem (by rw [List.length_map, List.length_range]) fun i h1 h2 => ?_
    rw [List.getElem_map, List.getElem_range, List.getD_eq_getElem?_getD, List.getElem?_eq_getElem h1]
    rfl
  have e2 : rs.find? (apJ c a) = ((List.range rs.length).map fun i => rs.getD i jr0).find? (apJ c a) := by rw [← e]
  rw [e2, List.find?_map, Option.map_map]
  unfold appl
  rw [← List.head?_filter]
  rfl
theorem ends_eq : ∀ rs : List Jr, (rs.filter fun r => r.hi.isSome).map (fun r => D.int (r.hi.getD 0 + 1)) = (endsJ rs).map D.int
  | [] => rfl
  | r :: rs => by
    have ih := ends_eq rs
    unfold endsJ at *
    cases e : r.hi with
    | none =>
      rw [List.filter_cons, if_neg (by rw [e]; decide), ih, List.filterMap_cons, e]
      rfl
    | some h =>
      rw [List.filter_cons, if_pos (by rw [e]; rfl), List.map_cons, ih, List.filterMap_cons, e]
      rfl
theorem sorted_ints {l : List Int} {P : List D → Prop} (h : ∀ ms : List Int, ms.Perm l → ms.Pairwise (· ≤ ·) → P (ms.map D.int)) : sortedR [.lst (l.map D.int)] P := by
  show (match intsD (l.map D.int) with
    | some ns => ∀ ms : List Int, ms.Perm ns → ms.Pairwise (· ≤ ·) → P (ms.map D.int)
    | none => False)
  rw [intsD_map]
  exact h
theorem firstJ_nil {t : Nat → Int → Bool} {l : List Int} {c : Nat} {cs : List Nat} (h : l.find? (t c) = none) : firstJ t l (c :: cs) = firstJ t l cs := by
  rw [firstJ, h]
theorem firstJ_hit {t : Nat → Int → Bool} {l : List Int} {c : Nat} {cs : List Nat} {a : Int} (h : l.find? (t c) = some a) : firstJ t l (c :: cs) = some (c, a) := by
  rw [firstJ, h]
theorem drop4 : ∀ i : Nat, i < 4 → [0, 1, 2, 3].drop i = i :: [0, 1, 2, 3].drop (i + 1)
  | 0, _ => rfl
  | 1, _ => rfl
  | 2, _ => rfl
  | 3, _ => rfl
  | _ + 4, h => by omega
theorem sorted_find {p : Int → Bool} {l m z : List Int} (p1 : l.Perm z) (s1 : l.Pairwise (· ≤ ·)) (p2 : m.Perm z) (s2 : m.Pairwise (· ≤ ·)) : l.find? p = m.find? p :=
  find_same s1 s2 (fun x hx hp => ⟨x, p2.mem_iff.mpr (p1.mem_iff.mp hx), Int.le_refl _, hp⟩) fun x hx hp => ⟨x, p1.mem_iff.mpr (p2.mem_iff.mp hx), Int.le_refl _, hp⟩
def putS (x : Int) : List Int → List Int
  | [] => [x]
  | y :: l => if x ≤ y then x :: y :: l else y :: putS x l
theorem putS_perm (x : Int) : ∀ l : List Int, (putS x l).Perm (x :: l)
  | [] => List.Perm.refl _
  | y :: l => by
    unfold putS
    split
    · exact List.Perm.refl _
    · exact ((putS_perm x l).cons y).trans (List.Perm.swap x y l)
theorem putS_sorted (x : Int) : ∀ l : List Int, l.Pairwise (· ≤ ·) → (putS x l).Pairwise (· ≤ ·)
  | [], _ => List.pairwise_singleton _ _
  | y :: l, h => by
    obtain ⟨h1, h2⟩ := List.pairwise_cons.mp h
    unfold putS
    split
    · rename_i q
      refine List.pairwise_cons.mpr ⟨fun z hz => ?_, h⟩
      rcases List.mem_cons.mp hz with rfl | hz
      · exact q
      · exact Int.le_trans q (h1 z hz)
    · rename_i q
      refine List.pairwise_cons.mpr ⟨fun z hz => ?_, putS_sorted x l h2⟩
      rcases List.mem_cons.mp ((putS_perm x l).mem_iff.mp hz) with rfl | hz
      · omega
      · exact h1 z hz
theorem sorted_ex : ∀ z : List Int, ∃ l : List Int, l.Perm z ∧ l.Pairwise (· ≤ ·)
  | [] => ⟨[], List.Perm.refl _, .nil⟩
  | x :: z => by
    obtain ⟨l, h1, h2⟩ := sorted_ex z
    exact ⟨putS x l, (putS_perm x l).trans (h1.cons x), putS_sorted x l h2⟩
end Dl

/-! Dl: the least sum of votes over all sequences of rulings. -/
namespace Dl
open PySem L2
def oLe (o : Option Int) (v : Int) : Prop := ∃ x, o = some x ∧ x ≤ v
theorem oLe_ext {o p : Option Int} (h : ∀ v, oLe o v ↔ oLe p v) : o = p := by
  cases o with
  | none =>
    cases p with
    | none => rfl
    | some y =>
      obtain ⟨x, hx, _⟩ := (h y).mpr ⟨y, rfl, Int.le_refl _⟩
      cases hx
  | some x =>
    obtain ⟨y, rfl, hy⟩ := (h x).mp ⟨x, rfl, Int.le_refl _⟩
    obtain ⟨z, hz, hz2⟩ := (h y).mpr ⟨y, rfl, Int.le_refl _⟩
    have := Option.some.inj hz
    congr 1
    omega
theorem oLe_mono {o : Option Int} {v w : Int} (h : oLe o v) (hv : v ≤ w) : oLe o w := by
  obtain ⟨x, e, hx⟩ := h
  exact ⟨x, e, by omega⟩
def lsO : Option Int → Option Int → Bool
  | none, _ => false
  | some _, none => true
  | some x, some y => decide (x < y)
def relO (t a : Option Int) : Option Int := if lsO t a then t else a
theorem rel_le {t a : Option Int} {v : Int} : oLe (relO t a) v ↔ oLe t v ∨ oLe a v := by
  unfold relO
  cases t with
  | none =>
    show oLe a v ↔ _
    constructor
    · exact .inr
    · rintro (⟨x, hx, _⟩ | h)
      · cases hx
      · exact h
  | some x =>
    cases a with
    | none =>
      show oLe (some x) v ↔ _
      constructor
      · exact .inl
      · rintro (h | ⟨y, hy, _⟩)
        · exact h
        · cases hy
    | some y =>
      by_cases q : x < y
      · rw [show (if lsO (some x) (some y) then some x else some y) = some x from if_pos (decide_eq_true q)]
        constructor
        · exact .inl
        · rintro (h | ⟨z, hz, h⟩)
          · exact h
          · cases hz
            exact ⟨x, rfl, by omega⟩
      · rw [show (if lsO (some x) (some y) then some x else some y) = some y from if_neg (by rw [show lsO (some x) (some y) = decide (x < y) from rfl, decide_eq_false q]; decide)]
        constructor
        · exact .inr
        · rintro (⟨z, hz, h⟩ | h)
          · cases hz
            exact ⟨y, rfl, by omega⟩
          · exact h
theorem plu_le {o : Option Int} {k v : Int} : oLe (pluS o (some k)) v ↔ oLe o (v - k) := by
  cases o with
  | none =>
    constructor
    · rintro ⟨x, hx, _⟩
      cases hx
    · rintro ⟨x, hx, _⟩
      cases hx
  | some x =>
    constructor
    · rintro ⟨y, hy, h⟩
      have := Option.some.inj hy
      exact ⟨x, rfl, by omega⟩
    · rintro ⟨y, hy, h⟩
      have := Option.some.inj hy
      exact ⟨x + k, rfl, by omega⟩
/-- the votes against the finding that is present -/
def cstV (before : Bool) (ones size : Nat) : Int := if before then (size : Int) - ones else ones
def allV (q : Co) (ma : Ma) (lv : Int) (size ones : Nat) : Bool := decide (benchF q ma.p lv (foundB ma.m ones size) = some size)
def oneV (q : Co) (ma : Ma) (lv : Int) (s : Bool → Option Int) (size ones : Nat) (t : Bool) (v : Int) : Prop := allV q ma lv size ones = true ∧ foundB ma.m ones size = t ∧ ∃ b : Bool, oLe (s b) (v - cstV b ones size)
def sizeV (q : Co) (ma : Ma) (lv : Int) (s : Bool → Option Int) (size : Nat) (t : Bool) (v : Int) : Prop := ∃ ones, ones ≤ size ∧ oneV q ma lv s size ones t v
theorem benchF_or {q : Co} {p : Option (Int × Bool)} {lv : Int} {fd : Bool} {n : Nat} (e : benchF q p lv fd = some n) : n = q.b ∨ n = q.f := by
  unfold benchF at e
  split at e
  · cases e
    exact .inl rfl
  · split at e
    · cases e
      exact .inl rfl
    · split at e
      · cases e
        exact .inr rfl
      · cases e
theorem need_pos {q : Co} (ok : q.ok) {ma : Ma} {lv : Int} {fd : Bool} {v : Int} (h : oLe (needV q ma lv fd) v) : 0 ≤ v := by
  obtain ⟨x, hx, hv⟩ := h
  cases e : benchF q ma.p lv fd with
  | none =>
    rw [needV_no e] at hx
    cases hx
  | some n =>
    rw [needV_of e] at hx
    have := benchF_ok ok e
    have := needF_le (m := ma.m) this.1
    have hx := Option.some.inj hx
    split at hx <;> omega
theorem level_step {q : Co} {ma : Ma} {lv : Int} {f : Bool} {s : Bool → Option Int} (ok : q.ok) (fit : benchF q ma.p lv f = some q.b) (hf : ∀ v, oLe (s f) v ↔ 0 ≤ v) (hn : ∀ v, oLe (s (!f)) v → 0 ≤ v) :
    (∀ v, (sizeV q ma lv s q.b f v ∨ sizeV q ma lv s q.f f v) ↔ 0 ≤ v) ∧ (∀ v, (sizeV q ma lv s q.b (!f) v ∨ sizeV q ma lv s q.f (!f) v) → oLe (needV q ma lv (!f)) v ∨ oLe (s (!f)) v) ∧
    (∀ v, oLe (needV q ma lv (!f)) v → sizeV q ma lv s q.b (!f) v ∨ sizeV q ma lv s q.f (!f) v) := by
  have b1 := ok.b1
  have cst0 : ∀ (b : Bool) (o n : Nat), o ≤ n → 0 ≤ cstV b o n := fun b o n h => by
    unfold cstV
    split <;> omega
  have sp : ∀ (b : Bool) v, oLe (s b) v → 0 ≤ v := fun b v h => by
    by_cases e : b = f
    · subst e
      exact (hf v).mp h
    · have : b = !f := by cases b <;> cases f <;> simp_all
      rw [this] at h
      exact hn v h
  have cand : ∀ n t v, sizeV q ma lv s n t v → 0 ≤ v := by
    rintro n t v ⟨o, ho, _, _, b, h⟩
    have := sp b _ h
    have := cst0 b o n ho
    omega
  refine ⟨fun v => ⟨fun h => h.elim (cand _ _ _) (cand _ _ _), fun h => .inl ?_⟩, fun v h => ?_, fun v h => ?_⟩
  · have l := needF_le (m := ma.m) b1
    cases f
    · have e : foundB ma.m ((0 : Nat) : Int) q.b = false := by
        cases z : foundB ma.m ((0 : Nat) : Int) q.b
        · rfl
        · have := (found_iff b1 (by omega) (by omega)).mp z
          omega
      exact ⟨0, Nat.zero_le _, decide_eq_true (by rw [e]; exact fit), e, false, (hf _).mpr (by show 0 ≤ v - ((0 : Nat) : Int); omega)⟩
    · have e : foundB ma.m (q.b : Int) q.b = true := (found_iff b1 (by omega) (by omega)).mpr (by omega)
      exact ⟨q.b, Nat.le_refl _, decide_eq_true (by rw [e]; exact fit), e, true, (hf _).mpr (by show 0 ≤ v - ((q.b : Int) - (q.b : Nat)); omega)⟩
  · have key : ∀ n, sizeV q ma lv s n (!f) v → oLe (needV q ma lv (!f)) v ∨ oLe (s (!f)) v := by
      rintro n ⟨o, ho, ha, e, b, hb⟩
      have ha := of_decide_eq_true ha
      rw [e] at ha
      have hn1 := benchF_ok ok ha
      by_cases q2 : b = f
      · subst q2
        left
        have := (hf _).mp hb
        rw [needV_of ha]
        refine ⟨_, rfl, ?_⟩
        cases b
        · have := (found_iff hn1.1 (by omega) (by omega)).mp e
          unfold cstV at *
          simp at *
          omega
        · have : ¬ (needF ma.m n : Int) ≤ o := fun z => by
            have := (found_iff (m := ma.m) hn1.1 (by omega) (by omega)).mpr z
            rw [e] at this
            cases this
          unfold cstV at *
          simp at *
          omega
      · right
        have : b = !f := by cases b <;> cases f <;> simp_all
        rw [this] at hb
        exact oLe_mono hb (by have := cst0 (!f) o n ho; omega)
    exact h.elim (key _) (key _)
  · obtain ⟨x, hx, hv⟩ := h
    cases e : benchF q ma.p lv (!f) with
    | none =>
      rw [needV_no e] at hx
      cases hx
    | some n =>
      rw [needV_of e] at hx
      have hn1 := benchF_ok ok e
      have l := needF_le (m := ma.m) hn1.1
      have hx := Option.some.inj hx
      have key : sizeV q ma lv s n (!f) v := by
        cases f
        · have ef : foundB ma.m (needF ma.m n : Int) n = true := (found_iff hn1.1 (by omega) (by omega)).mpr (Int.le_refl _)
          refine ⟨needF ma.m n, l.2, decide_eq_true (by rw [ef]; exact e), ef, false, (hf _).mpr ?_⟩
          unfold cstV
          simp at *
          omega
        · have ef : foundB ma.m ((needF ma.m n - 1 : Nat) : Int) n = false := by
            cases z : foundB ma.m ((needF ma.m n - 1 : Nat) : Int) n
            · rfl
            · have := (found_iff hn1.1 (by omega) (by omega)).mp z
              omega
          refine ⟨needF ma.m n - 1, by omega, decide_eq_true (by rw [ef]; exact e), ef, true, (hf _).mpr ?_⟩
          unfold cstV
          simp at *
          omega
      rcases benchF_or e with rfl | rfl
      · exact .inl key
      · exact .inr key
end Dl

/-! Dl: the cheapest rulings. -/
namespace Dl
open PySem L2
def needL (cs : List C2) (ch : List Nat) (ma : Ma) (fd : Bool) (x : Nat) : Option Int := match cs[ch.getD x 0]? with
  | some c => needV c.2 ma (x : Int) fd
  | none => none
theorem needL_at {cs : List C2} {ch : List Nat} {ma : Ma} {fd : Bool} {x : Nat} {c : C2} (e : cs[ch.getD x 0]? = some c) : needL cs ch ma fd x = needV c.2 ma (x : Int) fd := by
  unfold needL
  rw [e]
def ch1 (f : Bool) : Nat := if f then 49 else 48
def affL (cs : List C2) (ch : List Nat) (f : Bool) (x : Nat) : List Nat := match cs[ch.getD x 0]? with
  | some c => List.replicate c.2.b (ch1 f)
  | none => []
theorem affL_at {cs : List C2} {ch : List Nat} {f : Bool} {x : Nat} {c : C2} (e : cs[ch.getD x 0]? = some c) : affL cs ch f x = List.replicate c.2.b (ch1 f) := by
  unfold affL
  rw [e]
def benL (cs : List C2) (ch : List Nat) (ma : Ma) (f : Bool) (x : Nat) : Nat := match cs[ch.getD x 0]? with
  | some c => (benchF c.2 ma.p (x : Int) (!f)).getD 0
  | none => 0
theorem benL_at {cs : List C2} {ch : List Nat} {ma : Ma} {f : Bool} {x : Nat} {c : C2} {n : Nat} (e : cs[ch.getD x 0]? = some c) (h : benchF c.2 ma.p (x : Int) (!f) = some n) : benL cs ch ma f x = n := by
  unfold benL
  rw [e]
  show (benchF c.2 ma.p (x : Int) (!f)).getD 0 = n
  rw [h]
  rfl
def lasL (cs : List C2) (ch : List Nat) (ma : Ma) (f : Bool) (b : Int) (x : Nat) : List Nat := List.replicate b.toNat (ch1 (!f)) ++ List.replicate (benL cs ch ma f x - b.toNat) (ch1 f)
def rulO (cs : List C2) (ch : List Nat) (ma : Ma) (f : Bool) (b : Int) : List Nat → Option (List (List Nat))
  | [] => none
  | x :: r => if needL cs ch ma (!f) x = some b then some [lasL cs ch ma f b x] else (rulO cs ch ma f b r).map (affL cs ch f x :: ·)
def strL (w : List Nat) : D := .str (ofL w)
def rulD (cs : List C2) (ch : List Nat) (ma : Ma) (f : Bool) (ls : List Nat) : Option Int → D
  | none => .non
  | some b => match rulO cs ch ma f b ls with
    | none => .non
    | some l => .tup (l.map strL)
section
variable {cs : List C2} {ch : List Nat} {ma : Ma} {f : Bool} {b : Int} {x : Nat}
theorem rul_hit {r : List Nat} (h : needL cs ch ma (!f) x = some b) : rulO cs ch ma f b (x :: r) = some [lasL cs ch ma f b x] := if_pos h
theorem rul_pass {r : List Nat} (h : needL cs ch ma (!f) x ≠ some b) : rulO cs ch ma f b (x :: r) = (rulO cs ch ma f b r).map (affL cs ch f x :: ·) := if_neg h
theorem rul_at : ∀ {ls : List Nat} {l : List (List Nat)}, rulO cs ch ma f b ls = some l → ∃ k x, l = (ls.take k).map (affL cs ch f) ++ [lasL cs ch ma f b x] ∧ ls[k]? = some x ∧ needL cs ch ma (!f) x = some b
  | [], l, h => by cases h
  | x :: r, l, h => by
    by_cases q : needL cs ch ma (!f) x = some b
    · rw [rul_hit q] at h
      cases h
      exact ⟨0, x, rfl, rfl, q⟩
    · rw [rul_pass q] at h
      cases e : rulO cs ch ma f b r with
      | none =>
        rw [e] at h
        cases h
      | some l2 =>
        rw [e] at h
        cases h
        obtain ⟨k, y, rfl, h2, h3⟩ := rul_at e
        exact ⟨k + 1, y, rfl, h2, h3⟩
theorem rul_idx : ∀ {ls : List Nat} {k : Nat}, (∀ j y, j < k → ls[j]? = some y → needL cs ch ma (!f) y ≠ some b) → ls[k]? = some x → needL cs ch ma (!f) x = some b → rulO cs ch ma f b ls = some ((ls.take k).map (affL cs ch f) ++ [lasL cs ch ma f b x])
  | [], k, _, h, _ => by cases h
  | y :: r, 0, _, h, h2 => by
    cases h
    rw [rul_hit h2]
    rfl
  | y :: r, k + 1, h1, h, h2 => by
    rw [rul_pass (h1 0 y (Nat.succ_pos _) rfl), rul_idx (fun j z hj hz => h1 (j + 1) z (Nat.succ_lt_succ hj) hz) h h2]
    rfl
theorem rul_none : ∀ {ls : List Nat}, rulO cs ch ma f b ls = none → ∀ x ∈ ls, needL cs ch ma (!f) x ≠ some b
  | y :: r, h, x, hx => by
    by_cases q : needL cs ch ma (!f) y = some b
    · rw [rul_hit q] at h
      cases h
    · rw [rul_pass q] at h
      rcases List.mem_cons.mp hx with rfl | hx
      · exact q
      · refine rul_none ?_ x hx
        cases e : rulO cs ch ma f b r with
        | none => rfl
        | some l =>
          rw [e] at h
          cases h
end
theorem ben_is {q : Co} {ma : Ma} {f : Bool} {x : Int} {b : Int} (h : needV q ma x (!f) = some b) : benchF q ma.p x (!f) = some (if ma.p = some (x, f) then q.f else q.b) := by
  obtain ⟨l, m, a, p⟩ := ma
  cases p with
  | none =>
    rw [if_neg (show ¬ (Ma.mk l m a none).p = some (x, f) from fun z => nomatch z)]
    rfl
  | some kb =>
    obtain ⟨k, c⟩ := kb
    by_cases e : (!f) = c
    · rw [show (benchF q (Ma.mk l m a (some (k, c))).p x (!f)) = some q.b from benchF_same e, if_neg]
      intro z
      cases z
      cases f <;> cases e
    · have e2 : c = f := by cases f <;> cases c <;> first | rfl | exact absurd rfl e
      rcases Int.lt_trichotomy x k with t | t | t
      · rw [needV_no (benchF_under e t)] at h
        cases h
      · rw [show (benchF q (Ma.mk l m a (some (k, c))).p x (!f)) = some q.f from benchF_at e t, if_pos (by rw [t, e2])]
      · rw [show (benchF q (Ma.mk l m a (some (k, c))).p x (!f)) = some q.b from benchF_over t, if_neg]
        intro z
        cases z
        omega
theorem need_in {q : Co} (ok : q.ok) {ma : Ma} {f : Bool} {x : Int} {b : Int} {n : Nat} (h : needV q ma x (!f) = some b) (e : benchF q ma.p x (!f) = some n) : 1 ≤ b ∧ b ≤ n := by
  have := benchF_ok ok e
  have l := needF_le (m := ma.m) this.1
  rw [needV_of e] at h
  have h := Option.some.inj h
  split at h <;> omega
theorem ch1_ne (f : Bool) : (ch1 (!f) == ch1 f) = false := by cases f <;> rfl
theorem ch1_nf (f : Bool) : (ch1 f == ch1 (!f)) = false := by cases f <;> rfl
theorem cnt_aff (f : Bool) (n : Nat) : (List.replicate n (ch1 f)).count 49 = if f then n else 0 := by
  cases f
  · rw [List.count_replicate]
    rfl
  · rw [List.count_replicate]
    rfl
theorem aff_found {f : Bool} {n : Nat} {m : Int} (h : 1 ≤ n) : foundB m ((List.replicate n (ch1 f)).count 49 : Nat) n = f := by
  have l := needF_le (m := m) h
  rw [cnt_aff]
  cases f
  · cases e : foundB m ((if false = true then n else 0 : Nat) : Int) n
    · rfl
    · have := (found_iff h (by omega) (by simp)).mp e
      simp at this
      omega
  · exact (found_iff h (by omega) (by simp)).mpr (by simp; omega)
theorem aff_bits (f : Bool) (n : Nat) : Bits (List.replicate n (ch1 f)) := fun c hc => by
  rw [List.eq_of_mem_replicate hc]
  cases f
  · exact .inl rfl
  · exact .inr rfl
theorem las_bits (f : Bool) (n k : Nat) : Bits (List.replicate n (ch1 (!f)) ++ List.replicate k (ch1 f)) := fun c hc => by
  rcases List.mem_append.mp hc with h | h
  · exact aff_bits _ _ c h
  · exact aff_bits _ _ c h
theorem las_found {q : Co} (ok : q.ok) {ma : Ma} {f : Bool} {x : Int} {b : Int} {n : Nat} (h : needV q ma x (!f) = some b) (e : benchF q ma.p x (!f) = some n) : foundB ma.m ((List.replicate b.toNat (ch1 (!f)) ++ List.replicate (n - b.toNat) (ch1 f)).count 49 : Nat) n = !f := by
  have nb := need_in ok h e
  have n1 := benchF_ok ok e
  have l := needF_le (m := ma.m) n1.1
  rw [needV_of e] at h
  have h := Option.some.inj h
  rw [List.count_append, cnt_aff, cnt_aff]
  cases f
  · rw [if_pos (show (!false) = true from rfl)] at h
    refine (found_iff n1.1 (by omega) ?_).mpr ?_
    · simp
      omega
    · simp
      omega
  · rw [if_neg (by decide)] at h
    show foundB ma.m (((if false = true then b.toNat else 0) + (if true = true then n - b.toNat else 0) : Nat) : Int) n = false
    cases z : foundB ma.m (((if false = true then b.toNat else 0) + (if true = true then n - b.toNat else 0) : Nat) : Int) n
    · rfl
    · have := (found_iff n1.1 (by omega) (by simp)).mp z
      simp at this
      omega
theorem las_cnt (f : Bool) (n k : Nat) : (List.replicate n (ch1 (!f)) ++ List.replicate k (ch1 f)).count (ch1 (!f)) = n := by
  rw [List.count_append, List.count_replicate, List.count_replicate, ch1_nf]
  simp
theorem aff_cnt (f : Bool) (n : Nat) : (List.replicate n (ch1 f)).count (ch1 (!f)) = 0 := by
  rw [List.count_replicate, ch1_nf]
  rfl
theorem las_len {n b : Nat} (f : Bool) (h : b ≤ n) : (List.replicate b (ch1 (!f)) ++ List.replicate (n - b) (ch1 f)).length = n := by
  rw [List.length_append, List.length_replicate, List.length_replicate]
  omega
theorem isn_cD {o : Option Int} {P : D → Prop} (h : P (.bl o.isSome)) : isnNR (cD o) .non P := by
  cases o <;> exact h
theorem is_cD {o : Option Int} {P : D → Prop} (h : P (.bl o.isNone)) : isNR (cD o) .non P := by
  cases o <;> exact h
theorem isn_pD {o : Option (Int × Bool)} {P : D → Prop} (h : P (.bl o.isSome)) : isnNR (pD o) .non P := by
  rcases o with _ | ⟨k, b⟩ <;> exact h
theorem is_pD {o : Option (Int × Bool)} {P : D → Prop} (h : P (.bl o.isNone)) : isNR (pD o) .non P := by
  rcases o with _ | ⟨k, b⟩ <;> exact h
theorem eq_cD {a o : Option Int} {P : D → Prop} (h : P (.bl (decide (a = o)))) : eqR (oD a) (cD o) P := by
  cases a with
  | none =>
    cases o with
    | none => exact h
    | some y => exact h
  | some x =>
    cases o with
    | none => exact h
    | some y =>
      show P (.bl (decide (x = y)))
      rw [show decide (x = y) = decide (some x = some y) from decide_eq_decide.mpr (by simp)]
      exact h
theorem cnt_ch (w : List Nat) (f : Bool) : Txt.count (ofL w) (sgS (ch1 f)) = ((w.count (ch1 f) : Nat) : Int) := by
  cases f
  · show Txt.count (ofL w) (sgS 48) = _
    rw [← zero_sg]
    exact cnt0 w
  · show Txt.count (ofL w) (sgS 49) = _
    rw [← one_sg]
    exact cnt1 w
theorem at_01 (f : Bool) : atI (Str.ofString "01").cps.toList (if f = true then (1 : Int) else 0) = some (ch1 f) := by cases f <;> rfl
theorem at_01n (f : Bool) : atI (Str.ofString "01").cps.toList (if f = false then (1 : Int) else 0) = some (ch1 (!f)) := by cases f <;> rfl
theorem at_10 (f : Bool) : atI (Str.ofString "10").cps.toList (if f = true then (1 : Int) else 0) = some (ch1 (!f)) := by cases f <;> rfl
theorem pl_rul {cs : List C2} {ch : List Nat} {ma : Ma} {f : Bool} {ls : List Nat} {l : List (List Nat)} {b : Int} (e : rulO cs ch ma f b ls = some l) : l.length ≤ ls.length := by
  obtain ⟨k, x, rfl, h, _⟩ := rul_at e
  have := (List.getElem?_eq_some_iff.mp h).1
  rw [List.length_append, List.length_map, List.length_take]
  simp
  omega
theorem isNon_cD (o : Option Int) : isNon (cD o) = o.isNone := by cases o <;> rfl
theorem isNon_pD (o : Option (Int × Bool)) : isNon (pD o) = o.isNone := by rcases o with _ | ⟨k, b⟩ <;> rfl
theorem rulD_hit {cs : List C2} {ch : List Nat} {ma : Ma} {f : Bool} {ls : List Nat} {l : List (List Nat)} {b : Int} (e : rulO cs ch ma f b ls = some l) : rulD cs ch ma f ls (some b) = .tup (l.map strL) := by
  show (match rulO cs ch ma f b ls with
    | none => D.non
    | some l => .tup (l.map strL)) = _
  rw [e]
theorem rulD_miss {cs : List C2} {ch : List Nat} {ma : Ma} {f : Bool} {ls : List Nat} {b : Int} (e : rulO cs ch ma f b ls = none) : rulD cs ch ma f ls (some b) = .non := by
  show (match rulO cs ch ma f b ls with
    | none => D.non
    | some l => .tup (l.map strL)) = _
  rw [e]
theorem eq_pD {p : Option (Int × Bool)} {x : Int} {f : Bool} {P : D → Prop} (h : P (.bl (decide (p = some (x, f))))) : eqR (pD p) (.tup [.int x, .bl f]) P := by
  rcases p with _ | ⟨k, c⟩
  · exact ⟨⟨rfl, rfl⟩, h⟩
  · refine ⟨⟨rfl, rfl⟩, ?_⟩
    have : eqP (.tup [.int k, .bl c]) (.tup [.int x, .bl f]) = decide (some (k, c) = some (x, f)) := by
      show (PyData.eqv (toPy (.int k)) (toPy (.int x)) && (PyData.eqv (toPy (.bl c)) (toPy (.bl f)) && true)) = _
      rw [show PyData.eqv (toPy (.int k)) (toPy (.int x)) = (k == x) from rfl, show PyData.eqv (toPy (.bl c)) (toPy (.bl f)) = (c == f) from by cases c <;> cases f <;> rfl]
      by_cases h1 : k = x
      · subst h1
        cases c <;> cases f <;> simp
      · simp [h1]
    rw [show pD (some (k, c)) = .tup [.int k, .bl c] from rfl] at *
    rw [this]
    exact h
theorem sg_ok (c : Nat) : 1 ≤ (sgS c).length ∧ (sgS c).length ≤ 1000 := ⟨by show 1 ≤ 1; decide, by show 1 ≤ 1000; decide⟩
theorem repS_len1 (c n : Nat) : (repS (sgS c) n).length = n := by rw [repS_sg, ofL_len, List.length_replicate]
def ctl (c : C2) : Option Nat × List D := (c.1, c.2.rest)
theorem ctl_map (l : List C2) : (l.map ctl).map ctD = l.map c2D := by
  rw [List.map_map]
  rfl
theorem cts_c3 : ∀ {cs : Cts}, (∀ c ∈ cs, RestOk c.2) → ∃ l : List C2, cs = l.map ctl ∧ ∀ c ∈ l, c.2.ok
  | [], _ => ⟨[], rfl, nofun⟩
  | c :: cs, h => by
    obtain ⟨q, e, ok⟩ := h c List.mem_cons_self
    obtain ⟨l, e1, e2⟩ := cts_c3 (cs := cs) fun x hx => h x (List.mem_cons_of_mem _ hx)
    refine ⟨(c.1, q) :: l, ?_, fun x hx => ?_⟩
    · rw [List.map_cons, e1]
      unfold ctl
      rw [← e]
    · rcases List.mem_cons.mp hx with rfl | hx
      · exact ok
      · exact e2 x hx
def evr (c : C2) : C2 := (c.1, ⟨c.2.b, c.2.f, true, 0, c.2.d, c.2.x, c.2.y⟩)
theorem evr_ok {c : C2} (h : c.2.ok) : (evr c).2.ok := ⟨h.b1, h.b2, h.f1, h.f2, Int.le_refl _⟩
theorem sup_ctl (l : List C2) (k : Nat) : supOf (l.map ctl) k = (l[k]?).bind (·.1) := by
  unfold supOf
  rw [List.getElem?_map]
  cases l[k]? <;> rfl
theorem hier_evr {l : List C2} (h : Hier (l.map ctl)) : Hier ((l.map evr).map ctl) := fun k j e => h k j (by
  rw [sup_ctl] at e ⊢
  rw [List.getElem?_map] at e
  rw [← e]
  cases l[k]? <;> rfl)
theorem levF_ge {okl : Nat → Bool} : ∀ {n lv x : Nat}, x ∈ levF okl n lv → lv ≤ x
  | 0, _, _, h => by cases h
  | n + 1, lv, x, h => by
    unfold levF at h
    split at h
    · rcases List.mem_cons.mp h with rfl | h
      · exact Nat.le_refl _
      · have := levF_ge h
        omega
    · cases h
theorem bench_fit {q : Co} {p : Option (Int × Bool)} {lv x : Nat} {f : Bool} (h : ∀ k b, p = some (k, b) → k < (lv : Int) ∨ b = f) (hx : lv ≤ x) : benchF q p (x : Int) f = some q.b := by
  rcases p with _ | ⟨k, b⟩
  · rfl
  · rcases h k b rfl with h | h
    · exact benchF_over (by omega)
    · exact benchF_same h.symm
def row9 (cs : List C2) (ch : List Nat) (ma : Ma) (lv : Nat) (top : Int) (f : Bool) : List D := .tup (cs.map c2D) :: .tup (ch.map nI) :: ma.row [.int (lv : Int), .int top, .bl f]
end Dl

/-! Dl: sorted of a list of pairs; the order of pairs. -/
namespace Dl
open PySem L2 PySem.Spec PyProof.Rows SrtO
section
variable {prog : Program} {w : World} {A : Around} {E : Value → Shared → Prop} {s : Shared}
theorem srtW {T : String} (hT : T = "list" ∨ T = "tuple") {l : Addr} {o : Obj} {vs : List Value} {n : Nat} {ltv : Value → Value → Bool} {Q : Value → Shared → Prop} (O : Swo ltv) (ho : s.heap.get? l = some o) (hc : o.cls = .type T) (hd : o.data = .seq vs.toArray n) (hz : vs.length ≤ sizeLine)
    (hS : 2 ≤ vs.length → ∀ (h1 : Heap) (a : Addr), h1.get? a = some (seqObj "list" vs.toArray 0) → (∀ b u, s.heap.get? b = some u → h1.get? b = some u) → SortableO prog w A.in1.in1 { s with heap := h1 } a vs ltv)
    (fin : ∀ (h1 h2 : Heap) (out : List Value), Srtd ltv out → Stb ltv out vs → (∀ b u, s.heap.get? b = some u → h1.get? b = some u) → (∀ b u, h1.get? b = some u → h2.get? b = some u) → (∃ m, h2.get? h1.objs.size = some (seqObj "list" out.toArray m)) → Q (.ref h1.objs.size) { s with heap := h2 }) :
    wpAny (model prog w) A (call (.builtin "sorted") [.ref l]) Q E s := by
  refine Calls.call_function_entry kind_sorted plain_sorted entry_sorted (args_sorted1 _) ?_
  unfold Builtin.«sorted»
  refine wpAny_bind (m := checkCount "sorted" 1 1 _) (wpAny_pure (wpAny_bind (wpAny_collect_seq l hT ho hc hd (fun h1 k1 => ?_) (by rw [List.size_toArray]; exact hz))))
  have at1 : (h1.push (seqObj "list" vs.toArray 0)).get? h1.objs.size = some (seqObj "list" vs.toArray 0) := Heap.get?_push_size _ rfl
  have lt1 : ∀ b u, h1.get? b = some u → b < h1.objs.size := fun b u e => Heap.lt_size e
  have ev : vs.toArray.toList = vs := by simp
  rw [ev]
  refine wpAny_bind (wpAny_newList (wpAny_bind (wpAny_holding (wpAny_call_entry slot_list_sort ⟨_, at1, rfl⟩ entry_list_sort (list_sort_ord (n := 0) O at1 hz (fun h2 => hS h2 _ _ at1 fun b u e => Heap.get?_push_of_some _ (k1 b u e)) fun out z1 z2 => ⟨_, rfl, ?_⟩) (args_list_sort _)))) (by simpa using hz))
  refine wpAny_pure ⟨_, rfl, fin h1 _ out z1 z2 k1 (fun b u e => ?_) (sortedHeap_at at1)⟩
  have hb := lt1 b u e
  rw [sortedHeap_old (Nat.ne_of_lt hb) (by rw [size_push']; exact Nat.lt_succ_of_lt hb)]
  exact Heap.get?_push_of_some _ e
end
def rSortPairsW (K : PySem.W.Frag) : List V → Hp → VK → Prop := fun vs H Q => ∃ (a : Addr) (xs : List V) (ps : List (Int × Int)), vs = [V.ref a] ∧ SqL K H a xs ∧ Reps K H (ps.map pairD) xs ∧
  ∀ (zs : List (V × (Int × Int))) (p : Addr), zs.Perm (xs.zip ps) → (zs.map (·.2)).Pairwise (fun x y => lexB y x = false) → H p = none → Q (.ref p) (upd H p (.lst (zs.map (·.1))))
section
variable {X : Cx}
theorem cr_sortPairsW : CallR X (.builtin "sorted") (rSortPairsW X.K) := by
  intro pins st σ H vs us Q I r hh
  obtain ⟨a, xs, ps, rfl, hq, hr, fin⟩ := hh
  obtain ⟨its, rv, ⟨o, n, ho, hc, _, hd⟩, hz⟩ := I.list hq
  obtain ⟨u0, rfl, ru⟩ := vals1 r
  obtain rfl : u0 = Value.ref a := ru
  have hrefs : ∀ {ps : List (Int × Int)} {xs : List V}, Reps X.K H (ps.map pairD) xs → ∀ x ∈ xs, ∃ a, x = V.ref a := fun {ps} => by
    induction ps with
    | nil =>
      intro xs h x hx
      rw [h.unnil] at hx
      cases hx
    | cons p ps ih =>
      intro xs h x hx
      obtain ⟨v, ws, rfl, h2, h3⟩ := h.uncons
      rcases List.mem_cons.mp hx with rfl | hx
      · obtain ⟨a, vs, e, _⟩ := tup_v (F := H) (H := H) (K := X.K) h2
        exact ⟨a, e⟩
      · exact ih h3 x hx
  rw [rv.length] at hz
  obtain ⟨e1, e2⟩ := refs_back rv (hrefs hr)
  have hp : ∀ {ps : List (Int × Int)} {xs : List V} {us : List Value}, Vals xs us → Reps X.K H (ps.map pairD) xs → (∀ v ∈ us, Srt.IsPair st.heap v (pairOf st.heap v).1 (pairOf st.heap v).2) ∧ us.map (fun v => (backV v, pairOf st.heap v)) = xs.zip ps := fun {ps} => by
    induction ps with
    | nil =>
      intro xs us rv h
      obtain rfl := h.unnil
      cases rv
      exact ⟨fun v hv => (by cases hv), rfl⟩
    | cons p ps ih =>
      intro xs us rv h
      obtain ⟨v, ws, rfl, h2, h3⟩ := h.uncons
      cases rv with
      | cons r0 rt =>
        obtain ⟨g1, g2⟩ := ih rt h3
        obtain ⟨t, vs, e, h4, h5⟩ := tup_v (F := H) (H := H) (K := X.K) h2
        subst e
        obtain rfl := r0
        obtain ⟨v1, w1, rfl, i1, h6⟩ := h5.uncons
        obtain ⟨v2, w2, rfl, i2, h7⟩ := h6.uncons
        obtain rfl := h7.unnil
        obtain rfl := int_v (F := H) (H := H) (K := X.K) i1
        obtain rfl := int_v (F := H) (H := H) (K := X.K) i2
        obtain ⟨its2, r2, ⟨o2, ho2, hc2, n2, hd2⟩, _⟩ := I.tuple h4
        obtain ⟨y1, y2, rfl, ri, rj⟩ := vals2 r2
        obtain ⟨t1, rfl⟩ := ri
        obtain ⟨t2, rfl⟩ := rj
        have ip : Srt.IsPair st.heap (Value.ref t) p.1 p.2 := ⟨t, o2, t1, t2, n2, rfl, ho2, hc2, hd2⟩
        have ep := pairOf_eq ip
        refine ⟨fun v hv => ?_, ?_⟩
        · rcases List.mem_cons.mp hv with rfl | hv
          · rw [ep]
            exact ip
          · exact g1 v hv
        · rw [List.map_cons, List.zip_cons_cons, g2, ep]
          rfl
  obtain ⟨hpair, hzip⟩ := hp rv hr
  refine srtW (.inl rfl) (swo_lex (pairOf st.heap)) ho hc hd hz (fun h2 h1 b hb k1 => ?_) fun h1 h2 out z1 z2 k1 k2 hl => ?_
  · refine pairs_sortableO (by omega) (fun v hv => (hpair v hv).keeps fun b u e _ => k1 b u e) fun u e => ?_
    have e' := e.symm.trans hb
    cases e'
    exact fun c => absurd (Value.type.inj c) (by decide)
  · obtain ⟨m, hm⟩ := hl
    have h3 : ∀ u ∈ out, ∃ a, u = Value.ref a := fun u hu => e2 u (z2.perm.mem_iff.mp hu)
    have hlen : out.length ≤ sizeLine := by rw [z2.perm.length_eq]; exact hz
    have I1 := I.kept (t' := st.toks) k1
    have q := fin (out.map fun v => (backV v, pairOf st.heap v)) h1.objs.size (by rw [← hzip]; exact z2.perm.map _) (by
      rw [List.map_map]
      exact List.pairwise_map.mpr z1) (I1.hok.fresh (Nat.le_refl _))
    rw [List.map_map] at q
    exact ⟨.ref h1.objs.size, upd H h1.objs.size (.lst (out.map backV)), I1.laid (t' := st.toks) k2 (Nat.le_refl _) ⟨by rw [List.length_map]; exact hlen, out, m, vals_back h3, hm⟩, rfl, q⟩
end
def sortPWR : List D → (List D → Prop) → Prop
  | [.lst ds], P => ∃ ps : List (Int × Int), ds = ps.map pairD ∧ ∀ qs : List (Int × Int), qs.Perm ps → qs.Pairwise (fun x y => lexB y x = false) → P (qs.map pairD)
  | _, _ => False
theorem ev_sortPW {ds : List D} {P : List D → Prop} : sortPWR [.lst ds] P = ∃ ps : List (Int × Int), ds = ps.map pairD ∧ ∀ qs : List (Int × Int), qs.Perm ps → qs.Pairwise (fun x y => lexB y x = false) → P (qs.map pairD) := rfl
theorem cf_sortPW {K : PySem.W.Frag} : CallF K (rSortPairsW K) sortPWR := fun F H ds xs P Q e hr h k => by
  unfold sortPWR at h
  split at h
  · next ds =>
    obtain ⟨v, rfl, rv⟩ := one_v hr
    obtain ⟨ps, rfl, h⟩ := h
    obtain ⟨a, vs, rfl, g1, g2⟩ := lst_v rv
    refine ⟨a, vs, ps, rfl, SqL.of g1, Reps.mono e _ _ g2, fun zs p hz hs hp => ?_⟩
    have el : vs.length = ps.length := by rw [g2.len, List.length_map]
    have hperm : (zs.map (·.2)).Perm ps := by
      have := hz.map (·.2)
      rwa [List.map_snd_zip (by omega)] at this
    refine k _ p _ (h _ hperm hs) hp ?_
    have hall : ∀ {ps : List (Int × Int)} {vs : List V}, Reps K F (ps.map pairD) vs → ∀ z ∈ vs.zip ps, Rep K F (pairD z.2) z.1 := fun {ps} => by
      induction ps with
      | nil =>
        intro vs _ z hz
        rw [List.zip_nil_right] at hz
        cases hz
      | cons p ps ih =>
        intro vs h z hz
        obtain ⟨v, ws, rfl, h2, h3⟩ := h.uncons
        rw [List.zip_cons_cons] at hz
        rcases List.mem_cons.mp hz with rfl | hz
        · exact h2
        · exact ih h3 z hz
    have hm : ∀ z ∈ zs, Rep K F (pairD z.2) z.1 := fun z hz' => hall g2 z (hz.mem_iff.mp hz')
    clear hz hs hperm
    induction zs with
    | nil => exact Reps.nil
    | cons z zs ih => exact Reps.cons (hm z List.mem_cons_self) (ih fun y hy => hm y (List.mem_cons_of_mem _ hy))
  · exact h.elim
/-- t < u of pairs of whole numbers -/
def ltB (p q : Int × Int) : Bool := decide (p.1 < q.1 ∨ p.1 = q.1 ∧ p.2 < q.2)
def rLtT (K : PySem.W.Frag) : R2 := fun x y H Q => ∃ (a b : Addr) (p q : Int × Int), x = .ref a ∧ y = .ref b ∧ SqT K H a [.int p.1, .int p.2] ∧ SqT K H b [.int q.1, .int q.2] ∧ Q (.bl (ltB p q)) H
theorem op_ltPr {X : Cx} (hu' : X.A.units + 64 < cLine) : OpR X (compareOp .Lt) (rLtT X.K) := by
  have hu : X.A.units < cLine := Nat.lt_of_le_of_lt (Nat.le_add_right _ _) hu'
  intro pins s σ H x y v u Q I rx ry h
  obtain ⟨a, b, ⟨i, j⟩, ⟨k, l⟩, rfl, rfl, ha, hb, fin⟩ := h
  cases rx
  cases ry
  obtain ⟨its1, r1, p1, _⟩ := I.tuple ha
  obtain ⟨its2, r2, p2, _⟩ := I.tuple hb
  obtain ⟨v1, v2, rfl, ⟨t1, rfl⟩, ⟨t2, rfl⟩⟩ := vals2 r1
  obtain ⟨w1, w2, rfl, ⟨t3, rfl⟩, ⟨t4, rfl⟩⟩ := vals2 r2
  have ee : ∀ (m n : Int) (t t' : Tok), SeqAt.EqAt X.A.in1 s (.int m t) (.int n t') (decide (m = n)) := fun m n t t' => by
    have z : (m == n) = decide (m = n) := by
      by_cases q : m = n
      · rw [decide_eq_true q]
        exact beq_iff_eq.mpr q
      · rw [decide_eq_false q]
        exact beq_eq_false_iff_ne.mpr q
    rw [← z]
    exact SeqAt.EqAt.int_int _ _ _ _
  have R := Ob.RcOp.tuples_lt (A := X.A) (s := s) (e := fun n => if n = 0 then decide (i = k) else decide (j = l)) (r := fun n => if n = 0 then decide (i < k) else decide (j < l)) p1 p2 hu (fun n h1 h2 => by
    match n, h1, h2 with
    | 0, _, _ => exact ee _ _ _ _
    | 1, _, _ => exact ee _ _ _ _) (fun n h1 h2 _ => by
    match n, h1, h2 with
    | 0, _, _ => exact Ob.RcOp.lt_int _ _ _ _
    | 1, _, _ => exact Ob.RcOp.lt_int _ _ _ _)
  have z : Ob.lexAt (fun n => if n = 0 then decide (i = k) else decide (j = l)) (fun n => if n = 0 then decide (i < k) else decide (j < l)) (decide ((#[Value.int i t1, Value.int j t2] : Array Value).size < (#[Value.int k t3, Value.int l t4] : Array Value).size)) 0 (min (#[Value.int i t1, Value.int j t2] : Array Value).size (#[Value.int k t3, Value.int l t4] : Array Value).size) = ltB (i, j) (k, l) := by
    show (if decide (i = k) = true then (if decide (j = l) = true then false else decide (j < l)) else decide (i < k)) = decide (i < k ∨ i = k ∧ j < l)
    by_cases q : i = k
    · rw [if_pos (decide_eq_true q)]
      by_cases q2 : j = l
      · rw [if_pos (decide_eq_true q2)]
        exact (decide_eq_false (by omega)).symm
      · rw [if_neg (by simpa using q2)]
        exact decide_eq_decide.mpr (by omega)
    · rw [if_neg (by simpa using q)]
      exact decide_eq_decide.mpr (by omega)
  exact R X.prog X.w X.xe (EP X pins σ Q) ⟨.bl _, H, I, rfl, by
    show Q (.bl (Ob.lexAt _ _ _ _ _)) H
    have fin : Q (.bl (ltB (i, j) (k, l))) H := fin
    rw [← z] at fin
    exact fin⟩
def ltTR : R2D
  | .tup [.int a, .int b], .tup [.int c, .int d], P => P (.bl (ltB (a, b) (c, d)))
  | _, _, _ => False
theorem os_ltT {K : PySem.W.Frag} : OpS K (rLtT K) ltTR := fun F H a b x y P Q e ha hb h k => by
  have two : ∀ {d1 d2 : Int} {z : V}, RepV K F H (.tup [.int d1, .int d2]) z → ∃ p, z = .ref p ∧ SqT K H p [.int d1, .int d2] := fun h => by
    obtain ⟨p, vs, rfl, g1, g2⟩ := tup_v h
    obtain ⟨v1, w1, rfl, i1, h6⟩ := g2.uncons
    obtain ⟨v2, w2, rfl, i2, h7⟩ := h6.uncons
    obtain rfl := h7.unnil
    obtain rfl := int_v (F := F) (H := H) (K := K) i1
    obtain rfl := int_v (F := F) (H := H) (K := K) i2
    exact ⟨p, rfl, same_t e g1⟩
  unfold ltTR at h
  split at h
  · obtain ⟨p, rfl, g1⟩ := two ha
    obtain ⟨q, rfl, g2⟩ := two hb
    exact ⟨p, q, _, _, rfl, rfl, g1, g2, k _ _ F H h (Or.inl ⟨rfl, rfl⟩) rB_⟩
  · exact h.elim
end Dl

/-! Dl: adjacent spans; rules in another order. -/
namespace Dl
open PySem L2 SrtO PyProof.Rows
def inS (a : Int) (p : Int × Int) : Bool := decide (p.1 ≤ a) && decide (a ≤ p.2)
theorem inS_iff {a : Int} {p : Int × Int} : inS a p = true ↔ p.1 ≤ a ∧ a ≤ p.2 := by
  unfold inS
  simp
def adjB (low : Int) : List (Int × Int) → Bool
  | [] => decide (low = 1000001)
  | p :: r => decide (p.1 = low) && adjB (p.2 + 1) r
def cntS (qs : List (Int × Int)) (a : Int) : Nat := qs.countP (inS a)
theorem cntS_cons (p : Int × Int) (qs : List (Int × Int)) (a : Int) : cntS (p :: qs) a = cntS qs a + if inS a p = true then 1 else 0 := by
  unfold cntS
  rw [List.countP_cons]
theorem adj_cnt : ∀ {qs : List (Int × Int)} {low : Int}, (∀ p ∈ qs, p.1 ≤ p.2) → adjB low qs = true → ∀ a, a ≤ 1000000 → cntS qs a = if low ≤ a then 1 else 0
  | [], low, _, h, a, ha => by
    have h := of_decide_eq_true h
    rw [if_neg (by omega)]
    rfl
  | p :: r, low, hp, h, a, ha => by
    unfold adjB at h
    rw [Bool.and_eq_true, decide_eq_true_eq] at h
    have h1 := hp p List.mem_cons_self
    rw [cntS_cons, adj_cnt (fun q hq => hp q (List.mem_cons_of_mem _ hq)) h.2 a ha]
    by_cases q : inS a p = true
    · rw [if_pos q]
      have := inS_iff.mp q
      rw [if_neg (by omega), if_pos (by omega)]
    · rw [if_neg q]
      by_cases z : p.2 + 1 ≤ a
      · rw [if_pos z, if_pos (by omega)]
      · have : ¬ p.1 ≤ a := fun y => q (inS_iff.mpr ⟨y, by omega⟩)
        rw [if_neg z, if_neg (by omega)]
theorem lex_fst {p q : Int × Int} (h : lexB q p = false) : p.1 ≤ q.1 := Int.not_lt.mp fun z => by
  rw [lexB_iff.mpr (.inl z)] at h
  cases h
theorem cnt_pos {qs : List (Int × Int)} {a : Int} (h : 0 < cntS qs a) : ∃ p ∈ qs, p.1 ≤ a ∧ a ≤ p.2 := by
  obtain ⟨p, hp, hq⟩ := List.countP_pos_iff.mp h
  exact ⟨p, hp, inS_iff.mp hq⟩
theorem cnt_mem {qs : List (Int × Int)} {a : Int} {p : Int × Int} (hp : p ∈ qs) (h1 : p.1 ≤ a) (h2 : a ≤ p.2) : 0 < cntS qs a := List.countP_pos_iff.mpr ⟨p, hp, inS_iff.mpr ⟨h1, h2⟩⟩
theorem cnt_adj : ∀ {qs : List (Int × Int)} {low : Int}, (∀ p ∈ qs, 0 ≤ p.1 ∧ p.1 ≤ p.2 ∧ p.2 ≤ 1000000) → qs.Pairwise (fun x y => x.1 ≤ y.1) → low ≤ 1000001 → 0 ≤ low → (∀ a, 0 ≤ a → a ≤ 1000000 → cntS qs a = if low ≤ a then 1 else 0) → adjB low qs = true
  | [], low, _, _, h1, h0, h => by
    refine decide_eq_true ?_
    by_cases z : low ≤ 1000000
    · have := h low h0 z
      rw [if_pos (Int.le_refl _)] at this
      cases this
    · omega
  | p :: r, low, hp, hs, h1, h0, h => by
    obtain ⟨p0, p1, p2⟩ := hp p List.mem_cons_self
    obtain ⟨s1, s2⟩ := List.pairwise_cons.mp hs
    have g1 : low ≤ p.1 := by
      have c := cnt_mem (qs := p :: r) List.mem_cons_self (Int.le_refl _) p1
      rw [h p.1 p0 (by omega)] at c
      by_cases z : low ≤ p.1
      · exact z
      · rw [if_neg z] at c
        omega
    have g2 : p.1 = low := by
      have c := h low h0 (by omega)
      rw [if_pos (Int.le_refl _)] at c
      obtain ⟨q, hq, q1, q2⟩ := cnt_pos (qs := p :: r) (a := low) (by omega)
      rcases List.mem_cons.mp hq with rfl | hq
      · omega
      · have := s1 q hq
        omega
    unfold adjB
    rw [Bool.and_eq_true, decide_eq_true_eq]
    refine ⟨g2, cnt_adj (fun q hq => hp q (List.mem_cons_of_mem _ hq)) s2 (by omega) (by omega) fun a a0 a1 => ?_⟩
    have c := h a a0 a1
    rw [cntS_cons] at c
    by_cases q : inS a p = true
    · rw [if_pos q] at c
      have := inS_iff.mp q
      rw [if_pos (by omega)] at c
      rw [if_neg (by omega)]
      omega
    · rw [if_neg q] at c
      by_cases z : p.2 + 1 ≤ a
      · rw [if_pos z]
        rw [if_pos (by omega)] at c
        omega
      · have : ¬ p.1 ≤ a := fun y => q (inS_iff.mpr ⟨y, by omega⟩)
        rw [if_neg z]
        rw [if_neg (by omega)] at c
        omega
theorem adj_iff {qs ps : List (Int × Int)} (hp : ∀ p ∈ ps, 0 ≤ p.1 ∧ p.1 ≤ p.2 ∧ p.2 ≤ 1000000) (pe : qs.Perm ps) (hs : qs.Pairwise (fun x y => lexB y x = false)) : adjB 0 qs = true ↔ ∀ a, 0 ≤ a → a ≤ 1000000 → cntS ps a = 1 := by
  have e : ∀ a, cntS qs a = cntS ps a := fun a => pe.countP_eq _
  have hq : ∀ p ∈ qs, 0 ≤ p.1 ∧ p.1 ≤ p.2 ∧ p.2 ≤ 1000000 := fun p h => hp p (pe.mem_iff.mp h)
  constructor
  · intro h a h0 h1
    rw [← e, adj_cnt (fun p h => (hq p h).2.1) h a h1, if_pos h0]
  · intro h
    exact cnt_adj hq (hs.imp fun z => lex_fst z) (by decide) (by decide) fun a h0 h1 => by rw [e, h a h0 h1, if_pos h0]
/-- the rules of a category that are not empty -/
def liveJ (c : Nat) (r : Jr) : Bool := decide (c ∈ r.cs) && below r.lo r.hi
def spanJ (r : Jr) : Int × Int := (r.lo, r.hi.getD 1000000)
def spansJ (rs : List Jr) (c : Nat) : List (Int × Int) := (rs.filter (liveJ c)).map spanJ
theorem live_iff {c : Nat} {r : Jr} : liveJ c r = true ↔ c ∈ r.cs ∧ ∀ h, r.hi = some h → r.lo ≤ h := by
  unfold liveJ below
  cases e : r.hi with
  | none => simp
  | some h => simp
theorem span_ok {rs : List Jr} (hr : ∀ r ∈ rs, r.ok) {c : Nat} : ∀ p ∈ spansJ rs c, 0 ≤ p.1 ∧ p.1 ≤ p.2 ∧ p.2 ≤ 1000000 := fun p hp => by
  obtain ⟨r, hr1, rfl⟩ := List.mem_map.mp hp
  obtain ⟨hr2, hr3⟩ := List.mem_filter.mp hr1
  obtain ⟨o1, o2, o3⟩ := hr r hr2
  have hl := (live_iff.mp hr3).2
  unfold spanJ
  cases e : r.hi with
  | none => exact ⟨o1, by show r.lo ≤ 1000000; omega, Int.le_refl _⟩
  | some h =>
    have := o3 h e
    have := hl h e
    exact ⟨o1, this, by show h ≤ 1000000; omega⟩
theorem cnt_span {c : Nat} {a : Int} (h1 : a ≤ 1000000) : ∀ {rs : List Jr}, cntS (spansJ rs c) a = cntJ rs c a
  | [] => rfl
  | r :: rs => by
    have ih := cnt_span (c := c) h1 (rs := rs)
    unfold spansJ cntJ at *
    rw [List.filter_cons, List.filter_cons]
    by_cases q : liveJ c r = true
    · rw [if_pos q, List.map_cons, cntS_cons, ih]
      have e : inS a (spanJ r) = apJ c a r := by
        rw [Bool.eq_iff_iff, inS_iff, apJ_iff]
        have := (live_iff.mp q).1
        unfold spanJ
        cases e : r.hi with
        | none => simp [this, h1]
        | some h => simp [this]
      rw [e]
      by_cases z : apJ c a r = true
      · rw [if_pos z, if_pos z]
        rfl
      · rw [if_neg z, if_neg z]
        rfl
    · rw [if_neg q, ih]
      have : ¬ apJ c a r = true := fun z => by
        obtain ⟨z1, z2, z3⟩ := apJ_iff.mp z
        exact q (live_iff.mpr ⟨z1, fun h hh => by have := z3 h hh; omega⟩)
      rw [if_neg this]
theorem cnt_far {rs : List Jr} (hr : ∀ r ∈ rs, r.ok) {c : Nat} {a : Int} (h : 1000000 ≤ a) : cntJ rs c a = cntJ rs c 1000000 := by
  unfold cntJ
  congr 1
  refine List.filter_congr fun r hr1 => ?_
  obtain ⟨o1, o2, o3⟩ := hr r hr1
  rw [Bool.eq_iff_iff, apJ_iff, apJ_iff]
  constructor
  · rintro ⟨z1, z2, z3⟩
    exact ⟨z1, by omega, fun h hh => by have := z3 h hh; omega⟩
  · rintro ⟨z1, z2, z3⟩
    exact ⟨z1, by omega, fun h hh => by have := z3 h hh; have := o3 h hh; omega⟩
/-- once each -/
theorem firstJ_none {t : Nat → Int → Bool} {l : List Int} : ∀ {cs : List Nat}, firstJ t l cs = none ↔ ∀ c ∈ cs, ∀ a ∈ l, t c a = false
  | [] => ⟨fun _ => nofun, fun _ => rfl⟩
  | c :: cs => by
    cases e : l.find? (t c) with
    | none =>
      rw [firstJ_nil e, firstJ_none (cs := cs)]
      have h := List.find?_eq_none.mp e
      constructor
      · intro k c' hc
        rcases List.mem_cons.mp hc with rfl | hc
        · exact fun a ha => by simpa using h a ha
        · exact k c' hc
      · exact fun k c' hc => k c' (List.mem_cons_of_mem _ hc)
    | some a =>
      rw [firstJ_hit e]
      constructor
      · intro z
        cases z
      · intro k
        have := k c List.mem_cons_self a (List.mem_of_find?_eq_some e)
        have h2 := List.find?_some e
        rw [this] at h2
        cases h2
theorem firstJ_some {t : Nat → Int → Bool} {l : List Int} {x : Nat × Int} : ∀ {cs : List Nat}, firstJ t l cs = some x → x.1 ∈ cs ∧ x.2 ∈ l ∧ t x.1 x.2 = true
  | c :: cs, h => by
    cases e : l.find? (t c) with
    | none =>
      rw [firstJ_nil e] at h
      obtain ⟨h1, h2, h3⟩ := firstJ_some (cs := cs) h
      exact ⟨List.mem_cons_of_mem _ h1, h2, h3⟩
    | some a =>
      rw [firstJ_hit e] at h
      cases h
      exact ⟨List.mem_cons_self, List.mem_of_find?_eq_some e, List.find?_some e⟩
/-- none of the kind lies before the first one -/
theorem firstJ_le {t : Nat → Int → Bool} {l : List Int} (hs : l.Pairwise (· ≤ ·)) {c : Nat} {a : Int} (ht : ∃ q ∈ l, q ≤ a ∧ t c q = true) : ∀ {cs : List Nat}, cs.Pairwise (· < ·) → c ∈ cs → ∃ x, firstJ t l cs = some x ∧ ltB ((c : Int), a) ((x.1 : Int), x.2) = false
  | d :: cs, hp, hc => by
    obtain ⟨p1, p2⟩ := List.pairwise_cons.mp hp
    cases e : l.find? (t d) with
    | none =>
      rw [firstJ_nil e]
      rcases List.mem_cons.mp hc with rfl | hc
      · obtain ⟨q, q1, q2, q3⟩ := ht
        exact absurd q3 (List.find?_eq_none.mp e q q1)
      · exact firstJ_le hs ht p2 hc
    | some b =>
      rw [firstJ_hit e]
      refine ⟨_, rfl, decide_eq_false ?_⟩
      show ¬ ((c : Int) < (d : Int) ∨ (c : Int) = (d : Int) ∧ a < b)
      rcases List.mem_cons.mp hc with rfl | hc
      · obtain ⟨q, q1, q2, q3⟩ := ht
        have := (find_least hs e).2.2 q q1 q3
        omega
      · have := p1 c hc
        omega
theorem cnt_perm {rs ts : List Jr} (h : ts.Perm rs) (c : Nat) (a : Int) : cntJ ts c a = cntJ rs c a := (h.filter _).length_eq
theorem kind_perm {rs ts : List Jr} (h : ts.Perm rs) (k : Bool) : kindJ ts k = kindJ rs k := funext fun c => funext fun a => by
  unfold kindJ
  rw [cnt_perm h]
theorem gapA_perm {rs ts : List Jr} (h : ts.Perm rs) : (gapA ts).Perm (gapA rs) := (h.filterMap _).cons 0
theorem lows_perm {rs ts : List Jr} (h : ts.Perm rs) : (lowsJ ts).Perm (lowsJ rs) := h.map _
theorem first_perm {t : Nat → Int → Bool} {l m z w : List Int} (p1 : l.Perm z) (s1 : l.Pairwise (· ≤ ·)) (p2 : m.Perm w) (s2 : m.Pairwise (· ≤ ·)) (h : z.Perm w) (cs : List Nat) : firstJ t l cs = firstJ t m cs := firstJ_same (fun c => sorted_find (p1.trans h) s1 p2 s2) cs
/-- one rule alone, in either order -/
theorem one_court {rs ts : List Jr} (h : ts.Perm rs) {c : Nat} {a : Int} (h1 : cntJ rs c a = 1) : (ts.find? (apJ c a)).map (·.co) = (rs.find? (apJ c a)).map (·.co) := by
  have e : ∀ l : List Jr, l.find? (apJ c a) = (l.filter (apJ c a)).head? := fun l => List.head?_filter.symm
  rw [e, e]
  have p := h.filter (apJ c a)
  unfold cntJ at h1
  obtain ⟨r, hr⟩ := List.length_eq_one_iff.mp h1
  rw [hr] at p ⊢
  rw [List.perm_singleton.mp p]
theorem gap_none {rs : List Jr} {l : List Int} (p : l.Perm (gapA rs)) (h : firstJ (kindJ rs false) l [0, 1, 2, 3] = none) {c : Nat} (hc : c < 4) {a : Int} (ha : 0 ≤ a) : cntJ rs c a ≠ 0 := fun z => by
  obtain ⟨q, q1, q2, q3⟩ := gap_down ha z
  have := firstJ_none.mp h c (by simp; omega) q (p.mem_iff.mpr q1)
  rw [show kindJ rs false c q = decide (cntJ rs c q = 0) from rfl, decide_eq_true q3] at this
  cases this
theorem over_none {rs : List Jr} {l : List Int} (p : l.Perm (lowsJ rs)) (h : firstJ (kindJ rs true) l [0, 1, 2, 3] = none) {c : Nat} (hc : c < 4) {a : Int} : cntJ rs c a ≤ 1 := by
  by_cases z : 1 < cntJ rs c a
  · obtain ⟨q, q1, q2, q3⟩ := over_down z
    have := firstJ_none.mp h c (by simp; omega) q (p.mem_iff.mpr q1)
    rw [show kindJ rs true c q = decide (1 < cntJ rs c q) from rfl, decide_eq_true q3] at this
    cases this
  · omega
theorem none_iff {rs : List Jr} {l m : List Int} (hr : ∀ r ∈ rs, r.ok) (p1 : l.Perm (gapA rs)) (p2 : m.Perm (lowsJ rs)) : ((firstJ (kindJ rs false) l [0, 1, 2, 3]).isNone && (firstJ (kindJ rs true) m [0, 1, 2, 3]).isNone) = true ↔ ∀ c, c < 4 → ∀ a, 0 ≤ a → a ≤ 1000000 → cntS (spansJ rs c) a = 1 := by
  rw [Bool.and_eq_true, Option.isNone_iff_eq_none, Option.isNone_iff_eq_none]
  constructor
  · rintro ⟨g1, g2⟩ c hc a h0 h1
    have := gap_none p1 g1 hc h0
    have := over_none p2 g2 hc (a := a)
    rw [cnt_span h1]
    omega
  · intro h
    have all : ∀ c, c < 4 → ∀ a, 0 ≤ a → cntJ rs c a = 1 := fun c hc a h0 => by
      by_cases z : a ≤ 1000000
      · rw [← cnt_span z]
        exact h c hc a h0 z
      · rw [cnt_far hr (by omega), ← cnt_span (by decide)]
        exact h c hc _ (by decide) (by decide)
    constructor
    · refine firstJ_none.mpr fun c hc a ha => decide_eq_false ?_
      have ha := p1.mem_iff.mp ha
      rw [all c (by simp at hc; omega) a ?_]
      · decide
      · rcases List.mem_cons.mp ha with rfl | ha
        · decide
        · obtain ⟨r, h1, z, h2, rfl⟩ := mem_ends.mp ha
          have := (hr r h1).2.2 z h2
          omega
    · refine firstJ_none.mpr fun c hc a ha => decide_eq_false ?_
      obtain ⟨r, h1, rfl⟩ := List.mem_map.mp (p2.mem_iff.mp ha)
      rw [all c (by simp at hc; omega) _ (hr r h1).1]
      decide
theorem sortW {ps : List (Int × Int)} {P : List D → Prop} (h : ∀ qs : List (Int × Int), qs.Perm ps → qs.Pairwise (fun x y => lexB y x = false) → P (qs.map pairD)) : sortPWR [.lst (ps.map pairD)] P := ⟨ps, rfl, h⟩
theorem isNon_fpD (o : Option (Nat × Int)) : isNon (fpD o) = o.isNone := by cases o <;> rfl
structure GapF (rs : List Jr) (G : Option (Nat × Int)) : Prop where
  n : G = none → ∀ c, c < 4 → ∀ a, 0 ≤ a → cntJ rs c a ≠ 0
  s : ∀ x, G = some x → x.1 < 4 ∧ 0 ≤ x.2 ∧ cntJ rs x.1 x.2 = 0 ∧ ∀ c : Nat, c < 4 → ∀ a, 0 ≤ a → cntJ rs c a = 0 → ltB ((c : Int), a) ((x.1 : Int), x.2) = false
structure OverF (rs : List Jr) (G : Option (Nat × Int)) : Prop where
  n : G = none → ∀ c, c < 4 → ∀ a, cntJ rs c a ≤ 1
  s : ∀ x, G = some x → x.1 < 4 ∧ 0 ≤ x.2 ∧ 1 < cntJ rs x.1 x.2 ∧ ∀ c : Nat, c < 4 → ∀ a, 1 < cntJ rs c a → ltB ((c : Int), a) ((x.1 : Int), x.2) = false
theorem asc4 : [0, 1, 2, 3].Pairwise (fun x y : Nat => x < y) := by decide
theorem gapF {rs : List Jr} {l : List Int} (hr : ∀ r ∈ rs, r.ok) (p : l.Perm (gapA rs)) (s : l.Pairwise (· ≤ ·)) : GapF rs (firstJ (kindJ rs false) l [0, 1, 2, 3]) where
  n := fun h c hc a ha => gap_none p h hc ha
  s := fun x h => by
    obtain ⟨h1, h2, h3⟩ := firstJ_some h
    refine ⟨by simp at h1; omega, ?_, of_decide_eq_true h3, fun c hc a ha z => ?_⟩
    · rcases List.mem_cons.mp (p.mem_iff.mp h2) with h | h
      · omega
      · obtain ⟨r, h1, z, h2, e⟩ := mem_ends.mp h
        have := (hr r h1).2.2 z h2
        omega
    · obtain ⟨q, q1, q2, q3⟩ := gap_down ha z
      obtain ⟨y, hy, hl⟩ := firstJ_le (t := kindJ rs false) s (c := c) (a := a) ⟨q, p.mem_iff.mpr q1, q2, decide_eq_true q3⟩ asc4 (by simp; omega)
      rw [h] at hy
      cases hy
      exact hl
theorem overF {rs : List Jr} {l : List Int} (hr : ∀ r ∈ rs, r.ok) (p : l.Perm (lowsJ rs)) (s : l.Pairwise (· ≤ ·)) : OverF rs (firstJ (kindJ rs true) l [0, 1, 2, 3]) where
  n := fun h c hc a => over_none p h hc
  s := fun x h => by
    obtain ⟨h1, h2, h3⟩ := firstJ_some h
    refine ⟨by simp at h1; omega, ?_, of_decide_eq_true h3, fun c hc a z => ?_⟩
    · obtain ⟨r, h1, e⟩ := List.mem_map.mp (p.mem_iff.mp h2)
      have := (hr r h1).1
      omega
    · obtain ⟨q, q1, q2, q3⟩ := over_down z
      obtain ⟨y, hy, hl⟩ := firstJ_le (t := kindJ rs true) s (c := c) (a := a) ⟨q, p.mem_iff.mpr q1, q2, decide_eq_true q3⟩ asc4 (by simp; omega)
      rw [h] at hy
      cases hy
      exact hl
theorem range_getD (rs : List Jr) : (List.range rs.length).map (fun i => rs.getD i jr0) = rs := by
  refine List.ext_getElem (by rw [List.length_map, List.length_range]) fun i h1 h2 => ?_
  rw [List.getElem_map, List.getElem_range, List.getD_eq_getElem?_getD, List.getElem?_eq_getElem h2]
  rfl
theorem turn_perm {rs : List Jr} {os : List Int} (h : os.Perm ((List.range rs.length).map fun (k : Nat) => (k : Int))) : (os.map fun o => rs.getD o.toNat jr0).Perm rs := by
  have := h.map fun o : Int => rs.getD o.toNat jr0
  rw [List.map_map] at this
  rw [show ((fun o : Int => rs.getD o.toNat jr0) ∘ fun (k : Nat) => (k : Int)) = fun i => rs.getD i jr0 from rfl, range_getD] at this
  exact this
theorem appl_one {ts : List Jr} {c : Nat} {a : Int} (h : cntJ ts c a = 1) : ∃ i, appl ts c a = [i] ∧ i < ts.length ∧ (ts.find? (apJ c a)).map (·.co) = some (ts.getD i jr0).co := by
  have hl := appl_len ts c a
  rw [h] at hl
  obtain ⟨i, hi⟩ := List.length_eq_one_iff.mp hl
  refine ⟨i, hi, ?_, ?_⟩
  · have : i ∈ appl ts c a := by rw [hi]; exact List.mem_cons_self
    exact List.mem_range.mp (List.mem_filter.mp this).1
  · rw [← appl_first, hi]
    rfl
theorem ev_ltT {a b c d : Int} {P : D → Prop} : ltTR (.tup [.int a, .int b]) (.tup [.int c, .int d]) P = P (.bl (ltB (a, b) (c, d))) := rfl
end Dl

/-! Dl: zip(tuple, text). -/
namespace Dl
open PySem L2 PySem.Spec PyProof.Rows
/-- a tuple's items with a text's signs, each in a new pair -/
def ItZ (K : PySem.W.Frag) (a : Addr) (x : Str) : It :=
  ⟨fun i H => ∃ (xs : List V) (v : V) (c : Nat), SqT K H a xs ∧ xs[i]? = some v ∧ x.cps[i]? = some c,
   fun i H v H' => ∃ T y c, v = .ref T ∧ H T = none ∧ H' = upd H T (.tup [y, .str ⟨#[c]⟩]) ∧ x.cps[i]? = some c ∧ ∀ xs, SqT K H a xs → xs[i]? = some y,
   fun i H => ∃ xs : List V, SqT K H a xs ∧ (xs.length ≤ i ∨ x.cps.size ≤ i)⟩
theorem turn_zipS {P : Program} {w : World} {K : PySem.W.Frag} {elts : List Expr} {kk : Nat} {tpos : Pos} {a z TI TO i1 i2 : Addr} {x : Str} {t : Tok} (D : ZipSep2 z TI TO i1 i2 [i1, a] [i2]) (hne : a ≠ i1) :
    Turn P w K (.Tuple elts kk tpos) (ItZ K a x) [z, TI, TO, i1, i2] z (fun i h => IsZip h z TI TO .none ∧ IsTupOf2 h TI (.ref i1) (.ref i2) ∧ (∃ u v, IsTupOf2 h TO u v) ∧ h.IsTupleIter i1 a i ∧ h.IsStrIter i2 (strIterType x) x t i ∧ i ≤ x.cps.size) where
  mem := List.mem_cons_self
  obj := fun i h q b hb => by
    obtain ⟨h1, h2, ⟨u, v, h3⟩, ⟨o4, e4, _, d4⟩, ⟨o5, e5, _, d5⟩, _⟩ := q
    simp only [List.mem_cons, List.not_mem_nil, or_false] at hb
    rcases hb with rfl | rfl | rfl | rfl | rfl
    · exact ⟨_, h1, nofun⟩
    · exact ⟨_, h2, nofun⟩
    · exact ⟨_, h3, nofun⟩
    · exact ⟨_, e4, fun v z => by rw [d4] at z; cases z⟩
    · exact ⟨_, e5, fun v z => by rw [d5] at z; cases z⟩
  keep := fun i h h' q k => by
    obtain ⟨h1, h2, ⟨u, v, h3⟩, h4, ⟨o5, e5, r5⟩, h6⟩ := q
    exact ⟨k z (by simp) _ h1, k TI (by simp) _ h2, ⟨u, v, k TO (by simp) _ h3⟩, h4.at fun o e => k i1 (by simp) o e, ⟨o5, k i2 (by simp) o5 e5, r5⟩, h6⟩
  item := by
    rintro X rfl rfl rfl hc i pins s σ H E I hf ⟨hz, hTI, ⟨u0, v0, hTO⟩, h1, h2, h3⟩ ⟨xs, y, c, hq, hx, hy⟩
    obtain ⟨its, rv, p, _⟩ := I.tuple hq
    obtain ⟨u, hu, ru⟩ := rv.get hx
    have hzl : z < s.heap.objs.size := Heap.lt_size hz
    have hi1 : i < its.toArray.size := by
      have := (List.getElem?_eq_some_iff.mp hu).1
      simpa using this
    have hi2 : i < x.cps.size := by
      rcases Nat.lt_or_ge i x.cps.size with g | g
      · exact g
      · rw [Array.getElem?_eq_none g] at hy
        cases hy
    refine wpAny_pyNext_zipD2_item D (Draws.tuple (A := X.A.in1) (I.ok.hd hc) i1 a hne its.toArray) (Draws.text (A := X.A.in1) (I.ok.hd hc) i2 x t) hz hTI hTO ⟨h1, p⟩ h2 hi1 hi2 fun x1 x2 h' tk g1 g2 z' TO' st1 st2 hT hsz hk => ?_
    obtain ⟨c2, t2, hc2, rfl⟩ := g2
    rw [hy] at hc2
    obtain rfl := Option.some.inj hc2
    obtain rfl : x1 = u := by
      have e : its.toArray[i]? = some u := by simpa using hu
      rw [e] at g1
      exact (Option.some.inj g1).symm
    refine ⟨_, rfl, wpAny_letOwnedTupleGo_zip (s := { s with heap := h', toks := tk }) z' fun h2' z2 sb => ?_⟩
    have hT2 : h2'.get? s.heap.objs.size = some { cls := .type "tuple", data := .seq #[x1, .str ⟨#[c]⟩ t2] } := (sb.2 _ (Nat.ne_of_gt hzl)).trans hT
    have new : ObjOk X.prog X.w (upd H s.heap.objs.size (.tup [y, .str ⟨#[c]⟩])) h2' s.heap.objs.size (.tup [y, .str ⟨#[c]⟩]) :=
      ⟨(show 2 ≤ sizeLine by decide), [x1, .str ⟨#[c]⟩ t2], .cons ru (.cons ⟨_, rfl⟩ .nil), ⟨_, hT2, rfl, _, rfl⟩⟩
    have ch : ∀ b ob, b ∉ [z, TI, TO, i1, i2] → s.heap.get? b = some ob → h2'.get? b = some ob := fun b ob hb q => (sb.2 b fun q' => hb (by simp [q'])).trans (hk b ob (fun q' => hb (by simp [q'])) (fun q' => hb (by simp [q'])) (fun q' => hb (by simp [q'])) (fun q' => hb (by simp [q'])) q)
    have I1 : Inv X pins σ (upd H s.heap.objs.size (.tup [y, .str ⟨#[c]⟩])) { s with heap := h2', toks := tk } := I.turnedNew ch hf (Nat.le_refl _) new
    refine ⟨.ref s.heap.objs.size, _, I1, rfl, ⟨_, y, c, rfl, I.hok.fresh (Nat.le_refl _), rfl, hy, fun ys hys => by rw [I.tuple_inj hys hq]; exact hx⟩, ⟨z2, ?_, ⟨_, _, (sb.2 _ D.TOz).trans TO'⟩, st1.1.at fun o q => (sb.2 _ (Ne.symm D.zi1)).trans q, ?_, hi2⟩, fun b hb => ?_⟩
    · exact (sb.2 _ D.TIz).trans (hk _ _ D.TIz D.TITO D.TIi1 D.TIi2 hTI)
    · obtain ⟨o5, e5, r5⟩ := st2
      exact ⟨o5, (sb.2 _ (Ne.symm D.zi2)).trans e5, r5⟩
    · have hlt : b < s.heap.objs.size := by
        simp only [List.mem_cons, List.not_mem_nil, or_false] at hb
        rcases hb with rfl | rfl | rfl | rfl | rfl
        · exact hzl
        · exact Heap.lt_size hTI
        · exact Heap.lt_size hTO
        · obtain ⟨_, e1, _⟩ := h1
          exact Heap.lt_size e1
        · obtain ⟨_, e1, _⟩ := h2
          exact Heap.lt_size e1
      rw [upd_ne (Nat.ne_of_lt hlt)]
      exact (hf b hb).1
  done := by
    rintro X rfl rfl rfl hc i pins s σ H E I hf ⟨hz, hTI, ⟨u0, v0, hTO⟩, h1, h2, h3⟩ ⟨xs, hq, hend⟩
    obtain ⟨its, rv, p, _⟩ := I.tuple hq
    have hl := rv.length
    have fin : ∀ h' tk, (∀ b ob, b ≠ z → b ≠ TO → b ≠ i1 → b ≠ i2 → s.heap.get? b = some ob → h'.get? b = some ob) → (none : Option Value) = none ∧ Inv X pins σ H { s with heap := h', toks := tk } := fun h' tk hk =>
      ⟨rfl, I.turnedL (ch := [z, TI, TO, i1, i2]) (fun b ob hb q => hk b ob (fun q' => hb (by simp [q'])) (fun q' => hb (by simp [q'])) (fun q' => hb (by simp [q'])) (fun q' => hb (by simp [q'])) q) hf⟩
    by_cases g : xs.length ≤ i
    · have none : its.toArray[i]? = none := by
        simp
        omega
      have Dr : Draws X.prog X.w X.A.in1 i1 [i1, a] i (fun _ _ => False) (fun j h => j = i ∧ h.IsTupleIter i1 a i ∧ h.IsTuple a its.toArray) := {
        live := fun j h q => by
          obtain ⟨_, ⟨o, ho, _⟩, _⟩ := q
          exact ⟨o, ho⟩
        frame := fun j h h2 q k => ⟨q.1, q.2.1.at fun o z => k i1 List.mem_cons_self o z, q.2.2.at fun o z => k a (List.mem_cons_of_mem _ List.mem_cons_self) o z⟩
        item := fun j s Q E hj q _ => by
          have := q.1
          omega
        done := fun s Q E q hE => wpAny_nextOf_tuple_end (I.ok.hd hc) q.2.1 q.2.2 none hE }
      exact wpAny_pyNext_zipD2_end D Dr (Draws.text (A := X.A.in1) (I.ok.hd hc) i2 x t) hz hTI hTO ⟨rfl, h1, p⟩ h2 (Nat.le_refl _) h3 (.inl rfl) fin
    · have e : i = x.cps.size := by
        rcases hend with q | q
        · exact absurd q g
        · omega
      exact wpAny_pyNext_zipD2_end D (Draws.tuple (A := X.A.in1) (I.ok.hd hc) i1 a hne its.toArray) (Draws.text (A := X.A.in1) (I.ok.hd hc) i2 x t) hz hTI hTO ⟨h1, p⟩ h2 (by simp; omega) h3 (.inr e) fin
  self := fun A i s Q E q h => wpAny_pyIter_zip q.1 h
theorem adr_ne {x y : Nat} (h : x ≠ y) : @Ne Addr x y := h
theorem adr_two {x y z : Nat} (h1 : x ≠ y) (h2 : x ≠ z) : ¬ (x : Addr) ∈ ([y, z] : List Addr) := fun q => by
  rcases List.mem_cons.mp q with q | q
  · exact h1 q
  · exact h2 (List.mem_singleton.mp q)
theorem adr_one {x y : Nat} (h1 : x ≠ y) : ¬ (x : Addr) ∈ ([y] : List Addr) := fun q => h1 (List.mem_singleton.mp q)
theorem sep_new (n a : Nat) (la : a < n) : ZipSep2 (n + 4) (n + 2) (n + 3) n (n + 1) [n, a] [n + 1] where
  TIz := adr_ne (by omega)
  TOz := adr_ne (by omega)
  TITO := adr_ne (by omega)
  TIi1 := adr_ne (by omega)
  mem1 := List.mem_cons_self
  zf1 := adr_two (by omega) (by omega)
  Tf1 := adr_two (by omega) (by omega)
  TIi2 := adr_ne (by omega)
  mem2 := List.mem_cons_self
  zf2 := adr_one (by omega)
  Tf2 := adr_one (by omega)
  sep1_2 := adr_one (by omega)
  sep2_1 := adr_two (by omega) (by omega)
theorem new_le {n b : Nat} (h : b ∈ [n + 4, n + 2, n + 3, n, n + 1]) : n ≤ b := by
  simp only [List.mem_cons, List.not_mem_nil, or_false] at h
  omega
def iZipS (K : PySem.W.Frag) (ta : TA) : TI := fun σ H R => ta σ H fun vs H1 => ∃ a xs x, vs = [.ref a, .str x] ∧ SqT K H1 a xs ∧ R (ItZ K a x) H1
theorem pi_zipS {X : Cx} {e e2 : Expr} {ta : TA} {p pos tpos : Pos} {elts : List Expr} {kk : Nat} (hg : Gl X "zip") (hm : X.mg "zip" = none) (ha : PA X [e, e2] ta)
    (hs : starEach [e, e2] X.env = (false, eval e X.env) :: starEach [e2] X.env := by rfl) (hpl : (backTo pos (starEach [e2] X.env)).any (·.1) = false := by rfl) :
    PI X (.Tuple elts kk tpos) (.Call (.Name "zip" p) [e, e2] [] pos) (iZipS X.K ta) := ⟨fun pins s σ H R I hyp => by
  refine Call_ (ld_blt I hg hm PyProof.Rows.boot_zip (PyProof.Rows.callWith_type1 (thn (ha.run pos pins s σ H _ I hyp) fun us s1 res => ?_) hs hpl))
  obtain ⟨vs, H1, I1, r1, a, xs, x, rfl, hq, go⟩ := res
  obtain ⟨u, u', rfl, ra, ⟨t, rfl⟩⟩ := vals2 r1
  cases ra
  obtain ⟨its, rv, p2, _⟩ := I1.tuple hq
  obtain ⟨oa, hoa, _⟩ := id p2
  have la : a < s1.heap.objs.size := Heap.lt_size hoa
  refine zip_begins2 (begins_tuple a its.toArray) (begins_text x t) p2 trivial fun h' hz hTI hTO g1 g2 hsz hk => wpAny_pyIter_zip hz ?_
  refine ⟨s1.heap.objs.size + 4, [s1.heap.objs.size + 4, s1.heap.objs.size + 2, s1.heap.objs.size + 3, s1.heap.objs.size, s1.heap.objs.size + 1], _, _, H1, rfl, I1.kept (t' := s1.toks) hk, turn_zipS (t := t) ?_ (Nat.ne_of_lt la), ⟨hz, hTI, ⟨_, _, hTO⟩, ⟨_, g1, rfl, rfl⟩, ⟨_, g2, rfl, rfl⟩, Nat.zero_le _⟩, fun b hb => ?_, go⟩
  · exact sep_new _ a la
  · have hle : s1.heap.objs.size ≤ b := new_le hb
    exact I1.fpOk hle (I1.hok.fresh hle)⟩
def zipD (ds : List D) (cs : List Nat) : List D := List.zipWith (fun d c => .tup [d, .str ⟨#[c]⟩]) ds cs
theorem src_zipS {K : PySem.W.Frag} {c : Ct} {a : Addr} {x : Str} {F0 : Hp} {ds : List D} {vs : List V} (h : SqT K F0 a vs) (r : Reps K F0 ds vs) : SrcOk K c (ItZ K a x) F0 (zipD ds x.cps.toList) := by
  have at' : ∀ {F σ H δ}, Same F0 F → StOk K c F σ H δ → SqT K H a vs := fun e S => same_t S.sub (same_t e h)
  have sz : x.cps.size = x.cps.toList.length := rfl
  have ln : (zipD ds x.cps.toList).length = min ds.length x.cps.toList.length := List.length_zipWith
  have vl := r.len
  refine ⟨fun F σ H δ e S => ⟨vs, at' e S, by rw [ln]; omega⟩, fun i F σ H δ hi e S => ?_, fun i d F σ H δ y0 H' hi e S y => ?_⟩
  · rw [ln] at hi
    have hi' : i < vs.length := by omega
    have hi2 : i < x.cps.size := by omega
    exact ⟨vs, vs[i], _, at' e S, List.getElem?_eq_getElem hi', Array.getElem?_eq_getElem hi2⟩
  · obtain ⟨T, x0, c0, rfl, hT, rfl, hc0, hall⟩ := y
    have hib : i < (zipD ds x.cps.toList).length := (List.getElem?_eq_some_iff.mp hi).1
    rw [ln] at hib
    have hi2 : i < ds.length := by omega
    obtain ⟨v0, h1, h2⟩ := r.get (List.getElem?_eq_getElem hi2)
    have h3 := hall vs (at' e S)
    rw [h1] at h3
    obtain rfl := Option.some.inj h3
    have ed : d = .tup [ds[i], .str ⟨#[c0]⟩] := by
      unfold zipD at hi
      rw [List.getElem?_zipWith, List.getElem?_eq_getElem hi2, Array.getElem?_toList, hc0] at hi
      exact (Option.some.inj hi).symm
    subst ed
    obtain ⟨sF, S2⟩ := S.alloc (o := .tup [v0, .str ⟨#[c0]⟩]) hT
    refine ⟨_, sF, S2, ?_, fun p o f hp => ?_⟩
    · simp only [Rep]
      refine ⟨T, _, rfl, SqT.of upd_same, ?_⟩
      simp only [Reps]
      exact ⟨_, _, rfl, Rep.mono (e.trans sF) _ _ h2, _, _, rfl, by simp only [Rep], rfl⟩
    · have ne : p ≠ T := fun z => by
        rw [z, hT] at hp
        cases hp
      refine ⟨⟨?_, f.z, f.o⟩, ?_⟩
      · rw [upd_ne ne]
        exact f.f
      · rw [upd_ne ne]
        exact hp
def kZip (Q : List D → DS → Prop) : List Vw → DS → Prop := fun ws δ1 => match ws with
  | [.val (.tup ds), .val (.str x)] => Q (zipD ds x.cps.toList) δ1
  | _ => False
def iZipD (r : DA) : DI := fun δ Q => r δ (kZip Q)
theorem i_zip {X : Cx} {e e2 : Expr} {rs : DA} {p pos tpos : Pos} {elts : List Expr} {kk : Nat} (hg : Gl X "zip") (hm : X.mg "zip" = none) (ha : PA X [e, e2] (liftA X.K rs))
    (hs : starEach [e, e2] X.env = (false, eval e X.env) :: starEach [e2] X.env := by rfl) (hpl : (backTo pos (starEach [e2] X.env)).any (·.1) = false := by rfl) :
    PI X (.Tuple elts kk tpos) (.Call (.Name "zip" p) [e, e2] [] pos) (liftI X.K (iZipD rs)) := pi_wk (pi_zipS hg hm ha hs hpl) fun σ H R ⟨c, F, δ, P, S, h, k⟩ => ⟨c, F, δ, _, S, h, fun ws δ1 h1 vs F1 H1 e1 S1 r1 => by
  match ws, h1, r1 with
  | [.val (.tup ds), .val (.str x)], h1, r1 =>
    obtain ⟨v, us, rfl, g1, v2, us2, rfl, g2, g3⟩ := r1
    have e2 : us2 = [] := g3
    subst e2
    have r : Rep X.K F1 (.tup ds) v := g1
    have r2 : Rep X.K F1 (.str x) v2 := g2
    simp only [Rep] at r r2
    obtain ⟨a, xs, rfl, q1, q2⟩ := r
    subst r2
    exact ⟨a, xs, x, rfl, same_t S1.sub q1, k _ _ h1 _ F1 H1 e1 S1 (src_zipS q1 q2)⟩⟩
theorem ev_zip {r : DA} {δ : DS} {Q : List D → DS → Prop} : iZipD r δ Q = r δ (kZip Q) := rfl
theorem ev_kzip {ds : List D} {x : Str} {δ : DS} {Q : List D → DS → Prop} : kZip Q [.val (.tup ds), .val (.str x)] δ = Q (zipD ds x.cps.toList) δ := rfl
end Dl

/-! Dl: prices of assignments; the least one. -/
namespace Dl
open PySem L2
abbrev Pr := Option Int × Option Int
def prD (p : Pr) : D := .tup [cD p.1, cD p.2]
abbrev WL := Option Int × List Nat
def jnL (a b : WL) : WL := (pluS a.1 b.1, a.2 ++ b.2)
def chL (a b : WL) : WL := if lsO b.1 a.1 = true then (b.1, List.replicate a.2.length 63 ++ b.2) else (a.1, a.2 ++ List.replicate b.2.length 63)
def bothL : Tr → List Pr → WL × WL
  | .leaf _ _ _, cs => match cs with
    | [] => ((none, [49]), (none, [48]))
    | p :: _ => ((p.1, [49]), (p.2, [48]))
  | .node w a b, cs =>
    let f := bothL a (cs.take a.n)
    let g := bothL b (cs.drop a.n)
    let s := if w = "unless" then (g.2, g.1) else g
    if w = "or" then (chL f.1 s.1, jnL f.2 s.2) else (jnL f.1 s.1, chL f.2 s.2)
def bsL (t : Tr) (cs : List Pr) (z : Bool) : WL := if z then (bothL t cs).1 else (bothL t cs).2
theorem bsL_node {w : Str} {a b : Tr} {cs : List Pr} {z : Bool} : bsL (.node w a b) cs z = if prodB w z then jnL (bsL a (cs.take a.n) z) (bsL b (cs.drop a.n) (swB w z)) else chL (bsL a (cs.take a.n) z) (bsL b (cs.drop a.n) (swB w z)) := by
  unfold bsL prodB swB
  rw [bothL]
  by_cases h1 : w = "unless"
  · have h2 : ¬ w = "or" := by rw [h1]; decide
    rw [if_neg h2, if_neg h2, if_pos h1, if_pos h1]
    cases z <;> rfl
  · rw [if_neg h1, if_neg h1]
    by_cases h2 : w = "or"
    · rw [if_pos h2, if_pos h2]
      cases z <;> rfl
    · rw [if_neg h2, if_neg h2]
      cases z <;> rfl
def reqC (p : Pr) (c : Nat) : Option Int := if c = 63 then some 0 else if c = 48 then p.2 else p.1
def priL : List Pr → List Nat → Option Int
  | p :: ps, c :: r => pluS (reqC p c) (priL ps r)
  | _, _ => some 0
theorem plu_zero (a : Option Int) : pluS a (some 0) = a := by
  cases a with
  | none => rfl
  | some x => show some (x + 0) = some x; rw [Int.add_zero]
theorem zero_plu (a : Option Int) : pluS (some 0) a = a := by
  cases a with
  | none => rfl
  | some x => show some (0 + x) = some x; rw [Int.zero_add]
theorem plu_assoc (a b c : Option Int) : pluS (pluS a b) c = pluS a (pluS b c) := by
  cases a with
  | none => cases b <;> cases c <;> rfl
  | some x =>
    cases b with
    | none => cases c <;> rfl
    | some y =>
      cases c with
      | none => rfl
      | some z =>
        show some (x + y + z) = some (x + (y + z))
        rw [Int.add_assoc]
theorem priL_app : ∀ {ps qs : List Pr} {r s : List Nat}, ps.length = r.length → priL (ps ++ qs) (r ++ s) = pluS (priL ps r) (priL qs s)
  | [], qs, [], s, _ => (zero_plu _).symm
  | p :: ps, qs, c :: r, s, h => by
    show pluS (reqC p c) (priL (ps ++ qs) (r ++ s)) = pluS (pluS (reqC p c) (priL ps r)) (priL qs s)
    rw [priL_app (Nat.succ.inj h), plu_assoc]
theorem priL_blank : ∀ (ps : List Pr) (n : Nat), priL ps (List.replicate n 63) = some 0
  | [], n => by cases n <;> rfl
  | p :: ps, 0 => rfl
  | p :: ps, n + 1 => by
    rw [List.replicate_succ]
    show pluS (some 0) (priL ps (List.replicate n 63)) = some 0
    rw [zero_plu, priL_blank ps n]
def PrOk (p : Pr) : Prop := (∀ x, p.1 = some x → 0 ≤ x) ∧ ∀ x, p.2 = some x → 0 ≤ x
theorem plu_le2 {a b : Option Int} {v : Int} : oLe (pluS a b) v ↔ ∃ u, oLe a u ∧ oLe b (v - u) := by
  cases a with
  | none => exact ⟨fun ⟨x, h, _⟩ => (by cases h), fun ⟨u, ⟨x, h, _⟩, _⟩ => (by cases h)⟩
  | some x =>
    cases b with
    | none => exact ⟨fun ⟨x, h, _⟩ => (by cases h), fun ⟨u, _, ⟨x, h, _⟩⟩ => (by cases h)⟩
    | some y =>
      constructor
      · rintro ⟨z, h, hz⟩
        cases h
        exact ⟨x, ⟨x, rfl, Int.le_refl _⟩, ⟨y, rfl, by omega⟩⟩
      · rintro ⟨u, ⟨x2, h1, h2⟩, ⟨y2, h3, h4⟩⟩
        cases h1
        cases h3
        exact ⟨x + y, rfl, by omega⟩
theorem req_pos {p : Pr} (h : PrOk p) {c : Nat} {v : Int} (e : oLe (reqC p c) v) : 0 ≤ v := by
  obtain ⟨x, h1, h2⟩ := e
  unfold reqC at h1
  split at h1
  · cases h1
    exact h2
  · split at h1
    · have := h.2 x h1
      omega
    · have := h.1 x h1
      omega
theorem pri_pos : ∀ {ps : List Pr} {r : List Nat} {v : Int}, (∀ p ∈ ps, PrOk p) → oLe (priL ps r) v → 0 ≤ v
  | [], r, v, _, h => by
    obtain ⟨x, h1, h2⟩ := h
    cases r <;> cases h1 <;> exact h2
  | p :: ps, [], v, _, h => by
    obtain ⟨x, h1, h2⟩ := h
    cases h1
    exact h2
  | p :: ps, c :: r, v, hp, h => by
    obtain ⟨u, h1, h2⟩ := plu_le2.mp (show oLe (pluS (reqC p c) (priL ps r)) v from h)
    have := req_pos (hp p List.mem_cons_self) h1
    have := pri_pos (fun q hq => hp q (List.mem_cons_of_mem _ hq)) h2
    omega
theorem chL_fst (a b : WL) : (chL a b).1 = relO b.1 a.1 := by
  unfold chL relO
  split <;> rfl
/-- the assignment told has the finding, at its price -/
theorem best_att : ∀ {t : Tr} {cs : List Pr} {z : Bool}, t.ok → cs.length = t.n → (bsL t cs z).2.length = t.n ∧ Fs (bsL t cs z).2 ∧ val3 t (bsL t cs z).2 = some z ∧ priL cs (bsL t cs z).2 = (bsL t cs z).1
  | .leaf x b m, cs, z, _, hl => by
    match cs, hl with
    | [p], _ =>
      have one : ∀ o : Option Int, pluS o (priL [] []) = o := plu_zero
      cases z
      · exact ⟨rfl, fun c hc => .inl (List.mem_singleton.mp hc), rfl, one p.2⟩
      · exact ⟨rfl, fun c hc => .inr (.inl (List.mem_singleton.mp hc)), rfl, one p.1⟩
  | .node w a b, cs, z, ok, hl => by
    have hl : cs.length = a.n + b.n := hl
    have la : (cs.take a.n).length = a.n := by rw [List.length_take]; omega
    have lb : (cs.drop a.n).length = b.n := by rw [List.length_drop]; omega
    obtain ⟨a1, a2, a3, a4⟩ := best_att (z := z) ok.2.1 la
    obtain ⟨b1, b2, b3, b4⟩ := best_att (z := swB w z) ok.2.2 lb
    have tk : ∀ {r1 r2 : List Nat}, r1.length = a.n → (r1 ++ r2).take a.n = r1 ∧ (r1 ++ r2).drop a.n = r2 := fun {r1 r2} l => ⟨by rw [← l, List.take_left], by rw [← l, List.drop_left]⟩
    have pr : ∀ r1 r2 : List Nat, r1.length = a.n → priL cs (r1 ++ r2) = pluS (priL (cs.take a.n) r1) (priL (cs.drop a.n) r2) := fun r1 r2 l => by
      rw [← priL_app (by rw [la, l]), List.take_append_drop]
    have q63 : ∀ n, Fs (List.replicate n 63) := fun n c hc => .inr (.inr (List.eq_of_mem_replicate hc))
    have app : ∀ {r s : List Nat}, Fs r → Fs s → Fs (r ++ s) := fun h1 h2 c hc => (List.mem_append.mp hc).elim (h1 c) (h2 c)
    rw [bsL_node]
    generalize bsL a (cs.take a.n) z = f at *
    generalize bsL b (cs.drop a.n) (swB w z) = g at *
    obtain ⟨f1, f2⟩ := f
    obtain ⟨g1, g2⟩ := g
    dsimp only at a1 a2 a3 a4 b1 b2 b3 b4
    by_cases hp : prodB w z = true
    · rw [if_pos hp]
      show (f2 ++ g2).length = a.n + b.n ∧ Fs (f2 ++ g2) ∧ val3 (.node w a b) (f2 ++ g2) = some z ∧ priL cs (f2 ++ g2) = pluS f1 g1
      refine ⟨by rw [List.length_append, a1, b1], app a2 b2, ?_, by rw [pr _ _ a1, a4, b4]⟩
      rw [val_sides ok.1, if_pos hp, (tk a1).1, (tk a1).2]
      exact ⟨a3, b3⟩
    · rw [if_neg hp]
      unfold chL
      dsimp only
      split
      · show (List.replicate f2.length 63 ++ g2).length = a.n + b.n ∧ Fs (List.replicate f2.length 63 ++ g2) ∧ val3 (.node w a b) (List.replicate f2.length 63 ++ g2) = some z ∧ priL cs (List.replicate f2.length 63 ++ g2) = g1
        have l : (List.replicate f2.length 63).length = a.n := by rw [List.length_replicate, a1]
        refine ⟨by rw [List.length_append, l, b1], app (q63 _) b2, ?_, by rw [pr _ _ l, priL_blank, zero_plu, b4]⟩
        rw [val_sides ok.1, if_neg hp, (tk l).1, (tk l).2]
        exact .inr b3
      · show (f2 ++ List.replicate g2.length 63).length = a.n + b.n ∧ Fs (f2 ++ List.replicate g2.length 63) ∧ val3 (.node w a b) (f2 ++ List.replicate g2.length 63) = some z ∧ priL cs (f2 ++ List.replicate g2.length 63) = f1
        refine ⟨by rw [List.length_append, List.length_replicate, a1, b1], app a2 (q63 _), ?_, by rw [pr _ _ a1, priL_blank, plu_zero, a4]⟩
        rw [val_sides ok.1, if_neg hp, (tk a1).1]
        exact .inl a3
/-- no assignment with the finding is cheaper -/
theorem best_low : ∀ {t : Tr} {cs : List Pr} {r : List Nat} {z : Bool} {v : Int}, t.ok → cs.length = t.n → (∀ p ∈ cs, PrOk p) → Fs r → r.length = t.n → val3 t r = some z → oLe (priL cs r) v → oLe (bsL t cs z).1 v
  | .leaf x b m, cs, r, z, v, _, hl, hp, hf, hr, hv, h => by
    match cs, hl, r, hr with
    | [p], _, [c], _ =>
      have e : priL [p] [c] = reqC p c := plu_zero _
      rw [e] at h
      have hv : sgn3 c = some z := hv
      rcases hf c List.mem_cons_self with rfl | rfl | rfl
      · cases hv
        exact h
      · cases hv
        exact h
      · cases hv
  | .node w a b, cs, r, z, v, ok, hl, hp, hf, hr, hv, h => by
    have hl : cs.length = a.n + b.n := hl
    have hr : r.length = a.n + b.n := hr
    have la : (cs.take a.n).length = a.n := by rw [List.length_take]; omega
    have lb : (cs.drop a.n).length = b.n := by rw [List.length_drop]; omega
    have ra : (r.take a.n).length = a.n := by rw [List.length_take]; omega
    have rb : (r.drop a.n).length = b.n := by rw [List.length_drop]; omega
    have pa : ∀ p ∈ cs.take a.n, PrOk p := fun p h => hp p (List.mem_of_mem_take h)
    have pb : ∀ p ∈ cs.drop a.n, PrOk p := fun p h => hp p (List.mem_of_mem_drop h)
    have e : priL cs r = pluS (priL (cs.take a.n) (r.take a.n)) (priL (cs.drop a.n) (r.drop a.n)) := by
      rw [← priL_app (by rw [la, ra]), List.take_append_drop, List.take_append_drop]
    rw [e] at h
    obtain ⟨u, h1, h2⟩ := plu_le2.mp h
    rw [bsL_node]
    rw [val_sides ok.1] at hv
    by_cases hq : prodB w z = true
    · rw [if_pos hq] at hv ⊢
      exact plu_le2.mpr ⟨u, best_low ok.2.1 la pa (hf.take a.n) ra hv.1 h1, best_low ok.2.2 lb pb (hf.drop a.n) rb hv.2 h2⟩
    · rw [if_neg hq] at hv ⊢
      rw [chL_fst, rel_le]
      have u0 := pri_pos pa h1
      have w0 := pri_pos pb h2
      rcases hv with hv | hv
      · exact .inr (oLe_mono (best_low ok.2.1 la pa (hf.take a.n) ra hv h1) (by omega))
      · exact .inl (oLe_mono (best_low ok.2.2 lb pb (hf.drop a.n) rb hv h2) (by omega))
end Dl

/-! Dl: text.strip(signs). -/
namespace Dl
open PySem L2 PySem.Spec PyProof.Rows PySem.Builtin PySem.Builtin.Str
def stripR : R2D
  | .str a, .str b, P => a.length ≤ sizeLine ∧ P (.str (Txt.stripChars a b))
  | _, _, _ => False
theorem ev_strip {a b : Str} {P : D → Prop} : stripR (.str a) (.str b) P = (a.length ≤ sizeLine ∧ P (.str (Txt.stripChars a b))) := rfl
theorem ms_strip {K : PySem.W.Frag} : MS K (fun x xs H Q => ∃ a b, x = .str a ∧ xs = [.str b] ∧ a.length ≤ sizeLine ∧ Q (.str (Txt.stripChars a b)) H) stripR := fun F H a b y P Q e rb h k => by
  cases b with
  | str b =>
    rw [str_v rb]
    exact ⟨a, b, rfl, rfl, h.1, k _ _ F H h.2 (stay (P := True)) rS_⟩
  | _ => exact h.elim
theorem strip_all {w : List Nat} (h : Fs w) : Txt.stripChars (ofL w) (Str.ofString "10?") = Str.ofString "" := by
  unfold Txt.stripChars
  rw [stripBy_eq]
  have go : ∀ k, k < (ofL w).length → (Str.ofString "10?").cps.contains ((ofL w).cps.getD k 0) = true := fun k hk => by
    have e : (ofL w).cps.getD k 0 = w.getD k 0 := by
      rw [← getD_list]
      rfl
    rw [e]
    rw [ofL_len] at hk
    have m : w.getD k 0 ∈ w := by
      rw [List.getD_eq_getElem?_getD, List.getElem?_eq_getElem hk]
      exact List.getElem_mem hk
    rcases h _ m with q | q | q <;> rw [q] <;> decide +kernel
  obtain ⟨l1, l2, l3⟩ := lo_facts (Str.ofString "10?").cps.contains (ofL w)
  have lo : stripLo (Str.ofString "10?").cps.contains true (ofL w) = (ofL w).length := by
    rcases l3 with q | q
    · exact q
    · rcases Nat.lt_or_ge (stripLo (Str.ofString "10?").cps.contains true (ofL w)) (ofL w).length with g | g
      · rw [go _ g] at q
        cases q
      · omega
  rw [lo]
  obtain ⟨h1, h2, _⟩ := hi_facts (Str.ofString "10?").cps.contains (ofL w) (ofL w).length (Nat.le_refl _)
  rw [Nat.le_antisymm h2 h1]
  show Str.mk ((ofL w).cps.extract _ _) = _
  rw [Array.extract_empty_of_stop_le_start (Nat.le_refl _)]
  rfl
end Dl

/-! Dl: costs that stand for findings, raised costs. -/
namespace Dl
open PySem L2
theorem plu_zero_iff {a b : Option Int} (ha : ∀ x, a = some x → 0 ≤ x) (hb : ∀ x, b = some x → 0 ≤ x) : pluS a b = some 0 ↔ a = some 0 ∧ b = some 0 := by
  cases a with
  | none => exact ⟨fun h => (by cases h), fun h => (by cases h.1)⟩
  | some x =>
    cases b with
    | none => exact ⟨fun h => (by cases h), fun h => (by cases h.2)⟩
    | some y =>
      have := ha x rfl
      have := hb y rfl
      show some (x + y) = some 0 ↔ _
      simp
      omega
theorem rel_zero_iff {a b : Option Int} (ha : ∀ x, a = some x → 0 ≤ x) (hb : ∀ x, b = some x → 0 ≤ x) : relO b a = some 0 ↔ a = some 0 ∨ b = some 0 := by
  cases a with
  | none =>
    cases b with
    | none => exact ⟨fun h => (by cases h), fun h => (by rcases h with h | h <;> cases h)⟩
    | some y =>
      show some y = some 0 ↔ _
      simp
  | some x =>
    cases b with
    | none =>
      show some x = some 0 ↔ _
      simp
    | some y =>
      have := ha x rfl
      have := hb y rfl
      unfold relO
      show (if decide (y < x) = true then some y else some x) = some 0 ↔ _
      by_cases q : y < x
      · rw [if_pos (decide_eq_true q)]
        simp
        omega
      · rw [if_neg (by simpa using q)]
        simp
        omega
theorem bs_pos {t : Tr} {cs : List Pr} {z : Bool} (ok : t.ok) (hl : cs.length = t.n) (hp : ∀ p ∈ cs, PrOk p) : ∀ x, (bsL t cs z).1 = some x → 0 ≤ x := fun x h => pri_pos (ps := cs) (r := (bsL t cs z).2) hp (by
  rw [(best_att (z := z) ok hl).2.2.2, h]
  exact ⟨x, rfl, Int.le_refl _⟩)
/-- what an issue costs by its finding: nothing to keep it -/
def StdOk (p : Pr) (c : Nat) : Prop := (c = 63 ∧ p = (some 0, some 0)) ∨ (c = 49 ∧ p.1 = some 0 ∧ ∀ x, p.2 = some x → 1 ≤ x) ∨ (c = 48 ∧ p.2 = some 0 ∧ ∀ x, p.1 = some x → 1 ≤ x)
def StdL : List Pr → List Nat → Prop
  | [], [] => True
  | p :: ps, c :: r => StdOk p c ∧ StdL ps r
  | _, _ => False
theorem StdL.take : ∀ {ps : List Pr} {r : List Nat} (n : Nat), StdL ps r → StdL (ps.take n) (r.take n)
  | [], [], n, _ => by rw [List.take_nil, List.take_nil]; trivial
  | p :: ps, c :: r, 0, _ => trivial
  | p :: ps, c :: r, n + 1, h => ⟨h.1, h.2.take n⟩
theorem StdL.drop : ∀ {ps : List Pr} {r : List Nat} (n : Nat), StdL ps r → StdL (ps.drop n) (r.drop n)
  | [], [], n, _ => by rw [List.drop_nil, List.drop_nil]; trivial
  | p :: ps, c :: r, 0, h => h
  | p :: ps, c :: r, n + 1, h => h.2.drop n
theorem StdL.app : ∀ {ps qs : List Pr} {r s : List Nat}, StdL ps r → StdL qs s → StdL (ps ++ qs) (r ++ s)
  | [], qs, [], s, _, h => h
  | p :: ps, qs, c :: r, s, h1, h => ⟨h1.1, h1.2.app h⟩
theorem StdL.len : ∀ {ps : List Pr} {r : List Nat}, StdL ps r → ps.length = r.length
  | [], [], _ => rfl
  | p :: ps, c :: r, h => congrArg (· + 1) h.2.len
theorem StdL.ok : ∀ {ps : List Pr} {r : List Nat}, StdL ps r → ∀ p ∈ ps, PrOk p
  | [], [], _, p, hp => by cases hp
  | q :: ps, c :: r, h, p, hp => by
    rcases List.mem_cons.mp hp with rfl | hp
    · rcases h.1 with ⟨_, rfl⟩ | ⟨_, h1, h2⟩ | ⟨_, h1, h2⟩
      · exact ⟨fun x e => by cases e; exact Int.le_refl _, fun x e => by cases e; exact Int.le_refl _⟩
      · exact ⟨fun x e => by rw [h1] at e; cases e; exact Int.le_refl _, fun x e => by have := h2 x e; omega⟩
      · exact ⟨fun x e => by have := h2 x e; omega, fun x e => by rw [h1] at e; cases e; exact Int.le_refl _⟩
    · exact h.2.ok p hp
theorem prod_not (w : Str) (z : Bool) (hw : Wd w) : prodB w (!z) = !prodB w z := by
  rcases hw with rfl | rfl | rfl <;> cases z <;> rfl
theorem sw_not (w : Str) (z : Bool) : swB w (!z) = !swB w z := by
  unfold swB
  split <;> cases z <;> rfl
theorem stand_zero : ∀ {t : Tr} {cs : List Pr} {fs : List Nat} {z : Bool}, t.ok → StdL cs fs → fs.length = t.n → ((bsL t cs z).1 = some 0 ↔ val3 t fs ≠ some (!z))
  | .leaf x b m, cs, fs, z, _, h, hl => by
    have hl2 : cs.length = 1 := h.len.trans hl
    match fs, hl, cs, hl2, h with
    | [c], _, [p], _, h =>
      have hv : val3 (.leaf x b m) [c] = sgn3 c := rfl
      rw [hv]
      obtain ⟨p1, p2⟩ := p
      rcases h.1 with ⟨rfl, e⟩ | ⟨rfl, e, h2⟩ | ⟨rfl, e, h2⟩
      · cases e
        cases z <;> exact ⟨fun _ => by decide, fun _ => rfl⟩
      · dsimp only at e h2
        subst e
        cases z
        · refine ⟨fun q => ?_, fun q => absurd rfl q⟩
          have : p2 = some 0 := q
          have := h2 0 this
          omega
        · exact ⟨fun _ => by decide, fun _ => rfl⟩
      · dsimp only at e h2
        subst e
        cases z
        · exact ⟨fun _ => by decide, fun _ => rfl⟩
        · refine ⟨fun q => ?_, fun q => absurd rfl q⟩
          have : p1 = some 0 := q
          have := h2 0 this
          omega
  | .node w a b, cs, fs, z, ok, h, hl => by
    have hl : fs.length = a.n + b.n := hl
    have hc := h.len
    have la : (fs.take a.n).length = a.n := by rw [List.length_take]; omega
    have lb : (fs.drop a.n).length = b.n := by rw [List.length_drop]; omega
    have ha := h.take a.n
    have hb := h.drop a.n
    have ia := stand_zero (z := z) ok.2.1 ha la
    have ib := stand_zero (z := swB w z) ok.2.2 hb lb
    have pa := bs_pos (z := z) ok.2.1 (ha.len.trans la) ha.ok
    have pb := bs_pos (z := swB w z) ok.2.2 (hb.len.trans lb) hb.ok
    rw [bsL_node, Ne, val_sides ok.1, prod_not w z ok.1, sw_not]
    by_cases hq : prodB w z = true
    · rw [if_pos hq, if_neg (by rw [hq]; decide)]
      show pluS _ _ = some 0 ↔ _
      rw [plu_zero_iff pa pb, ia, ib]
      exact ⟨fun h q => q.elim h.1 h.2, fun h => ⟨fun q => h (.inl q), fun q => h (.inr q)⟩⟩
    · rw [if_neg hq, if_pos (by simpa using hq), chL_fst, rel_zero_iff pa pb, ia, ib]
      constructor
      · rintro (h | h) ⟨q1, q2⟩
        · exact h q1
        · exact h q2
      · intro h
        by_cases q : val3 a (fs.take a.n) = some (!z)
        · exact .inr fun q2 => h ⟨q, q2⟩
        · exact .inl q
/-- an open issue costs one either way, a decided one cannot be turned -/
def rulP (c : Nat) : Pr := if c = 49 then (some 0, none) else if c = 48 then (none, some 0) else (some 1, some 1)
theorem smal_rel (a b : Option Int) : smalS a b = relO b a := by
  cases a with
  | none => cases b <;> rfl
  | some x =>
    cases b with
    | none => rfl
    | some y =>
      show (if y < x then some y else some x) = if decide (y < x) = true then some y else some x
      by_cases q : y < x <;> simp [q]
theorem rul_cost : ∀ {t : Tr} {fs : List Nat} {z : Bool}, fs.length = t.n → rbB t fs z = (bsL t (fs.map rulP) z).1
  | .leaf x b m, fs, z, hl => by
    match fs, hl with
    | [c], _ =>
      unfold rbB bsL
      rw [rb]
      show (if z then (if c = 49 then (some 0, none) else if c = 48 then (none, some 0) else (some 1, some 1) : Option Int × Option Int).1 else (if c = 49 then (some 0, none) else if c = 48 then (none, some 0) else (some 1, some 1) : Option Int × Option Int).2) = (if z then (((rulP c).1, [49]) : WL) else ((rulP c).2, [48])).1
      unfold rulP
      cases z <;> rfl
  | .node w a b, fs, z, hl => by
    have hl : fs.length = a.n + b.n := hl
    have la : (fs.take a.n).length = a.n := by rw [List.length_take]; omega
    have lb : (fs.drop a.n).length = b.n := by rw [List.length_drop]; omega
    rw [rbB_node, bsL_node, rul_cost la, rul_cost lb, ← List.map_take, ← List.map_drop]
    by_cases hq : prodB w z = true
    · rw [if_pos hq, if_pos hq]
      rfl
    · rw [if_neg hq, if_neg hq, chL_fst, smal_rel]
/-- raised costs, by so much in all -/
def upO (a b : Option Int) (k : Int) : Prop := (a = none ∧ b = none) ∨ ∃ x y, a = some x ∧ b = some y ∧ x ≤ y ∧ y ≤ x + k
def Rsd : List Pr → List Pr → Int → Prop
  | [], [], k => 0 ≤ k
  | p :: ps, q :: qs, k => ∃ m, 0 ≤ m ∧ upO p.1 q.1 m ∧ upO p.2 q.2 m ∧ Rsd ps qs (k - m)
  | _, _, _ => False
theorem Rsd.len : ∀ {ps qs : List Pr} {k : Int}, Rsd ps qs k → ps.length = qs.length
  | [], [], _, _ => rfl
  | p :: ps, q :: qs, k, ⟨_, _, _, _, h⟩ => congrArg (· + 1) h.len
theorem Rsd.snoc : ∀ {ps qs : List Pr} {k m : Int} {p q : Pr}, Rsd ps qs k → 0 ≤ m → upO p.1 q.1 m → upO p.2 q.2 m → Rsd (ps ++ [p]) (qs ++ [q]) (k + m)
  | [], [], k, m, p, q, h, h0, h1, h2 => ⟨m, h0, h1, h2, by show 0 ≤ k + m - m; have : 0 ≤ k := h; omega⟩
  | p' :: ps, q' :: qs, k, m, p, q, ⟨m', a0, a1, a2, h⟩, h0, h1, h2 => ⟨m', a0, a1, a2, by
    have := h.snoc h0 h1 h2
    rw [show k + m - m' = k - m' + m by omega]
    exact this⟩
theorem Rsd.nn : ∀ {ps qs : List Pr} {k : Int}, Rsd ps qs k → 0 ≤ k
  | [], [], _, h => h
  | p :: ps, q :: qs, k, ⟨m, h0, _, _, h⟩ => by
    have := h.nn
    omega
theorem req_up {p q : Pr} {m : Int} (h0 : 0 ≤ m) (h1 : upO p.1 q.1 m) (h2 : upO p.2 q.2 m) (c : Nat) : upO (reqC p c) (reqC q c) m := by
  unfold reqC
  split
  · exact .inr ⟨0, 0, rfl, rfl, Int.le_refl _, by omega⟩
  · split
    · exact h2
    · exact h1
theorem pri_up : ∀ {ps qs : List Pr} {k : Int} (r : List Nat), Rsd ps qs k → upO (priL ps r) (priL qs r) k
  | [], [], k, r, h => .inr ⟨0, 0, by cases r <;> rfl, by cases r <;> rfl, Int.le_refl _, by have : 0 ≤ k := h; omega⟩
  | p :: ps, q :: qs, k, [], h => .inr ⟨0, 0, rfl, rfl, Int.le_refl _, by have := h.nn; omega⟩
  | p :: ps, q :: qs, k, c :: r, ⟨m, h0, h1, h2, h⟩ => by
    show upO (pluS (reqC p c) (priL ps r)) (pluS (reqC q c) (priL qs r)) k
    rcases req_up h0 h1 h2 c with ⟨e1, e2⟩ | ⟨x, y, e1, e2, a1, a2⟩
    · rw [e1, e2]
      exact .inl ⟨by cases priL ps r <;> rfl, by cases priL qs r <;> rfl⟩
    · rw [e1, e2]
      rcases pri_up r h with ⟨e3, e4⟩ | ⟨u, v, e3, e4, b1, b2⟩
      · rw [e3, e4]
        exact .inl ⟨rfl, rfl⟩
      · rw [e3, e4]
        exact .inr ⟨x + u, y + v, rfl, rfl, by omega, by omega⟩
theorem best_up {t : Tr} {cs ds : List Pr} {k : Int} {z : Bool} (ok : t.ok) (hl : cs.length = t.n) (hc : ∀ p ∈ cs, PrOk p) (hd : ∀ p ∈ ds, PrOk p) (h : Rsd cs ds k) : upO (bsL t cs z).1 (bsL t ds z).1 k := by
  have hl2 : ds.length = t.n := h.len.symm.trans hl
  obtain ⟨a1, a2, a3, a4⟩ := best_att (z := z) ok hl
  obtain ⟨b1, b2, b3, b4⟩ := best_att (z := z) ok hl2
  have up1 := pri_up (bsL t cs z).2 h
  have up2 := pri_up (bsL t ds z).2 h
  rw [a4] at up1
  rw [b4] at up2
  cases e1 : (bsL t cs z).1 with
  | none =>
    cases e2 : (bsL t ds z).1 with
    | none => exact .inl ⟨rfl, rfl⟩
    | some y =>
      rw [e2] at up2
      rcases up2 with ⟨_, q⟩ | ⟨u, v, q1, q2, q3, q4⟩
      · cases q
      · cases q2
        obtain ⟨w, hw, _⟩ := best_low (v := y) ok hl hc b2 b1 b3 ⟨u, q1, q3⟩
        rw [e1] at hw
        cases hw
  | some x =>
    rw [e1] at up1
    rcases up1 with ⟨q, _⟩ | ⟨u, v, q1, q2, q3, q4⟩
    · cases q
    · cases q1
      obtain ⟨y, hy, hy2⟩ := best_low (v := v) ok hl2 hd a2 a1 a3 ⟨v, q2, Int.le_refl _⟩
      rw [hy] at up2 ⊢
      rcases up2 with ⟨_, q⟩ | ⟨u2, v2, r1, r2, r3, r4⟩
      · cases q
      · cases r2
        obtain ⟨w, hw, hw2⟩ := best_low (v := u2) ok hl hc b2 b1 b3 ⟨u2, r1, Int.le_refl _⟩
        rw [e1] at hw
        cases hw
        exact .inr ⟨x, y, rfl, rfl, by omega, by omega⟩
/-- an issue free on one side: someone wins for nothing -/
theorem free_zero {t : Tr} {cs : List Pr} (ok : t.ok) (hl : cs.length = t.n) (hc : ∀ p ∈ cs, PrOk p) (hf : ∀ p ∈ cs, p.1 = some 0 ∨ p.2 = some 0) : (bsL t cs true).1 = some 0 ∨ (bsL t cs false).1 = some 0 := by
  have ex : ∀ {cs : List Pr}, (∀ p ∈ cs, p.1 = some 0 ∨ p.2 = some 0) → ∃ r : List Nat, r.length = cs.length ∧ (∀ c ∈ r, c = 48 ∨ c = 49) ∧ priL cs r = some 0 := fun {cs} => by
    induction cs with
    | nil => exact fun _ => ⟨[], rfl, nofun, rfl⟩
    | cons p cs ih =>
      intro h
      obtain ⟨r, r1, r2, r3⟩ := ih fun q hq => h q (List.mem_cons_of_mem _ hq)
      rcases h p List.mem_cons_self with e | e
      · refine ⟨49 :: r, congrArg (· + 1) r1, fun c hc => (List.mem_cons.mp hc).elim (fun q => .inr q) (r2 c), ?_⟩
        show pluS p.1 (priL cs r) = some 0
        rw [e, r3]
        rfl
      · refine ⟨48 :: r, congrArg (· + 1) r1, fun c hc => (List.mem_cons.mp hc).elim (fun q => .inl q) (r2 c), ?_⟩
        show pluS p.2 (priL cs r) = some 0
        rw [e, r3]
        rfl
  obtain ⟨r, r1, r2, r3⟩ := ex hf
  have vb := val_bits (t := t) r2 (r1.trans hl)
  have fsr : Fs r := fun c hc => (r2 c hc).elim .inl fun q => .inr (.inl q)
  obtain ⟨x, hx, hx2⟩ := best_low (v := 0) ok hl hc fsr (r1.trans hl) vb (by rw [r3]; exact ⟨0, rfl, Int.le_refl _⟩)
  have := bs_pos ok hl hc x hx
  have e : x = 0 := by omega
  rw [e] at hx
  cases hz : tru t r
  · rw [hz] at hx
    exact .inr hx
  · rw [hz] at hx
    exact .inl hx
end Dl

/-! Dl: the match statement: cases of written texts with a captured item. -/
namespace Dl
open PySem L2 PySem.Spec PyProof.Rows
/-- cases met by a subject -/
structure PM (X : Cx) (cases : List MatchCase) (m : V → TS) : Prop where
  run : ∀ (pins : List (Addr × Obj)) (s : Shared) (σ : L2.St) (H : Hp) (D : Ends) (x : V) (v : Value) (first : Bool), Inv X pins σ H s → RelV x v → m x D σ H → wpAny (model X.prog X.w) X.A (matchCases cases X.env v first) (SP X pins D) X.xe s
section
variable {X : Cx} {cases rest : List MatchCase} {m u : V → TS} {body : List Stmt} {t : TS}
theorem pm_match {e : Expr} {te : TE} {pos : Pos} (he : PE X e te) (h : PM X cases m) : PS X (.Match e cases pos) (fun D σ H => te σ H fun x H1 => m x D σ H1) := ⟨fun pins s σ H D I q =>
  wpAny_Match (thn (he.run pins s σ H _ I q) fun v s1 ⟨x, H1, I1, r1, q1⟩ => h.run pins s1 σ H1 D x v true I1 r1 q1)⟩
theorem pm_wild {p : Pos} (hb : PSs X body t) : PM X (⟨.MatchAs none none p, none, body⟩ :: rest) (fun _ => t) := ⟨fun pins s σ H D x v first I r q => by
  refine wpAny_matchCases_cons (wpAny_matchPattern_Capture ?_)
  exact wpAny_assignInOrder_none (hb.run pins s σ H D I q)⟩
theorem pat_str {z s0 : Str} {t0 : Tok} {j} {p1 p2 : Pos} {pins : List (Addr × Obj)} {s : Shared} {σ : L2.St} {H : Hp} {Q : Option (List (Str × Value)) → Shared → Prop} (I : Inv X pins σ H s)
    (h : ∀ s', Inv X pins σ H s' → if s0 = z then Q (some []) s' else Q none s') : wpAny (model X.prog X.w) X.A (matchPattern (.MatchValue (.Constant (.str z) j p1) p2) X.env (.str s0 t0)) Q X.xe s := by
  refine wpAny_matchPattern_Value (thn ((pe_str (X := X) (x := z) (j := j) (pos := p1)).run pins s σ H (fun v H1 => v = .str z ∧ H1 = H) I ⟨rfl, rfl⟩) ?_)
  rintro x s1 ⟨v1, H1, I1, r1, rfl, rfl⟩
  refine thn (op_eq (X := X) pins s1 σ H1 (.str s0) (.str z) (.str s0 t0) x (fun v H2 => v = .bl (decide (s0 = z)) ∧ H2 = H1) I1 ⟨t0, rfl⟩ r1 ⟨rfl, by rw [show decide (V.str s0 = V.str z) = decide (s0 = z) from decide_eq_decide.mpr (by simp)], rfl⟩) ?_
  rintro c s2 ⟨v2, H2, I2, r2, rfl, rfl⟩
  cases r2
  refine wpAny_pure ?_
  have := h s2 I2
  by_cases q : s0 = z
  · rw [if_pos q] at this
    rw [decide_eq_true q]
    exact this
  · rw [if_neg q] at this
    rw [decide_eq_false q]
    exact this
/-- a pair: a written text, an item captured -/
def tCase2 (z : Str) (i : Nat) (t : TS) (u : V → TS) : V → TS := fun x D σ H => ∃ (a : Addr) (xs : List V), x = .ref a ∧ SqT X.K H a xs ∧
  ((xs.length ≠ 2 ∧ u x D σ H) ∨ ∃ (s0 : Str) (y : V), xs = [.str s0, y] ∧ ((s0 = z ∧ t D (σ.set i (some y)) H) ∨ (s0 ≠ z ∧ u x D σ H)))
theorem pm_case2 {z nm : Str} {i : Nat} {j : Nat} {p1 p2 p3 p4 : Pos} (hc : X.calm = true) (hN : X.N.Nodup) (hi : X.N[i]? = some nm) (hx : Loc X.env.scope nm) (hb : PSs X body t) (hu : PM X rest u) (hf : X.fn nm = true ∨ X.env.scope.names.lookup nm = some .local := by first | exact .inl rfl | exact .inr rfl | assumption) :
    PM X (⟨.MatchSequence [.MatchValue (.Constant (.str z) j p1) p2, .MatchAs none (some nm) p3] p4, none, body⟩ :: rest) (tCase2 (X := X) z i t u) := ⟨fun pins s σ H D x v first I r q => by
  obtain ⟨a, xs, rfl, hq, q⟩ := q
  cases r
  obtain ⟨its, rv, p, hz⟩ := I.tuple hq
  have hl := rv.length
  have hfit : ((its.toArray.size : Nat) : Int) < 2 ^ 63 := by
    have : xs.length ≤ sizeLine := hz
    rw [List.size_toArray, ← hl]
    have e := sizeLine_eq
    omega
  rcases q with ⟨h2, q⟩ | ⟨s0, y, rfl, q⟩
  · refine wpAny_matchCases_cons (matchSeq_tuple_miss p hfit (by rw [List.size_toArray, ← hl]; exact h2) ?_)
    exact hu.run pins _ σ H D (.ref a) _ false (I.kept (h' := s.heap) fun b o e => e) rfl q
  · obtain ⟨v1, v2, rfl, ⟨t0, rfl⟩, r2⟩ := vals2 rv
    refine wpAny_matchCases_cons (matchSeq_tuple_hit p hfit rfl ?_)
    refine unpackItems_tuple (items := #[.str s0 t0, v2]) (I.ok.hd hc) p fun h' eb => ?_
    have I1 : Inv X pins σ H { s with heap := h', toks := s.toks + 1 + 1 } := I.kept fun b o e => eb b o (Nat.ne_of_lt (Heap.lt_size e)) e
    refine wpAny_matchEach_cons (pat_str I1 fun s1 I2 => ?_)
    rcases q with ⟨e, q⟩ | ⟨e, q⟩
    · rw [if_pos e]
      refine wpAny_matchEach_cons (wpAny_matchPattern_Capture (wpAny_matchEach_nil ?_))
      refine wpAny_assignInOrder_more (wpAny_bindName (store_ok I2 hN hi hx r2 (fun s3 I3 => ?_) hf))
      exact wpAny_assignInOrder_none (hb.run pins s3 _ H D I3 q)
    · rw [if_neg e]
      exact hu.run pins _ σ H D (.ref a) _ false I2 rfl q⟩
/-- a written text alone -/
def tCase1 (z : Str) (t : TS) (u : V → TS) : V → TS := fun x D σ H => ∃ (a : Addr) (xs : List V), x = .ref a ∧ SqT X.K H a xs ∧
  ((xs.length ≠ 1 ∧ u x D σ H) ∨ ∃ (s0 : Str), xs = [.str s0] ∧ ((s0 = z ∧ t D σ H) ∨ (s0 ≠ z ∧ u x D σ H)))
theorem pm_case1 {z : Str} {j : Nat} {p1 p2 p4 : Pos} (hc : X.calm = true) (hb : PSs X body t) (hu : PM X rest u) :
    PM X (⟨.MatchSequence [.MatchValue (.Constant (.str z) j p1) p2] p4, none, body⟩ :: rest) (tCase1 (X := X) z t u) := ⟨fun pins s σ H D x v first I r q => by
  obtain ⟨a, xs, rfl, hq, q⟩ := q
  cases r
  obtain ⟨its, rv, p, hz⟩ := I.tuple hq
  have hl := rv.length
  have hfit : ((its.toArray.size : Nat) : Int) < 2 ^ 63 := by
    have : xs.length ≤ sizeLine := hz
    rw [List.size_toArray, ← hl]
    have e := sizeLine_eq
    omega
  rcases q with ⟨h2, q⟩ | ⟨s0, rfl, q⟩
  · refine wpAny_matchCases_cons (matchSeq_tuple_miss p hfit (by rw [List.size_toArray, ← hl]; exact h2) ?_)
    exact hu.run pins _ σ H D (.ref a) _ false (I.kept (h' := s.heap) fun b o e => e) rfl q
  · obtain ⟨v1, rfl, ⟨t0, rfl⟩⟩ := vals1 rv
    refine wpAny_matchCases_cons (matchSeq_tuple_hit p hfit rfl ?_)
    refine unpackItems_tuple (items := #[.str s0 t0]) (I.ok.hd hc) p fun h' eb => ?_
    have I1 : Inv X pins σ H { s with heap := h', toks := s.toks + 1 + 1 } := I.kept fun b o e => eb b o (Nat.ne_of_lt (Heap.lt_size e)) e
    refine wpAny_matchEach_cons (pat_str I1 fun s1 I2 => ?_)
    rcases q with ⟨e, q⟩ | ⟨e, q⟩
    · rw [if_pos e]
      refine wpAny_matchEach_nil ?_
      exact wpAny_assignInOrder_none (hb.run pins s1 _ H D I2 q)
    · rw [if_neg e]
      exact hu.run pins _ σ H D (.ref a) _ false I2 rfl q⟩
end
/-! at the level of data: the subject is frozen data -/
abbrev DM := D → DSt
def liftM (K : PySem.W.Frag) (m : DM) : V → TS := fun x D σ H => ∃ c F δ E d, StOk K c F σ H δ ∧ Rep K F d x ∧ m d E δ ∧ Leads K c F E D
def sMatch (r : DV) (m : DM) : DSt := fun E δ => r δ fun w δ1 => match w with
  | .val d => m d E δ1
  | .slot _ => False
def mWild (t : DSt) : DM := fun _ => t
/-- a pair that begins with the text, its second item in the slot -/
def mCase2 (z : Str) (i : Nat) (t : DSt) (u : DM) : DM := fun d E δ => match d with
  | .tup ds => (ds.length ≠ 2 ∧ u (.tup ds) E δ) ∨ ∃ s0 d1, ds = [.str s0, d1] ∧ ((s0 = z ∧ okSet δ i = true ∧ t E (ss δ i (.frz d1))) ∨ (s0 ≠ z ∧ u (.tup ds) E δ))
  | _ => False
def mCase1 (z : Str) (t : DSt) (u : DM) : DM := fun d E δ => match d with
  | .tup ds => (ds.length ≠ 1 ∧ u (.tup ds) E δ) ∨ ∃ s0, ds = [.str s0] ∧ ((s0 = z ∧ t E δ) ∨ (s0 ≠ z ∧ u (.tup ds) E δ))
  | _ => False
section
variable {X : Cx} {cases rest : List MatchCase} {body : List Stmt} {t : DSt} {u m : DM}
theorem pm_wk {m m' : V → TS} (h : PM X cases m) (k : ∀ x D σ H, m' x D σ H → m x D σ H) : PM X cases m' := ⟨fun pins s σ H D x v first I r q => h.run pins s σ H D x v first I r (k x D σ H q)⟩
theorem s_match {e : Expr} {ra : DV} {pos : Pos} (he : PE X e (liftV X.K ra)) (h : PM X cases (liftM X.K m)) : PS X (.Match e cases pos) (liftS X.K (sMatch ra m)) := ps_wk (pm_match he h) fun D σ H ⟨c, F, δ, E, S, h, L⟩ =>
  ⟨c, F, δ, _, S, h, fun w δ1 h1 v F1 H1 e1 S1 r1 => by
    cases w with
    | slot j => exact h1.elim
    | val d => exact ⟨c, F1, δ1, E, d, S1, r1, h1, L.mono e1⟩⟩
theorem m_wild {p : Pos} (hb : PSs X body (liftS X.K t)) : PM X (⟨.MatchAs none none p, none, body⟩ :: rest) (liftM X.K (mWild t)) := pm_wk (pm_wild hb) fun x D σ H ⟨c, F, δ, E, d, S, r, h, L⟩ => ⟨c, F, δ, E, S, h, L⟩
theorem m_case2 {z nm : Str} {i : Nat} {j : Nat} {p1 p2 p3 p4 : Pos} (hc : X.calm = true) (hN : X.N.Nodup) (hi : X.N[i]? = some nm) (hx : Loc X.env.scope nm) (hb : PSs X body (liftS X.K t)) (hu : PM X rest (liftM X.K u)) (hf : X.fn nm = true ∨ X.env.scope.names.lookup nm = some .local := by first | exact .inl rfl | exact .inr rfl | assumption) :
    PM X (⟨.MatchSequence [.MatchValue (.Constant (.str z) j p1) p2, .MatchAs none (some nm) p3] p4, none, body⟩ :: rest) (liftM X.K (mCase2 z i t u)) := pm_wk (pm_case2 hc hN hi hx hb hu hf) fun x D σ H ⟨c, F, δ, E, d, S, r, h, L⟩ => by
  cases d with
  | tup ds =>
    have r0 := r
    simp only [Rep] at r
    obtain ⟨a, vs, rfl, g1, g2⟩ := r
    refine ⟨a, vs, rfl, same_t S.sub g1, ?_⟩
    rcases h with ⟨h1, h2⟩ | ⟨s0, d1, rfl, h⟩
    · exact .inl ⟨by rw [g2.len]; exact h1, c, F, δ, E, _, S, r0, h2, L⟩
    · obtain ⟨v1, w1, rfl, i1, h6⟩ := g2.uncons
      obtain ⟨v2, w2, rfl, i2, h7⟩ := h6.uncons
      obtain rfl := h7.unnil
      have e1 : v1 = .str s0 := by simpa only [Rep] using i1
      subst e1
      refine .inr ⟨s0, v2, rfl, ?_⟩
      rcases h with ⟨e, h3, h4⟩ | ⟨e, h4⟩
      · rw [ss_eq] at h4
        exact .inl ⟨e, c, F, _, E, S.asg (okSet_io h3) i2, h4, L⟩
      · exact .inr ⟨e, c, F, δ, E, _, S, r0, h4, L⟩
  | _ => exact h.elim
theorem m_case1 {z : Str} {j : Nat} {p1 p2 p4 : Pos} (hc : X.calm = true) (hb : PSs X body (liftS X.K t)) (hu : PM X rest (liftM X.K u)) :
    PM X (⟨.MatchSequence [.MatchValue (.Constant (.str z) j p1) p2] p4, none, body⟩ :: rest) (liftM X.K (mCase1 z t u)) := pm_wk (pm_case1 hc hb hu) fun x D σ H ⟨c, F, δ, E, d, S, r, h, L⟩ => by
  cases d with
  | tup ds =>
    have r0 := r
    simp only [Rep] at r
    obtain ⟨a, vs, rfl, g1, g2⟩ := r
    refine ⟨a, vs, rfl, same_t S.sub g1, ?_⟩
    rcases h with ⟨h1, h2⟩ | ⟨s0, rfl, h⟩
    · exact .inl ⟨by rw [g2.len]; exact h1, c, F, δ, E, _, S, r0, h2, L⟩
    · obtain ⟨v1, w1, rfl, i1, h6⟩ := g2.uncons
      obtain rfl := h6.unnil
      have e1 : v1 = .str s0 := by simpa only [Rep] using i1
      subst e1
      refine .inr ⟨s0, rfl, ?_⟩
      rcases h with ⟨e, h4⟩ | ⟨e, h4⟩
      · exact .inl ⟨e, c, F, δ, E, S, h4, L⟩
      · exact .inr ⟨e, c, F, δ, E, _, S, r0, h4, L⟩
  | _ => exact h.elim
end
end Dl

/-! Dl: sorted(range(n), key=lambda at: (-xs[at], at)): the lambda is made (its code object stands in the def's table), called for each item, the new list is sorted. -/
namespace Dl
open PySem L2 PySem.Spec PyProof.Rows PySem.W
/-- the lambda's body -/
abbrev lamB (x at_ : Str) (k : Nat) (p1 p2 p3 p4 p5 p6 : Pos) : Expr := .Tuple [.UnaryOp .USub (.Subscript (.Name x p1) (.Name at_ p2) p3) p4, .Name at_ p5] k p6
structure LamOk (scope : Scope) (x at_ : Str) : Prop where
  kind : scope.kind = .function
  co : scope.isCoroutine = false
  gen : scope.isGenerator = false
  noc : ∀ y ∈ scope.names, y.2 ≠ .cell
  la : scope.names.lookup at_ = some .local
  lx : scope.names.lookup x = some .free
/-- a call of the lambda -/
theorem lam_turn {prog : Program} {w : World} {A : Around} {s : Shared} {f c c' : Addr} {qual : Str} {params : Arguments} {scope : Scope} {cl : List (Str × Addr)} {pm ctv : Value} {r : Addr} {items : Array Value} {x at_ : Str} {k : Nat} {p1 p2 p3 p4 p5 p6 : Pos} {i n : Int} {t tn : Tok}
    (L : LamOk scope x at_) (ho : s.heap.get? f = some (kla_obj "<lambda>" qual params (lamB x at_ k p1 p2 p3 p4 p5 p6) scope cl pm c' ctv)) (hcd : s.heap.CodeRec (.ref c') qual)
    (hbind : bindArgs (kla_fn "<lambda>" qual params (lamB x at_ k p1 p2 p3 p4 p5 p6) scope cl pm (.ref c') ctv) ⟨[.int i t], []⟩ = pure [(at_, .int i t)])
    (hcl : cl.lookup x = some c) (hc : s.heap.IsCell c (some (.ref r))) (hr : s.heap.IsList r items) (h0 : 0 ≤ i) (hf : i < 2 ^ 63) (hi : items[i.toNat]? = some (.int n tn)) (hroom : A.depth < recursionLimit) (lim : s.heap.NoLimit)
    (d1 : (x == ("__debug__" : Str)) = false) (d2 : (at_ == ("__debug__" : Str)) = false) (d3 : (x == ("__classdict__" : Str)) = false) :
    wpAny (model prog w) A (call (.ref f) [.int i t]) (KeyPure (.tuple [.int (-n), .int i]) s) (fun _ _ => False) s := by
  refine wpAny_call ?_
  refine kla_callFunE hroom ho rfl L.co L.gen rfl hcd ?_
  rw [hbind]
  refine wpAny_pure (wpAny_newFunctionEnv L.noc (fun y hy => by rw [List.mem_singleton.mp hy]; exact L.la) (fun h₁ hns hsb => ⟨lim.fresh _ hsb, ?_⟩) L.kind)
  show codeAny _ _ (.expr (lamB x at_ k p1 p2 p3 p4 p5 p6) (envX qual scope s.heap.objs.size f (.ref c') cl)) _ _
  have kp : ∀ b o, s.heap.get? b = some o → h₁.get? b = some o := fun b o e => hsb.extBut b o (Nat.ne_of_lt (Heap.lt_size e)) (Heap.get?_push_of_some _ e)
  have hm : ([(at_, Value.int i t)] : List (Str × Value)).reverse.lookup at_ = some (.int i t) := by simp
  have lat : ∀ {A' : Around} {E' : Value → Shared → Prop} {Q : Value → Shared → Prop} {p : Pos} {tk : Nat}, Q (.int i t) { s with heap := h₁, toks := tk } → wpAny (model prog w) A' (eval (.Name at_ p) (envX qual scope s.heap.objs.size f (.ref c') cl)) Q E' { s with heap := h₁, toks := tk } := fun {A' E' Q p tk} q =>
    wpAny_Name (wpAny_loadName_local (env := envX qual scope s.heap.objs.size f (.ref c') cl) L.kind L.la hns hm q) d2
  refine kla_codeExpr ?_
  refine wpAny_Tuple_spliced ?_
  refine Calls.spliced_cons (UnaryOp_ (Subscript_ ?_))
  refine wpAny_Name (wpAny_loadName_free (env := envX qual scope s.heap.objs.size f (.ref c') cl) (c := c) L.kind L.lx hcl (hc.keeps kp) ?_ d3) d1
  refine lat ?_
  refine item_listR (let ⟨o, e, z⟩ := hr; ⟨o, kp _ _ e, z⟩) h0 hf hi ?_ rfl
  refine neg_int ?_
  refine Calls.spliced_cons (lat ?_)
  refine Calls.spliced_nil ⟨by show 2 ≤ sizeLine; rw [sizeLine_eq]; omega, ?_⟩
  refine ⟨_, _, rfl, fun b o e => Heap.get?_push_of_some _ (kp b o e), ?_⟩
  exact .tuple (as := []) (Heap.get?_push_size _ rfl) rfl rfl (.cons (as := []) (.int _ _) (.cons (as := []) (.int _ _) .nil))
/-- sorted(range(n), key=f): a new list -/
theorem sorted_key_range {prog : Program} {w : World} {A : Around} {E : Value → Shared → Prop} {s : Shared} {r : Addr} {n : Nat} {t u v : Tok} {f : Value} {kw : List (Str × Value)} {Q : Value → Shared → Prop} (k : Nat → PyData) (hh : A.handled = none) (hr : IsRange s.heap r 0 (n : Int) 1 t u v) (hn : n ≤ 16777216)
    (hal : AllAlike ((List.range n).map k)) (hk : Sortable ((List.range n).map k)) (hu : ∀ x, x ∈ List.range n → A.units + 2 + (k x).depth < cLine)
    (ha1 : argsOk "sorted" ⟨[.ref r], kw⟩) (ha2 : ∀ x, argsOk "list.sort" ⟨[.ref x], kw⟩) (ht : ∀ x, Builtin.«list.sort» ⟨[.ref x], kw⟩ = ksk_tree x f false)
    (turn : ∀ (t : Tok) (i : Nat), i < n → ∀ (h : Heap) (tk : Nat), (∀ b o, s.heap.get? b = some o → h.get? b = some o) →
      wpAny (model prog w) A.in1.in1 (call f [.int (i : Int) t]) (KeyPure (k i) { s with heap := h, toks := tk }) (fun _ _ => False) { s with heap := h, toks := tk })
    (h : ∀ (out : List Value) (g : Heap) (c : Nat) (h' : Heap) (tk : Nat), (∀ b o, s.heap.get? b = some o → g.get? b = some o) → (∀ b o, g.get? b = some o → h'.get? b = some o) → h'.get? g.objs.size = some (seqObj "list" (List.toArray out) c) → EachIs (fun v (i : Nat) => ∃ t, v = .int (i : Int) t) out ((List.range n).mergeSort (dataLe false k)) →
      Q (.ref g.objs.size) { s with heap := h', toks := tk }) :
    wpAny (model prog w) A (call (.builtin "sorted") [.ref r] kw) Q E s := by
  have en : Builtin.Range.rangeSize 0 (n : Int) 1 = (n : Int) := by
    have := rangeSize_nat 0 (n : Int)
    rw [this]
    omega
  refine call_function_entry_kw kind_sorted plain_sorted entry_sorted ha1 ?_
  unfold Builtin.«sorted»
  refine wpAny_bind (m := checkCount "sorted" 1 1 _) (wpAny_pure ?_)
  refine wpAny_bind (collect_range (n := n) hh hr (small_one (by omega) (by omega) (by omega) (by omega)) en (by omega) fun g tk acc kg hi => ?_)
  have hL : acc.toList.length = n := by rw [Array.length_toList]; exact hi.1
  have hZ : acc.toList.length ≤ sizeLine := by rw [hL, sizeLine_eq]; omega
  refine wpAny_bind (wpAny_newList ?_ hZ)
  have hat : (g.push (seqObj "list" acc.toList.toArray 0)).get? g.objs.size = some (seqObj "list" acc.toList.toArray 0) := Heap.get?_push_size _ rfl
  have kp1 : ∀ b o, g.get? b = some o → (g.push (seqObj "list" acc.toList.toArray 0)).get? b = some o := fun b o e => Heap.get?_push_of_some _ e
  have eachI : EachIs (fun v (i : Nat) => ∃ t, v = Value.int (i : Int) t) acc.toList (List.range n) := by
    refine EachIs.of_zip (by rw [hL, List.length_range]) fun p hp => ?_
    obtain ⟨i, hi2⟩ := List.mem_iff_getElem?.mp hp
    rw [List.getElem?_zip_eq_some] at hi2
    obtain ⟨z1, z2⟩ := hi2
    obtain ⟨t, e⟩ := hi.2 i p.1 (by rw [← z1, Array.getElem?_toList])
    obtain ⟨q1, q2⟩ := List.getElem?_eq_some_iff.mp z2
    rw [List.getElem_range] at q2
    exact ⟨t, by rw [e, ← q2]; congr 1; omega⟩
  refine wpAny_bind (wpAny_holding (wpAny_call_entry_kw slot_list_sort ⟨_, hat, rfl⟩ entry_list_sort ?body (ha2 _)))
  case body =>
    rw [ht]
    have up : ∀ {h : Heap}, KeepsBut g.objs.size (g.push (seqObj "list" acc.toList.toArray 0)) h → ∀ b o, s.heap.get? b = some o → h.get? b = some o := fun {h} kq b o q =>
      kq b o (Nat.ne_of_lt (Heap.lt_size (kg b o q))) (kp1 b o (kg b o q))
    refine keyH_tree (kz := (List.range n).map k) (s := { s with heap := g.push (seqObj "list" acc.toList.toArray 0), toks := tk }) hat (by rw [List.length_map, List.length_range, hL]) hZ hal hk (bound_map (A := A.in1.in1) hu)
      (keyH_turns (s := { s with heap := g.push (seqObj "list" acc.toList.toArray 0), toks := tk }) eachI fun v x hR hx h tk kq => ?_) fun h' tk' out c kq hD ko => ⟨_, rfl, wpAny_pure ⟨_, rfl, ?_⟩⟩
    · obtain ⟨t, rfl⟩ := hR
      exact turn t x (List.mem_range.mp hx) h tk (up kq)
    · exact h out g c h' tk' kg (fun b o q => kq b o (Nat.ne_of_lt (Heap.lt_size q)) (kp1 b o q)) hD (keyedOut_each k ko eachI)
section
variable {X : Cx} {pins : List (Addr × Obj)} {σ : L2.St} {H : Hp} {s : Shared}
/-- the lambda is made; all but the table stays -/
theorem lam_mk {c P : Addr} {params : Arguments} {body : Expr} {scope : Scope} {pos : Pos} {E Q : Value → Shared → Prop} (I : Inv X pins σ H s) (TB : LamX.TabB X.base X.mg c P) (hcode : X.env.code = .ref c) (hT : LamX.TabS H P (X.env.qual ++ "<lambda>"))
    (hd : defaultsOf params X.env = ([], [])) (hfree : ∀ y ∈ scope.names, y.2 = .free → ∃ c, X.env.cells.lookup y.1 = some c)
    (k : ∀ (f c' : Addr) (pm ctv : Value) (H1 : Hp) (s' : Shared), Inv X pins σ H1 s' → (∀ b o, b ≠ P → H b = some o → H1 b = some o) → LamX.TabS H1 P (X.env.qual ++ "<lambda>") → (∀ b o, b ≠ P → s.heap.get? b = some o → s'.heap.get? b = some o) →
      s'.heap.get? f = some (kla_obj "<lambda>" (X.env.qual ++ "<lambda>") params body scope (cloFrom X.env.cells scope.names []) pm c' ctv) → s'.heap.CodeRec (.ref c') (X.env.qual ++ "<lambda>") → s'.gens = s.gens ∧ s'.os = s.os → Q (.ref f) s') :
    wpAny (model X.prog X.w) X.A (eval (.Lambda params body scope pos) X.env) Q E s := by
  obtain ⟨ps, tP, tOk, tAm⟩ := hT
  have oP : s.heap.get? P = some (tabObj ps) := I.hok P _ tP
  have bP := TB.bm.keeps I.bk
  refine kla_eval hd ?_
  rcases hcv : codeAmong pos ps.toList with _ | cv
  · refine kla_makeFunction (closure_ok hfree) I.ok.glob (I.mod.glob.keeps I.bk) hcode (TB.code.keeps I.bk) oP tOk hcv TB.gP bP ?_
    intro c' ctv g tk xb lo hi rec tb
    have rec0 := rec
    obtain ⟨_, oc, vs, tt, ec, oC, dC, vC⟩ := rec
    cases ec
    have fC : H c' = none := I.hok.fresh lo
    have pC : P ≠ c' := ne_of_none tP fC
    let ob := kla_obj "<lambda>" (X.env.qual ++ "<lambda>") params body scope (cloFrom X.env.cells scope.names []) ((X.mg "__name__").getD .none) c' ctv
    have up : ∀ b o, g.get? b = some o → (g.push ob).get? b = some o := fun b o e => Heap.get?_push_of_some _ e
    have J := LamX.inv_table (q := X.env.qual ++ "<lambda>") (t' := tk) (h' := g.push ob) I tP (fun b o ne e => up b o (xb b o ne e)) (up _ _ tb) lo ⟨oc, vs, tt, up _ _ oC, dC, vC⟩
    refine k _ c' _ ctv _ _ J (fun b o ne e => ?_) ?_ (fun b o ne e => up b o (xb b o ne e)) (Heap.get?_push_size _ rfl) ⟨c', oc, vs, tt, rfl, up _ _ oC, dC, vC⟩ ⟨rfl, rfl⟩
    · rw [upd_ne (ne_of_none e fC), upd_ne ne]
      exact e
    · have el : (ps ++ #[rawInt pos.line, rawInt pos.col, .ref c']).toList = ps.toList ++ [rawInt pos.line, rawInt pos.col, .ref c'] := by simp
      refine ⟨_, by rw [upd_ne pC, upd_same], ?_, fun p' v' hv' => ?_⟩
      · rw [el]
        exact TriplesOk_snoc _ _ _ _ tOk
      · rw [el] at hv'
        rcases LamX.among_app _ tOk hv' with z | z
        · obtain ⟨c0, z1, z2⟩ := tAm p' v' z
          have n0 : c0 ≠ P := fun e => by
            rw [e, tP] at z2
            cases z2
          exact ⟨c0, z1, by rw [upd_ne (ne_of_none z2 fC), upd_ne n0]; exact z2⟩
        · exact ⟨c', z, upd_same⟩
  · obtain ⟨c', rfl, cO⟩ := tAm pos cv hcv
    refine kla_makeFunctionHit (closure_ok hfree) I.ok.glob (I.mod.glob.keeps I.bk) hcode (TB.code.keeps I.bk) oP tOk hcv bP ?_
    intro ctv g tk kp sz
    have up : ∀ {ob : Obj} b o, s.heap.get? b = some o → (g.push ob).get? b = some o := fun b o e => Heap.get?_push_of_some _ (kp b o e)
    obtain ⟨⟨oc, vs, tt, z1, z2, z3⟩, _, _⟩ := I.hok c' _ cO
    exact k _ c' _ ctv H _ (I.kept up) (fun b o _ e => e) ⟨ps, tP, tOk, tAm⟩ (fun b o _ e => up b o e) (Heap.get?_push_size _ rfl) ⟨c', oc, vs, tt, rfl, up _ _ z1, z2, z3⟩ ⟨rfl, rfl⟩
/-- the places in the order of the sort -/
def ordIx (rs : List Int) : List Nat := (List.range rs.length).mergeSort fun p q => decide (-(rs.getD p 0) < -(rs.getD q 0) ∨ (-(rs.getD p 0) = -(rs.getD q 0) ∧ (p : Int) ≤ (q : Int)))
def tSortLam (P : Addr) (q : Str) (i : Nat) (te : L2.St → Hp → (Int → Int → Hp → Prop) → Prop) : TE := fun σ H Q => te σ H fun a b H1 => LamX.TabS H1 P q ∧ ∃ (l : Addr) (rs : List Int), σ[i]? = some (some (.ref l)) ∧ H1 l = some (.lst (rs.map V.int)) ∧ a = 0 ∧ b = (rs.length : Int) ∧ rs.length ≤ 16777216 ∧
  ∀ H2 p, (∀ b o, b ≠ P → H1 b = some o → H2 b = some o) → LamX.TabS H2 P q → H2 p = none → Q (.ref p) (upd H2 p (.lst ((ordIx rs).map fun (k : Nat) => V.int (k : Int))))
theorem vals_each : ∀ {out : List Value} {js : List Nat}, EachIs (fun v (i : Nat) => ∃ t, v = Value.int (i : Int) t) out js → Vals (js.map fun (k : Nat) => V.int (k : Int)) out
  | _, _, .nil => .nil
  | _, _, .cons ⟨t, h⟩ r => .cons ⟨t, h⟩ (vals_each r)
theorem clo_at {cells : List (Str × Addr)} {names : List (Str × NameKind)} {x : Str} {c : Addr} (h1 : (x, NameKind.free) ∈ names) (h2 : cells.lookup x = some c) : (cloFrom cells names []).lookup x = some c := by
  obtain ⟨c', e⟩ := L2.mem_lookup (cloFrom_has (cells := cells) (acc := []) h1)
  rcases cloFrom_mem (PySem.mem_of_lookup e) with z | ⟨_, z⟩
  · cases z
  · rw [h2] at z
    have z' : c' = c := z
    rw [e, z']
theorem pe_sortLam {c P : Addr} {e : Expr} {te : L2.St → Hp → (Int → Int → Hp → Prop) → Prop} {i : Nat} {x at_ : Str} {k : Nat} {params : Arguments} {scope : Scope} {p p1 p2 p3 p4 p5 p6 p7 p8 pos : Pos} (hc : X.calm = true) (hg : Gl X "sorted") (hm : X.mg "sorted" = none) (hr : Room 1 X.A)
    (TB : LamX.TabB X.base X.mg c P) (hcode : X.env.code = .ref c) (he : PRg X e te) (L : LamOk scope x at_) (hi : X.N[i]? = some x) (hv : X.env.scope.names.lookup x = some .cell) (hfree : ∀ y ∈ scope.names, y.2 = .free → y.1 = x)
    (hd : defaultsOf params X.env = ([], [])) (hbind : ∀ (q : Str) (cl : List (Str × Addr)) (pm cv ctv : Value) (v : Value), bindArgs (kla_fn "<lambda>" q params (lamB x at_ k p1 p2 p3 p4 p5 p6) scope cl pm cv ctv) ⟨[v], []⟩ = pure [(at_, v)])
    (d1 : (x == ("__debug__" : Str)) = false) (d2 : (at_ == ("__debug__" : Str)) = false) (d3 : (x == ("__classdict__" : Str)) = false) (na : starEach [e] X.env = (false, eval e X.env) :: starEach [] X.env := by rfl) :
    PE X (.Call (.Name "sorted" p) [e] [⟨some "key", .Lambda params (lamB x at_ k p1 p2 p3 p4 p5 p6) scope p7, p8⟩] pos) (tSortLam P (X.env.qual ++ "<lambda>") i te) := by
  refine ⟨fun pins s σ H Q I h => ?_⟩
  refine wpAny_Call_Name_kw (ld_blt I hg hm boot_sorted ?_)
  refine PyProof.Rows.callWith_kw (args_cons (thn (he pins s σ H _ I h) fun v s1 ⟨r, a, b, t, u, v', H1, ev, hR, I1, q1⟩ => args_nil ?_) na) (by rw [show backTo pos (starEach [e] X.env) = _ from congrArg (backTo pos) na]; rfl) (by rw [show backTo pos (starEach [e] X.env) = _ from congrArg (backTo pos) na]; rfl)
  subst ev
  obtain ⟨hT, l, rs, hl, hx, rfl, rfl, hn, q1⟩ := q1
  have hfr : ∀ y ∈ scope.names, y.2 = .free → ∃ c, X.env.cells.lookup y.1 = some c := fun y hy e => by
    rw [hfree y hy e]
    exact I.ok.has x (.inl hv)
  refine kwAll_cons (lam_mk I1 TB hcode hT hd hfr fun f c' pm ctv H2 s2 I2 kH T2 kp hf hcd _ => kwAll_nil ?_)
  have hRP : r ≠ P := fun z => by
    obtain ⟨ps, tP, _⟩ := hT
    have oP := I1.hok P _ tP
    have oR : s1.heap.get? r = some _ := hR
    rw [z, oP] at oR
    cases oR
  have hR2 : IsRange s2.heap r 0 (rs.length : Int) 1 t u v' := kp _ _ hRP hR
  have hlP : l ≠ P := fun z => by
    obtain ⟨ps, tP, _⟩ := hT
    rw [z, tP] at hx
    cases hx
  have hx2 := kH _ _ hlP hx
  obtain ⟨m, hns, hloc⟩ := I2.loc
  obtain ⟨w', rw', lk⟩ := hloc i x (.ref l) hi hl (.inr (.inl hv))
  obtain rfl : w' = Value.ref l := rw'
  obtain ⟨cc, hcc, hcell⟩ : ∃ cc, X.env.cells.lookup x = some cc ∧ s2.heap.IsCell cc (some (.ref l)) := by
    rcases lk with ⟨k1, _⟩ | ⟨_, cc, k2, k3⟩
    · have k1' : X.env.scope.names.lookup x = some .local := k1
      rw [hv] at k1'
      cases k1'
    · exact ⟨cc, k2, k3⟩
  obtain ⟨its, nn, rv, ol, hz⟩ := I2.lst hx2
  have hints := rv.ints
  have lim := I2.nolimit
  show wpAny _ _ (call (.builtin "sorted") [.ref r] [(Str.ofString "key", .ref f)]) _ _ _
  refine sorted_key_range (fun j : Nat => PyData.tuple [.int (-(rs.getD j 0)), .int (j : Int)]) (I2.ok.hd hc) hR2 hn (AllAlike.of fun _ _ => by simp [PySem.W.alike, PySem.W.alikeAll]) (Sortable.tuples fun _ => ⟨_, _, rfl⟩) (fun j _ => ?_) (ksk_s1 _ _) (fun _ => ksk_l1 _ _) (fun _ => ksk_t1 _ _) (fun tk0 j hj h tk kh => ?_) fun out g c9 h' tk9 kg kg2 hD eo => ?_
  · have hdep : (PyData.tuple [.int (-(rs.getD j 0)), .int (j : Int)]).depth = 1 := by simp [PyData.depth, PyData.depthAll]
    rw [hdep]
    have := hr.un
    omega
  · obtain ⟨tn, hit⟩ : ∃ tn, its.toArray[j]? = some (.int (rs.getD j 0) tn) := by
      have e0 : (rs.map V.int)[j]? = some (.int (rs.getD j 0)) := by
        rw [List.getElem?_map, List.getElem?_eq_getElem hj, List.getD_eq_getElem?_getD, List.getElem?_eq_getElem hj]
        rfl
      obtain ⟨u, e1, tn, e2⟩ := rv.get e0
      exact ⟨tn, by rw [← e2, ← e1]; simp⟩
    refine lam_turn (s := { s2 with heap := h, toks := tk }) (i := (j : Int)) L (kh _ _ hf) (let ⟨a1, a2, a3, a4, a5, a6, a7, a8⟩ := hcd; ⟨a1, a2, a3, a4, a5, kh _ _ a6, a7, a8⟩) (hbind _ _ _ _ _ _) (clo_at (PySem.mem_of_lookup L.lx) hcc) (hcell.keeps kh) ⟨_, kh _ _ ol, rfl, _, rfl⟩ (by omega) (by omega) hit ?_ (lim.keeps kh) d1 d2 d3
    have := hr.dp
    show X.A.depth < recursionLimit
    omega
  · have I3 : Inv X pins σ H2 { s2 with heap := g, toks := tk9 } := I2.kept kg
    rw [dataLe_ii (β := Nat) (fun j => -(rs.getD j 0)) (fun j => (j : Int))] at eo
    refine ⟨.ref g.objs.size, upd H2 g.objs.size (.lst ((ordIx rs).map fun (k : Nat) => V.int (k : Int))), I3.laid (t' := tk9) kg2 (Nat.le_refl _) ⟨?_, out, c9, ?_, hD⟩, rfl, q1 _ _ kH T2 (I3.hok.fresh (Nat.le_refl _))⟩
    · rw [List.length_map]
      unfold ordIx
      rw [List.length_mergeSort, List.length_range, sizeLine_eq]
      exact hn
    · exact vals_each eo
end
/-! ### at the level of data -/
/-- the table of the def x -/
structure Tab (K : PySem.W.Frag) (mg : Str → Option Value) (base : Heap) (x : Str) : Prop where
  ex : ∃ c P, PySem.W.tabIn K x = some (c, P) ∧ LamX.TabB base mg c P
def kSortLam (i : Nat) (Q : List D → DS → Prop) : Vw → DS → Prop := fun w δ1 => match w, sg δ1 i with
  | .val (.int n), .own _ (.lst ds) => ∃ rs : List Int, ds = rs.map D.int ∧ n = (rs.length : Int) ∧ rs.length ≤ 16777216 ∧ Q ((ordIx rs).map fun (k : Nat) => D.int (k : Int)) δ1
  | _, _ => False
def rSortLam (i : Nat) (ra : DV) : DF := fun δ Q => ra δ (kSortLam i Q)
theorem ltabs_one {K : PySem.W.Frag} {c P : Addr} (h : PySem.W.tabIn K "apportion" = some (c, P)) : LTabs K = [(P, ("apportion" : Str) ++ (".<locals>.<lambda>" : Str))] := by
  unfold LTabs lamDefs
  simp only [List.filterMap_cons, List.filterMap_nil, h, Option.map_some]
theorem StOk.tabbed {K : PySem.W.Frag} {ct : Ct} {F H H2 : Hp} {σ : L2.St} {δ : DS} (S : StOk K ct F σ H δ) {P : Addr} {q : Str} (hP : (P, q) ∈ LTabs K) (e : ∀ b o, b ≠ P → H b = some o → H2 b = some o) (T2 : LamX.Tabs (LTabs K) H2) : StOk K ct F σ H2 δ := by
  have nF : ∀ a o, F a = some o → a ≠ P := fun a o h z => by
    rw [z, S.tt.tf _ hP] at h
    cases h
  refine ⟨S.sub0, fun a o h => e a o (nF a o h) (S.sub a o h), fun a o h => ?_, S.len, fun j s o h1 h2 => ?_, S.dis, S.io, ⟨T2, S.tt.tf⟩, S.tz⟩
  · obtain ⟨h1, h2⟩ := S.fz a o h
    refine ⟨e a o (fun z => ?_) h1, h2⟩
    rw [z, S.tz _ hP] at h
    cases h
  · have q0 := S.sl j s o h1 h2
    cases s with
    | no => trivial
    | frz d => exact q0
    | own io x =>
      obtain ⟨l, ho, k1, k2, k3, k4, k5⟩ := q0
      exact ⟨l, ho, k1, k2, k3, e l ho (fun z => S.tt.nt hP (by rw [← z]; exact k4) k5.nt) k4, k5⟩
section
variable {X : Cx} {ra : DV} {i : Nat}
theorem lam_sound {P : Addr} {q : Str} (hP : LTabs X.K = [(P, q)]) : ∀ σ H Q, liftF X.K (rSortLam i ra) σ H Q → tSortLam P q i (tRg1 (liftV X.K ra)) σ H Q := fun σ H Q ⟨ct, F, δ, Pd, S, h, k⟩ => ⟨ct, F, δ, _, S, h, fun w δ1 h1 v F1 H1 e1 S1 r1 => by
  have hmem : (P, q) ∈ LTabs X.K := by rw [hP]; exact List.mem_singleton_self _
  unfold kSortLam at h1
  split at h1
  · next n io ds heq =>
    obtain ⟨rs, rfl, rfl, hn, hq⟩ := h1
    obtain ⟨l, ho, k1, k2, k3, k4, vs, rfl, k5⟩ := S1.own (sg_at heq (by intro z; cases z))
    refine ⟨_, int_of r1, S1.tt.tb _ hmem, l, rs, k1, by rw [k4, k5.ints], rfl, rfl, hn, fun H2 p kH T2 hp => ?_⟩
    have S2 := S1.tabbed hmem kH (by rw [hP]; exact fun z hz => by rw [List.mem_singleton.mp hz]; exact T2)
    obtain ⟨S3, fr⟩ := S2.fresh (o := .lst ((ordIx rs).map fun (k : Nat) => V.int (k : Int))) hp
    refine k _ _ hq p _ F1 _ e1 S3 fr upd_same ?_
    have z := Reps.of_ints (K := X.K) (F := F1) ((ordIx rs).map fun (k : Nat) => (k : Int))
    rw [List.map_map, List.map_map] at z
    exact z
  · exact h1.elim⟩
theorem lam_qual : (("apportion" : Str) ++ (".<locals>." : Str)) ++ ("<lambda>" : Str) = ("apportion" : Str) ++ (".<locals>.<lambda>" : Str) := by decide +kernel
theorem e_sortLam {a : Expr} {x at_ : Str} {k : Nat} {params : Arguments} {scope : Scope} {p p1 p2 p3 p4 p5 p6 p7 p8 pr ps pos : Pos} (T : Tab X.K X.mg X.base "apportion") (hcode : ∀ c P, PySem.W.tabIn X.K "apportion" = some (c, P) → X.env.code = .ref c) (hq : X.env.qual ++ "<lambda>" = ("apportion" : Str) ++ (".<locals>.<lambda>" : Str))
    (hc : X.calm = true) (hg : Gl X "sorted") (hm : X.mg "sorted" = none) (hg2 : Gl X "range") (hm2 : X.mg "range" = none) (hr : Room 1 X.A) (ha : PE X a (liftV X.K ra)) (L : LamOk scope x at_) (hi : X.N[i]? = some x) (hv : X.env.scope.names.lookup x = some .cell) (hfree : ∀ y ∈ scope.names, y.2 = .free → y.1 = x)
    (hd : defaultsOf params X.env = ([], [])) (hbind : ∀ (q : Str) (cl : List (Str × Addr)) (pm cv ctv : Value) (v : Value), bindArgs (kla_fn "<lambda>" q params (lamB x at_ k p1 p2 p3 p4 p5 p6) scope cl pm cv ctv) ⟨[v], []⟩ = pure [(at_, v)])
    (d1 : (x == ("__debug__" : Str)) = false) (d2 : (at_ == ("__debug__" : Str)) = false) (d3 : (x == ("__classdict__" : Str)) = false) (na : starEach [a] X.env = (false, eval a X.env) :: starEach [] X.env := by rfl) :
    PE X (.Call (.Name "sorted" p) [.Call (.Name "range" pr) [a] [] ps] [⟨some "key", .Lambda params (lamB x at_ k p1 p2 p3 p4 p5 p6) scope p7, p8⟩] pos) (liftF X.K (rSortLam i ra)) := by
  obtain ⟨c, P, ht, TB⟩ := T.ex
  have h1 := pe_sortLam (P := P) (p := p) (p1 := p1) (p2 := p2) (p3 := p3) (p4 := p4) (p5 := p5) (p6 := p6) (p7 := p7) (p8 := p8) (pos := pos) (k := k) hc hg hm hr TB (hcode c P ht) (prg_1 (p := pr) (pos := ps) hg2 hm2 ha na) L hi hv hfree hd hbind d1 d2 d3 rfl
  rw [hq] at h1
  exact pe_wk h1 (lam_sound (ltabs_one ht))
theorem ev_sortLam {δ : DS} {Q : List D → DS → Prop} : rSortLam i ra δ Q = ra δ (kSortLam i Q) := rfl
end
section
variable {P : Program} {w : World} {mg : Str → Option Value} {K : PySem.W.Frag} {base : Heap}
/-- the def's code object is the one of the table -/
theorem code_of {x : Str} {st : Stmt} {f c Pt : Addr} {oc : Value} {od an : Option Addr} {osl : Array (Option Value)} {kV doc pm cdv ct : Value} (a : PySem.W.nsIn K mainGlobals x = some (some (.ref f)))
    (l : K.lookup f = some ⟨oc, od, .func (PySem.W.fnOf x x (defArgs st) (defBody st) (defScope st) .none kV doc pm an cdv ct), osl⟩) (h : PySem.W.tabIn K x = some (c, Pt)) : cdv = .ref c := by
  unfold PySem.W.tabIn at h
  rw [a] at h
  simp only [l] at h
  cases cdv with
  | ref c' =>
    simp only at h
    split at h
    · split at h
      · cases h
        rfl
      · cases h
    · cases h
  | _ => simp at h
theorem cal_mkT {x : Str} {st : Stmt} {N ps : List Str} {k : Nat} {S : DSp} {h : Heap} (X : K.In h) (G : h.Ns mainGlobals mg) (d : Df K x st) (Sc : FnScope N ps (defScope st)) (r : DSt)
    (hb : ∀ (kV doc pm : Value) (an : Option Addr) (cdv ct : Value) (us : List Value), us.length = ps.length → bindArgs (PySem.W.fnOf x x (defArgs st) (defBody st) (defScope st) .none kV doc pm an cdv ct) ⟨us, []⟩ = pure (ps.zip us))
    (der : ∀ (f : Addr) (cdv : Value), (∀ c Pt, PySem.W.tabIn K x = some (c, Pt) → cdv = .ref c) → ∀ (A : Around) (outer : List Env) (s : Shared) (H : Hp) (E : XK), Room k (A.deeper (envOfC x (defScope st) s.heap.objs.size f cdv)) → PSs (cxOf CX0 P w K mg base N x (defScope st) f cdv A outer s H E).nox (defBody st) (liftS K r))
    (hbody : ∀ as P, as.length = ps.length → S as P → r { nx := fun δ => P (.v .non) (outsOf 0 as δ), rt := fun rt δ => P rt (outsOf 0 as δ) } (startD N.length as)) : Cal P w K mg base (k + 1) x ps S := by
  obtain ⟨f, oc, od, an, osl, kV, doc, pm, cdv, ct, a, l, c, kp⟩ := d.ex
  have F := fun_mk (st := st) l c kp
  exact ⟨f, _, fn_d F Sc r (fun cdv' e => der f cdv' fun c Pt h => by rw [← e]; exact code_of a l h) hbody, PySem.W.mg_of X G a, kp, F.binds hb⟩
end
/-- the law's end, with the def that makes the lambda -/
theorem law_endT {P : Program} {w : World} {K : PySem.W.Frag} {mg : Str → Option Value} {k : Nat} {st : Stmt} {h : Heap} {N : List Str} {r : DSt} {fa : Addr} (X : K.In h) (G : h.Ns mainGlobals mg) (d : Df K "law" st) (hfa : mg "law" = some (.ref fa)) (Sc : FnScope N ["script"] (defScope st))
    (hb : ∀ (kV doc pm : Value) (an : Option Addr) (cdv ct : Value) (s : Shared) (v : Value), BindsTo s (PySem.W.fnOf "law" "law" (defArgs st) (defBody st) (defScope st) .none kV doc pm an cdv ct) ⟨[v], []⟩ [("script", v)])
    (der : ∀ (base : Heap), K.In base → base.Ns mainGlobals mg → Tab K mg base "apportion" → ∀ (f : Addr) (cdv : Value) (A : Around) (outer : List Env) (s : Shared) (H : Hp) (E : XK), Room k (A.deeper (envOfC "law" (defScope st) s.heap.objs.size f cdv)) → PSs (cxOf CX0 P w K mg base N "law" (defScope st) f cdv A outer s H E).nox (defBody st) (liftS K r))
    (hbody : ∀ as P, as.length = ["script"].length → S_law as P → r { nx := fun δ => P (.v .non) (outsOf 0 as δ), rt := fun rt δ => P rt (outsOf 0 as δ) } (startD N.length as)) :
    ∃ fd : FuncData, (∀ (s : Shared) (u : Value), BindsTo s fd ⟨[u], []⟩ [("script", u)]) ∧ ∀ base : Heap, K.In base → base.Ns mainGlobals mg → Tab K mg base "apportion" → FnOk P w K mg base CX0 (k + 1) fa fd ["script"] (spD K 1 S_law) := by
  obtain ⟨f, oc, od, an, osl, kV, doc, pm, cdv, ct, a, l, c, kp⟩ := d.ex
  have e := hfa.symm.trans (PySem.W.mg_of X G a)
  cases e
  exact ⟨_, fun s u => hb kV doc pm an cdv ct s u, fun base kb gb tb => fn_d (fun_mk (st := st) l c kp) Sc r (fun cdv _ => der base kb gb tb fa cdv) hbody⟩
theorem tab_mk {K : PySem.W.Frag} {x : Str} {f c P : Addr} {oc oc2 : Value} {od od2 : Option Addr} {osl osl2 : Array (Option Value)} {fd : FuncData} {vs : Array Value} (a : PySem.W.nsIn K mainGlobals x = some (some (.ref f))) (l : K.lookup f = some ⟨oc, od, .func fd, osl⟩) (hc : fd.code = .ref c) (lc : K.lookup c = some ⟨oc2, od2, .fields vs, osl2⟩) (hP : (vs[11]? : Option Value) = some (.ref P)) : PySem.W.tabIn K x = some (c, P) := by
  unfold PySem.W.tabIn
  rw [a]
  simp only [l, hc, lc, hP]
theorem walkT {l : PySem.W.OpenLaw} {q : Program} {loose : List Str} {XP : (Str → Option Value) → Heap → Prop} {YP : World → Heap → Prop} {d : DefRec} {K : Params → PySem.W.Frag} {k : Nat} {cA PA : Addr} (hk : k ≤ 100) (hT : ∀ w : World, PySem.W.tabIn (K w.params) "apportion" = some (cA, PA)) (hN : ∀ w : World, (K w.params).lookup PA = none) (hC : ∀ w : World, PySem.W.codeHdIn (K w.params) cA PA = true) (hP : ∀ (w : World) (hp : Heap), YP w hp → hp.get? PA = some (PySem.W.tabObj #[]))
    (hn : l.most = some 63) (hdf : d.params.defaults = []) (hY : ∀ (wd : World) (hp : Heap), YP wd hp → (K wd.params).In hp)
    (F : ∀ (w : World) (mg : Str → Option Value) (fa : Addr) (hp : Heap), (K w.params).In hp → hp.Ns mainGlobals mg → mg d.name = some (.ref fa) →
      ∃ fd : FuncData, (∀ (s : Shared) (u : Value), BindsTo s fd ⟨[u], []⟩ [("script", u)]) ∧ ∀ base : Heap, (K w.params).In base → base.Ns mainGlobals mg → Tab (K w.params) mg base "apportion" → FnOk l.prog w (K w.params) mg base CX0 k fa fd ["script"] (spD (K w.params) 1 S_law)) :
    PySem.W.WalkO q loose XP YP l.row.toRowW d [] (fun g us => PySem.call g us) := by
  refine Att.attach_callB hn hdf fun w s₀ s₁ mg mb fa o pm cd doc a vs ns G Y ho hd hcd hmg hobj hints hlen hbits hg => ?_
  have KX := hY w _ Y
  obtain ⟨fd, hb, hF⟩ := F w mg fa _ KX G.T.g hmg
  have hC := PySem.W.codeHd_of_K KX (hC w)
  have hP := hP w _ Y
  have one : ∀ {p : Addr × Addr}, p ∈ [(cA, PA)] → p = (cA, PA) := fun hp => List.mem_singleton.mp hp
  refine LamX.law_callTs (cs := [(cA, PA)]) (sp := spD (K w.params) 1 S_law) KX G.T.g G.T.b G.T.builtins G.T.nolimit hg (fun p hp => by rw [one hp]; exact hP) (fun p hp => by rw [one hp]; exact hN w) (fun p hp => by rw [one hp]; exact hC) G.T.bmain hobj hints
    (Nat.le_trans hlen (by decide)) (Room.mono (k := 100) ⟨rfl, by decide, by decide⟩ hk) (fun base kb gb tb => hF base kb gb ⟨_, _, hT w, tb (cA, PA) (List.mem_singleton_self _)⟩) hb (fun H hH hS => ?_) fun _ _ _ z => z
  have hPA : H PA = some (.tbl #[]) := hH (cA, PA) (List.mem_singleton_self _)
  have sm : Same (fun b => if b = PA then none else H b) H := fun b o e => by
    have e' : (if b = PA then none else H b) = some o := e
    split at e'
    · cases e'
    · exact e'
  have keep : ∀ b o, (∀ ps, o ≠ .tbl ps) → H b = some o → (fun b => if b = PA then none else H b) b = some o := fun b o n e => by
    show (if b = PA then none else H b) = some o
    rw [if_neg fun z => ?_]
    · exact e
    · rw [z, hPA] at e
      cases e
      exact n _ rfl
  have hS2 : SqL (K w.params) (fun b => if b = PA then none else H b) a (ns.map V.int) := by
    rcases hS with (h | ⟨o, h⟩) | h
    · exact Or.inl (Or.inl (keep _ _ (fun _ z => by cases z) h))
    · exact Or.inl (Or.inr ⟨o, keep _ _ (fun _ z => by cases z) h⟩)
    · exact Or.inr h
  have hL := ltabs_one (hT w)
  refine ⟨fun b => if b = PA then none else H b, [.val (.rol (ns.map D.int))], [], fun r outs => r = .v (.bl true), rfl, sm, .val (by simp only [Rep]; exact ⟨a, _, rfl, hS2, Reps.of_ints ns⟩) .nil, List.nodup_nil, ⟨?_, ?_⟩, ⟨ns, rfl, hlen, rfl⟩, fun r outs hr v F' H' _ _ _ _ _ rr => ?_⟩
  · rw [hL]
    intro p hp
    rw [List.mem_singleton.mp hp]
    exact LamX.TabS.nil hPA
  · rw [hL]
    intro p hp
    rw [List.mem_singleton.mp hp]
    exact if_pos rfl
  · subst hr
    have : Rep (K w.params) F' (.bl true) v := rr
    simpa only [Rep] using this
end Dl

/-! Dl: tuple * n, for n = 0 and n = 1 too. -/
namespace Dl
open PySem L2 PySem.Spec PyProof.Rows
abbrev tpo (dd : Option Addr) (sl : Array (Option Value)) (items : Array Value) (n : Nat) : Obj := { cls := .type "tuple", dict := dd, data := .seq items n, slots := sl }
theorem tmul_one (l : Addr) (items : Array Value) (n : Nat) (dd : Option Addr) (sl : Array (Option Value)) (u : Tok) :
    Meets (Builtin.«tuple.__mul__» ⟨[.ref l, .int 1 u], []⟩) (fun _ R s => s.heap.get? l = some (tpo dd sl items n) ∧ R (.ok (.ret (Value.ref l))) s) :=
  .of_wp fun prog w A R s h => by
    obtain ⟨hp, g, d, tk, os⟩ := s
    obtain ⟨hl, h⟩ := h
    have f1 := AutoSeq1.idx_int
    wp_walk using wpAny_loadPart' hl
    exact ⟨_, rfl, h⟩
theorem tmul_zero (l : Addr) (items : Array Value) (n : Nat) (dd : Option Addr) (sl : Array (Option Value)) (u : Tok) (hne : items.isEmpty = false) :
    Meets (Builtin.«tuple.__mul__» ⟨[.ref l, .int 0 u], []⟩) (fun _ R s => s.heap.get? l = some (tpo dd sl items n) ∧ R (.ok (.ret (Value.ref s.heap.objs.size))) { s with heap := s.heap.push { cls := Value.type "tuple", data := Data.seq #[] } }) :=
  .of_wp fun prog w A R s h => by
    obtain ⟨hp, g, d, tk, os⟩ := s
    obtain ⟨hl, h⟩ := h
    have f1 := AutoSeq1.idx_int
    wp_walk using wpAny_loadPart' hl
    exact ⟨_, rfl, h⟩
/-- any number of times up to 1000, a tuple that is not empty -/
def rRepA (K : PySem.W.Frag) : R2 := fun x y H Q => ∃ l k xs, x = .ref l ∧ y = .int k ∧ SqT K H l xs ∧ xs ≠ [] ∧ 0 ≤ k ∧ k ≤ 1000 ∧ xs.length ≤ 1000 ∧ (k = 1 → Q (.ref l) H) ∧ (k ≠ 1 → ∀ p, H p = none → Q (.ref p) (upd H p (.tup (List.replicate k.toNat xs).flatten)))
section
variable {X : Cx}
theorem op_repA : OpR X (binaryOp .Mult) (rRepA X.K) := by
  intro pins s σ H x y v u Q I rx ry h
  obtain ⟨l, k, xs, rfl, rfl, hT, hne, h0, h2, hz, q1, q2⟩ := h
  by_cases h3 : 2 ≤ k
  · exact op_repT pins s σ H _ _ v u Q I rx ry ⟨l, k, xs, rfl, rfl, hT, hne, h3, h2, hz, q2 (by omega)⟩
  cases rx
  obtain ⟨t, rfl⟩ := ry
  obtain ⟨its, r, ⟨⟨cls, dd, data, sl⟩, ho, hc, n, hd⟩, hs⟩ := I.tuple hT
  simp only at hc hd
  subst hc hd
  have hn : its.toArray.isEmpty = false := by
    cases its with
    | nil => exact absurd (List.eq_nil_of_length_eq_zero r.length) hne
    | cons a b => rfl
  rcases (by omega : k = 0 ∨ k = 1) with rfl | rfl
  · refine wpAny_binaryOp_repeat_ref (T := "tuple") (U := "int") (by decide) ⟨_, ho, rfl⟩ (fun s' => typeIs_int s' 0 t) noFill_tuple_mul F.fills_int_mul F.slot_int_rmul repeat_tuple F.slot_int_index.lookup
      (call_meets F.slot_int_rmul (typeIs_int s 0 t) F.entry_int_rmul (F.args_int_rmul_2 _ _) (int_rmul_tuple 0 t l its.toArray n dd sl)
        ⟨ho, rfl, ⟨_, ho, rfl⟩, call_meets F.slot_tuple_mul ⟨_, ho, rfl⟩ F.entry_tuple_mul (F.args_tuple_mul_2 _ _) (tmul_zero l its.toArray n dd sl t hn) ⟨ho, ?_⟩⟩)
    refine ⟨.ref s.heap.objs.size, _, I.laid (t' := s.toks) (o := .tup []) (fun b ob q => Heap.get?_push_of_some _ q) (Nat.le_refl _) ?_, rfl, q2 (by decide) _ (I.hok.fresh (Nat.le_refl _))⟩
    exact ⟨Nat.zero_le _, [], .nil, IsTup.new _ _⟩
  · refine wpAny_binaryOp_repeat_ref (T := "tuple") (U := "int") (by decide) ⟨_, ho, rfl⟩ (fun s' => typeIs_int s' 1 t) noFill_tuple_mul F.fills_int_mul F.slot_int_rmul repeat_tuple F.slot_int_index.lookup
      (call_meets F.slot_int_rmul (typeIs_int s 1 t) F.entry_int_rmul (F.args_int_rmul_2 _ _) (int_rmul_tuple 1 t l its.toArray n dd sl)
        ⟨ho, rfl, ⟨_, ho, rfl⟩, call_meets F.slot_tuple_mul ⟨_, ho, rfl⟩ F.entry_tuple_mul (F.args_tuple_mul_2 _ _) (tmul_one l its.toArray n dd sl t) ⟨ho, ?_⟩⟩)
    exact ⟨.ref l, H, I, rfl, q1 rfl⟩
end
/-- at the level of data -/
def repTR : R2D
  | .tup ds, .int k, P => (1 ≤ ds.length ∧ ds.length ≤ 1000 ∧ 0 ≤ k ∧ k ≤ 1000) ∧ P (.tup (List.replicate k.toNat ds).flatten)
  | _, _, _ => False
theorem os_repT {K : PySem.W.Frag} : OpS K (rRepA K) repTR := fun F H a b x y P Q e ha hb h k => by
  unfold repTR at h
  split at h
  · obtain ⟨p, us, rfl, s1, r1⟩ := tup_v ha
    obtain ⟨⟨g1, g2, g3, g4⟩, h⟩ := h
    refine ⟨p, _, us, rfl, int_v hb, same_t e s1, fun z => ?_, g3, g4, by rw [r1.len]; exact g2, fun z => ?_, fun z m hm => ?_⟩
    · have := r1.len
      rw [z] at this
      simp at this
      omega
    · refine k _ _ F H h (Or.inl ⟨rfl, rfl⟩) ?_
      subst z
      simp only [Int.toNat_one, List.replicate_one, List.flatten_cons, List.flatten_nil, List.append_nil]
      exact tup_r s1 r1
    · exact k _ _ _ _ h (Grow.tup hm) (new_tup e hm (r1.rep _))
  · exact h.elim
theorem ev_repT {ds : List D} {k : Int} {P : D → Prop} : repTR (.tup ds) (.int k) P = ((1 ≤ ds.length ∧ ds.length ≤ 1000 ∧ 0 ≤ k ∧ k ≤ 1000) ∧ P (.tup (List.replicate k.toNat ds).flatten)) := rfl
end Dl

/-! Dl: shares of a total by the largest remainders; plain mathematics. -/
namespace Dl
open PySem L2
/-- the k-th one, 0 behind the end -/
abbrev ga (xs : List Int) (k : Nat) : Int := xs.getD k 0
theorem ga_cons0 (x : Int) (xs : List Int) : ga (x :: xs) 0 = x := rfl
theorem ga_cons (x : Int) (xs : List Int) (k : Nat) : ga (x :: xs) (k + 1) = ga xs k := rfl
theorem ga_at {xs : List Int} {k : Nat} (h : k < xs.length) : ga xs k = xs[k] := by
  unfold ga
  rw [List.getD_eq_getElem?_getD, List.getElem?_eq_getElem h]
  rfl
theorem ga_out {xs : List Int} {k : Nat} (h : xs.length ≤ k) : ga xs k = 0 := by
  unfold ga
  rw [List.getD_eq_getElem?_getD, List.getElem?_eq_none h]
  rfl
theorem ga_map {f : Int → Int} {xs : List Int} {k : Nat} (h : k < xs.length) : ga (xs.map f) k = f (ga xs k) := by
  rw [ga_at (by rw [List.length_map]; exact h), ga_at h, List.getElem_map]
theorem ga_set {xs : List Int} {i k : Nat} {v : Int} (h : i < xs.length) : ga (xs.set i v) k = if k = i then v else ga xs k := by
  unfold ga
  rw [List.getD_eq_getElem?_getD, List.getD_eq_getElem?_getD]
  by_cases e : i = k
  · subst e
    rw [List.getElem?_set_self h, if_pos rfl]
    rfl
  · rw [List.getElem?_set_ne e, if_neg (Ne.symm e)]
theorem ga_ext : ∀ {a b : List Int}, a.length = b.length → (∀ k, k < a.length → ga a k = ga b k) → a = b
  | [], [], _, _ => rfl
  | x :: a, y :: b, hl, h => by
    have h0 := h 0 (by simp)
    rw [ga_cons0, ga_cons0] at h0
    rw [h0, ga_ext (a := a) (b := b) (by simpa using hl) fun k hk => h (k + 1) (by simpa using hk)]
theorem ga_mem {xs : List Int} {k : Nat} (h : k < xs.length) : ga xs k ∈ xs := by
  rw [ga_at h]
  exact List.getElem_mem h
theorem sum_mono : ∀ {a b : List Int}, a.length = b.length → (∀ k, k < a.length → ga a k ≤ ga b k) → a.sum ≤ b.sum ∧ (a.sum = b.sum → a = b)
  | [], [], _, _ => ⟨Int.le_refl _, fun _ => rfl⟩
  | x :: a, y :: b, hl, h => by
    have h0 := h 0 (by simp)
    rw [ga_cons0, ga_cons0] at h0
    obtain ⟨i1, i2⟩ := sum_mono (a := a) (b := b) (by simpa using hl) fun k hk => h (k + 1) (by simpa using hk)
    rw [List.sum_cons, List.sum_cons]
    refine ⟨by omega, fun e => ?_⟩
    rw [i2 (by omega), show x = y by omega]
/-- lists of one sum that differ: one place is greater, one is less -/
theorem sum_diff {a b : List Int} (hl : a.length = b.length) (hs : a.sum = b.sum) (hne : a ≠ b) : (∃ k, k < a.length ∧ ga b k < ga a k) ∧ ∃ j, j < a.length ∧ ga a j < ga b j := by
  constructor
  · apply Classical.byContradiction
    intro h
    refine hne ((sum_mono hl fun k hk => ?_).2 hs)
    exact Int.not_lt.mp fun z => h ⟨k, hk, z⟩
  · apply Classical.byContradiction
    intro h
    refine hne ((sum_mono hl.symm fun k hk => ?_).2 hs.symm).symm
    exact Int.not_lt.mp fun z => h ⟨k, by omega, z⟩
theorem sum_set : ∀ {xs : List Int} {i : Nat} {v : Int}, i < xs.length → (xs.set i v).sum = xs.sum - ga xs i + v
  | x :: xs, 0, v, _ => by
    rw [List.set_cons_zero, List.sum_cons, List.sum_cons, ga_cons0]
    omega
  | x :: xs, i + 1, v, h => by
    rw [List.set_cons_succ, List.sum_cons, List.sum_cons, ga_cons, sum_set (xs := xs) (by simpa using h)]
    omega
theorem sum_nonneg : ∀ {xs : List Int}, (∀ x ∈ xs, 0 ≤ x) → 0 ≤ xs.sum
  | [], _ => Int.le_refl _
  | x :: xs, h => by
    have := sum_nonneg fun y hy => h y (List.mem_cons_of_mem _ hy)
    have := h x List.mem_cons_self
    rw [List.sum_cons]
    omega
theorem le_sum : ∀ {xs : List Int}, (∀ x ∈ xs, 0 ≤ x) → ∀ x ∈ xs, x ≤ xs.sum
  | y :: xs, h, x, hx => by
    have h1 := sum_nonneg fun y hy => h y (List.mem_cons_of_mem _ hy)
    have h2 := h y List.mem_cons_self
    rw [List.sum_cons]
    rcases List.mem_cons.mp hx with rfl | hx
    · omega
    · have := le_sum (fun z hz => h z (List.mem_cons_of_mem _ hz)) x hx
      omega
/-! ### the order -/
theorem ordIx_perm (rs : List Int) : (ordIx rs).Perm (List.range rs.length) := List.mergeSort_perm _ _
theorem ordIx_nodup (rs : List Int) : (ordIx rs).Nodup := (ordIx_perm rs).nodup_iff.mpr List.nodup_range
theorem ordIx_len (rs : List Int) : (ordIx rs).length = rs.length := by rw [(ordIx_perm rs).length_eq, List.length_range]
theorem ordIx_lt {rs : List Int} {k : Nat} (h : k ∈ ordIx rs) : k < rs.length := List.mem_range.mp ((ordIx_perm rs).mem_iff.mp h)
theorem ordIx_mem {rs : List Int} {k : Nat} (h : k < rs.length) : k ∈ ordIx rs := (ordIx_perm rs).mem_iff.mpr (List.mem_range.mpr h)
theorem ordIx_sorted (rs : List Int) : (ordIx rs).Pairwise fun p q => ga rs q < ga rs p ∨ (ga rs p = ga rs q ∧ p ≤ q) := by
  have h := List.pairwise_mergeSort (le := fun p q : Nat => decide (-(rs.getD p 0) < -(rs.getD q 0) ∨ (-(rs.getD p 0) = -(rs.getD q 0) ∧ (p : Int) ≤ (q : Int)))) (fun a b c h1 h2 => by
    simp only [decide_eq_true_eq] at h1 h2 ⊢
    omega) (fun a b => by
    simp only [Bool.or_eq_true, decide_eq_true_eq]
    omega) (List.range rs.length)
  refine List.Pairwise.imp (fun {p q} z => ?_) h
  simp only [decide_eq_true_eq] at z
  unfold ga
  omega
/-- those ahead of the cut and those behind -/
theorem ordIx_cut {rs : List Int} {m k j : Nat} (hj : j ∈ (ordIx rs).take m) (hk : k < rs.length) (hn : k ∉ (ordIx rs).take m) : ga rs k < ga rs j ∨ (ga rs k = ga rs j ∧ j < k) := by
  have hs := ordIx_sorted rs
  rw [← List.take_append_drop m (ordIx rs), List.pairwise_append] at hs
  have hk' : k ∈ (ordIx rs).drop m := by
    have := ordIx_mem hk
    rw [← List.take_append_drop m (ordIx rs)] at this
    rcases List.mem_append.mp this with z | z
    · exact absurd z hn
    · exact z
  have := hs.2.2 j hj k hk'
  have hne : j ≠ k := fun e => hn (by rw [← e]; exact hj)
  omega
/-! ### one more for some -/
def bump : List Int → List Nat → List Int
  | xs, [] => xs
  | xs, i :: is => bump (xs.set i (ga xs i + 1)) is
theorem bump_len : ∀ (is : List Nat) (xs : List Int), (bump xs is).length = xs.length
  | [], _ => rfl
  | i :: is, xs => by rw [bump, bump_len is, List.length_set]
theorem bump_at : ∀ (is : List Nat) (xs : List Int), is.Nodup → (∀ i ∈ is, i < xs.length) → ∀ k, ga (bump xs is) k = ga xs k + if k ∈ is then 1 else 0
  | [], xs, _, _, k => by simp [bump]
  | i :: is, xs, hn, hl, k => by
    have hn' := List.nodup_cons.mp hn
    rw [bump, bump_at is _ hn'.2 (fun j hj => by rw [List.length_set]; exact hl j (List.mem_cons_of_mem _ hj)), ga_set (hl i List.mem_cons_self)]
    by_cases e : k = i
    · subst e
      rw [if_pos rfl, if_neg hn'.1, if_pos List.mem_cons_self]
      omega
    · rw [if_neg e]
      by_cases h : k ∈ is
      · rw [if_pos h, if_pos (List.mem_cons_of_mem _ h)]
      · rw [if_neg h, if_neg fun z => (List.mem_cons.mp z).elim e h]
theorem bump_sum : ∀ (is : List Nat) (xs : List Int), (∀ i ∈ is, i < xs.length) → (bump xs is).sum = xs.sum + is.length
  | [], xs, _ => by simp [bump]
  | i :: is, xs, hl => by
    rw [bump, bump_sum is _ (fun j hj => by rw [List.length_set]; exact hl j (List.mem_cons_of_mem _ hj)), sum_set (hl i List.mem_cons_self), List.length_cons]
    omega
/-! ### the shares -/
def shB (t : Int) (ws : List Int) : List Int := ws.map fun w => t * w / ws.sum
def shR (t : Int) (ws : List Int) : List Int := ws.map fun w => t * w % ws.sum
def appF (t : Int) (ws : List Int) : List Int := if ws.sum = 0 then List.replicate ws.length 0 else bump (shB t ws) ((ordIx (shR t ws)).take (t - (shB t ws).sum).toNat)
structure IsShare (t : Int) (ws ss : List Int) : Prop where
  len : ss.length = ws.length
  sum : ss.sum = t
  low : ∀ k, k < ws.length → t * ga ws k / ws.sum ≤ ga ss k
  top : ∀ k, k < ws.length → ga ss k ≤ t * ga ws k / ws.sum + 1
  ord : ∀ k j, k < ws.length → j < ws.length → ga ss k - t * ga ws k / ws.sum < ga ss j - t * ga ws j / ws.sum → t * ga ws k % ws.sum < t * ga ws j % ws.sum ∨ (t * ga ws k % ws.sum = t * ga ws j % ws.sum ∧ j < k)
theorem parts_eq (t W : Int) : ∀ ws : List Int, W * (ws.map fun w => t * w / W).sum + (ws.map fun w => t * w % W).sum = t * ws.sum
  | [] => by simp
  | w :: ws => by
    have ih := parts_eq t W ws
    have e := Int.mul_ediv_add_emod (t * w) W
    simp only [List.map_cons, List.sum_cons, Int.mul_add] at ih ⊢
    omega
theorem rems_lt {t W : Int} (hW : 0 < W) : ∀ ws : List Int, 0 ≤ (ws.map fun w => t * w % W).sum ∧ (ws.map fun w => t * w % W).sum ≤ (W - 1) * ws.length
  | [] => by simp
  | w :: ws => by
    obtain ⟨i1, i2⟩ := rems_lt (t := t) hW ws
    have h1 := Int.emod_nonneg (t * w) (Int.ne_of_gt hW)
    have h2 := Int.emod_lt_of_pos (t * w) hW
    simp only [List.map_cons, List.sum_cons, List.length_cons]
    have e : (W - 1) * ((ws.length + 1 : Nat) : Int) = (W - 1) * ws.length + (W - 1) := by
      rw [show ((ws.length + 1 : Nat) : Int) = (ws.length : Int) + 1 by omega, Int.mul_add, Int.mul_one]
    omega
theorem left_is {t : Int} {ws : List Int} (hW : 0 < ws.sum) : 0 ≤ t - (shB t ws).sum ∧ t - (shB t ws).sum ≤ (ws.length : Int) ∧ (shR t ws).sum = ws.sum * (t - (shB t ws).sum) := by
  have h1 := parts_eq t ws.sum ws
  obtain ⟨h2, h3⟩ := rems_lt (t := t) hW ws
  have e : (shR t ws).sum = ws.sum * (t - (shB t ws).sum) := by
    unfold shR shB
    rw [Int.mul_sub, Int.mul_comm ws.sum t]
    omega
  have h2' : 0 ≤ (shR t ws).sum := h2
  have h3' : (shR t ws).sum ≤ (ws.sum - 1) * ws.length := h3
  rw [e] at h2' h3'
  refine ⟨?_, ?_, e⟩
  · exact Int.le_of_mul_le_mul_left (a := ws.sum) (by rw [Int.mul_zero]; exact h2') hW
  · apply Int.le_of_mul_le_mul_left (a := ws.sum) _ hW
    refine Int.le_trans h3' ?_
    exact Int.mul_le_mul_of_nonneg_right (by omega) (by omega)
theorem shB_len {t : Int} {ws : List Int} : (shB t ws).length = ws.length := List.length_map _
theorem shR_len {t : Int} {ws : List Int} : (shR t ws).length = ws.length := List.length_map _
theorem appF_is {t : Int} {ws : List Int} (hW : 0 < ws.sum) : IsShare t ws (appF t ws) := by
  obtain ⟨l1, l2, l3⟩ := left_is (t := t) hW
  unfold appF
  rw [if_neg (by omega)]
  generalize hm : (t - (shB t ws).sum).toNat = m
  have hml : m ≤ ws.length := by omega
  have hnd : ((ordIx (shR t ws)).take m).Nodup := (List.take_sublist _ _).nodup (ordIx_nodup _)
  have hlt : ∀ i ∈ (ordIx (shR t ws)).take m, i < (shB t ws).length := fun i hi => by
    rw [shB_len]
    have := ordIx_lt (List.mem_of_mem_take hi)
    rwa [shR_len] at this
  have hat := bump_at _ _ hnd hlt
  have eb : ∀ k, k < ws.length → ga (shB t ws) k = t * ga ws k / ws.sum := fun k hk => ga_map (f := fun w => t * w / ws.sum) hk
  have er : ∀ k, k < ws.length → ga (shR t ws) k = t * ga ws k % ws.sum := fun k hk => ga_map (f := fun w => t * w % ws.sum) hk
  refine ⟨by rw [bump_len, shB_len], ?_, fun k hk => ?_, fun k hk => ?_, fun k j hk hj h => ?_⟩
  · rw [bump_sum _ _ hlt, List.length_take, ordIx_len, shR_len]
    omega
  · rw [hat k, eb k hk]
    split <;> omega
  · rw [hat k, eb k hk]
    split <;> omega
  · rw [hat k, hat j, eb k hk, eb j hj] at h
    have hj' : j ∈ (ordIx (shR t ws)).take m := by
      apply Classical.byContradiction
      intro z
      rw [if_neg z] at h
      split at h <;> omega
    have hk' : k ∉ (ordIx (shR t ws)).take m := by
      intro z
      rw [if_pos z, if_pos hj'] at h
      omega
    have := ordIx_cut hj' (by rw [shR_len]; exact hk) hk'
    rw [er k hk, er j hj] at this
    exact this
theorem share_uniq {t : Int} {ws a b : List Int} (ha : IsShare t ws a) (hb : IsShare t ws b) : a = b := by
  apply Classical.byContradiction
  intro hne
  obtain ⟨⟨k, hk, h1⟩, j, hj, h2⟩ := sum_diff (by rw [ha.len, hb.len]) (by rw [ha.sum, hb.sum]) hne
  rw [ha.len] at hk hj
  have a1 := ha.low k hk
  have a2 := ha.top k hk
  have a3 := ha.low j hj
  have a4 := ha.top j hj
  have b1 := hb.low k hk
  have b2 := hb.top k hk
  have b3 := hb.low j hj
  have b4 := hb.top j hj
  have q1 := ha.ord j k hj hk (by omega)
  have q2 := hb.ord k j hk hj (by omega)
  omega
theorem share_eq {t : Int} {ws a : List Int} (hW : 0 < ws.sum) (ha : IsShare t ws a) : appF t ws = a := share_uniq (appF_is hW) ha
theorem appF_len {t : Int} {ws : List Int} : (appF t ws).length = ws.length := by
  unfold appF
  split
  · exact List.length_replicate
  · rw [bump_len, shB_len]
theorem sum_zero : ∀ {ws : List Int}, (∀ w ∈ ws, 0 ≤ w) → ws.sum = 0 → ∀ w ∈ ws, w = 0 := fun {ws} h e w hw => by
  have := le_sum h w hw
  have := h w hw
  omega
theorem appF_zero {t : Int} {ws : List Int} (h : ws.sum = 0) : appF t ws = List.replicate ws.length 0 := if_pos h
theorem share_nonneg {t : Int} {ws a : List Int} (ht : 0 ≤ t) (hw : ∀ w ∈ ws, 0 ≤ w) (hW : 0 < ws.sum) (ha : IsShare t ws a) : ∀ x ∈ a, 0 ≤ x := fun x hx => by
  obtain ⟨k, hk, rfl⟩ := List.mem_iff_getElem.mp hx
  have hk' : k < ws.length := by rw [← ha.len]; exact hk
  have := ha.low k hk'
  rw [ga_at hk] at this
  have h2 : 0 ≤ t * ga ws k / ws.sum := Int.ediv_nonneg (Int.mul_nonneg ht (hw _ (ga_mem hk'))) (by omega)
  omega
theorem appF_nonneg {t : Int} {ws : List Int} (ht : 0 ≤ t) (hw : ∀ w ∈ ws, 0 ≤ w) : ∀ x ∈ appF t ws, 0 ≤ x := by
  by_cases h : ws.sum = 0
  · rw [appF_zero h]
    intro x hx
    rw [List.eq_of_mem_replicate hx]
    exact Int.le_refl _
  · have := sum_nonneg hw
    exact share_nonneg ht hw (by omega) (appF_is (by omega))
theorem appF_sum {t : Int} {ws : List Int} (hw : ∀ w ∈ ws, 0 ≤ w) : (appF t ws).sum = if ws.sum = 0 then 0 else t := by
  have := sum_nonneg hw
  split
  · next h =>
    rw [appF_zero h]
    have : ∀ n : Nat, (List.replicate n (0 : Int)).sum = 0 := fun n => by
      induction n with
      | zero => rfl
      | succ n ih => rw [List.replicate_succ, List.sum_cons, ih]; rfl
    exact this _
  · next h => exact (appF_is (by omega)).sum
end Dl

/-! Dl: the division by the largest remainders is the nearest one; plain mathematics. -/
namespace Dl
open PySem L2
def rsum (f : Nat → Int) : Nat → Int
  | 0 => 0
  | n + 1 => rsum f n + f n
theorem rsum_map (f : Nat → Int) : ∀ n, ((List.range n).map f).sum = rsum f n
  | 0 => rfl
  | n + 1 => by
    rw [List.range_succ, List.map_append, List.sum_append, rsum_map f n]
    simp [rsum]
theorem rsum_ga (xs : List Int) : xs.sum = rsum (ga xs) xs.length := by
  rw [← rsum_map]
  congr 1
  refine ga_ext (by simp) fun k hk => ?_
  rw [ga_at (xs := (List.range xs.length).map (ga xs)) (by simpa using hk), List.getElem_map, List.getElem_range]
theorem rsum_le {f g : Nat → Int} : ∀ {n : Nat}, (∀ k, k < n → f k ≤ g k) → rsum f n ≤ rsum g n ∧ (rsum f n = rsum g n → ∀ k, k < n → f k = g k)
  | 0, _ => ⟨Int.le_refl _, fun _ k hk => by omega⟩
  | n + 1, h => by
    obtain ⟨i1, i2⟩ := rsum_le (n := n) fun k hk => h k (by omega)
    have hn := h n (by omega)
    simp only [rsum]
    refine ⟨by omega, fun e k hk => ?_⟩
    by_cases ek : k = n
    · subst ek
      omega
    · exact i2 (by omega) k (by omega)
theorem rsum_add (f g : Nat → Int) : ∀ n, rsum (fun k => f k + g k) n = rsum f n + rsum g n
  | 0 => rfl
  | n + 1 => by
    simp only [rsum]
    rw [rsum_add f g n]
    omega
theorem rsum_mul (c : Int) (f : Nat → Int) : ∀ n, rsum (fun k => c * f k) n = c * rsum f n
  | 0 => by simp [rsum]
  | n + 1 => by
    simp only [rsum]
    rw [rsum_mul c f n, Int.mul_add]
theorem rsum_congr {f g : Nat → Int} : ∀ {n : Nat}, (∀ k, k < n → f k = g k) → rsum f n = rsum g n
  | 0, _ => rfl
  | n + 1, h => by
    simp only [rsum]
    rw [rsum_congr (n := n) fun k hk => h k (by omega), h n (by omega)]
theorem ex_min (p : Nat → Prop) (f : Nat → Int) : ∀ n, (∃ k, k < n ∧ p k) → ∃ j, j < n ∧ p j ∧ ∀ k, k < n → p k → f j ≤ f k
  | 0, ⟨k, hk, _⟩ => by omega
  | n + 1, ⟨k, hk, pk⟩ => by
    by_cases h : ∃ k, k < n ∧ p k
    · obtain ⟨j, h1, h2, h3⟩ := ex_min p f n h
      by_cases hn : p n ∧ f n < f j
      · refine ⟨n, by omega, hn.1, fun i hi pi => ?_⟩
        by_cases e : i = n
        · subst e
          exact Int.le_refl _
        · have := h3 i (by omega) pi
          omega
      · refine ⟨j, by omega, h2, fun i hi pi => ?_⟩
        by_cases e : i = n
        · subst e
          exact Int.not_lt.mp fun z => hn ⟨pi, z⟩
        · exact h3 i (by omega) pi
    · have ek : k = n := by
        apply Classical.byContradiction
        intro z
        exact h ⟨k, by omega, pk⟩
      subst ek
      refine ⟨k, by omega, pk, fun i hi pi => ?_⟩
      by_cases e : i = k
      · subst e
        exact Int.le_refl _
      · exact absurd ⟨i, by omega, pi⟩ h
abbrev abI (z : Int) : Int := if z < 0 then -z else z
/-- how far x is from the exact share -/
theorem far_at {W r b x : Int} (hW : 0 < W) (h0 : 0 ≤ r) (h1 : r < W) : abI (x * W - (b * W + r)) = if b < x then (x - b) * W - r else r + (b - x) * W := by
  have e : x * W - (b * W + r) = (x - b) * W - r := by rw [Int.sub_mul]; omega
  rw [e]
  unfold abI
  by_cases hx : b < x
  · have : W ≤ (x - b) * W := by
      have := Int.mul_le_mul_of_nonneg_right (show (1 : Int) ≤ x - b by omega) (Int.le_of_lt hW)
      omega
    rw [if_pos hx, if_neg (by omega)]
  · have : (b - x) * W = -((x - b) * W) := by rw [← Int.neg_mul, Int.neg_sub]
    have h2 : 0 ≤ (b - x) * W := Int.mul_nonneg (by omega) (Int.le_of_lt hW)
    rw [if_neg hx]
    split <;> omega
theorem far_pt {W r l b e x : Int} (hW : 0 < W) (h0 : 0 ≤ r) (h1 : r < W) (he : e = 0 ∨ e = 1) (l1 : -W < l) (l2 : l < W) (le : e = 0 → l ≤ W - 2 * r) (ge : e = 1 → W - 2 * r ≤ l) :
    abI ((b + e) * W - (b * W + r)) + l * (x - (b + e)) ≤ abI (x * W - (b * W + r)) ∧
    (abI ((b + e) * W - (b * W + r)) + l * (x - (b + e)) = abI (x * W - (b * W + r)) → (b + e < x → e = 0 ∧ W - 2 * r = l) ∧ (x < b + e → e = 1 ∧ W - 2 * r = l)) := by
  rw [far_at hW h0 h1, far_at hW h0 h1]
  have mp : ∀ {p q : Int}, 0 ≤ p → 0 ≤ q → 0 ≤ p * q := fun h h' => Int.mul_nonneg h h'
  rcases he with rfl | rfl
  · rw [if_neg (by omega : ¬ b < b + 0)]
    replace le := le rfl
    have z0 : (b - (b + 0)) * W = 0 := by rw [show b - (b + 0) = 0 by omega, Int.zero_mul]
    by_cases hx : b < x
    · rw [if_pos hx]
      obtain ⟨p, hp⟩ : ∃ p, x = b + 1 + p := ⟨x - b - 1, by omega⟩
      have hp0 : 0 ≤ p := by omega
      have k1 := mp hp0 (show 0 ≤ W - l by omega)
      rw [Int.mul_sub] at k1
      have e1 : (x - b) * W = W + p * W := by rw [hp, show b + 1 + p - b = 1 + p by omega, Int.add_mul, Int.one_mul]
      have e2 : l * (x - (b + 0)) = l + p * l := by rw [hp, show b + 1 + p - (b + 0) = 1 + p by omega, Int.mul_add, Int.mul_one, Int.mul_comm l p]
      rw [e1, e2]
      refine ⟨by omega, fun h => ⟨fun _ => ⟨rfl, by omega⟩, fun _ => by omega⟩⟩
    · rw [if_neg hx]
      by_cases hb : x = b
      · subst hb
        have e1 : (x - x) * W = 0 := by rw [Int.sub_self, Int.zero_mul]
        have e2 : l * (x - (x + 0)) = 0 := by rw [show x - (x + 0) = 0 by omega, Int.mul_zero]
        rw [e1, e2]
        exact ⟨by omega, fun _ => ⟨fun _ => by omega, fun _ => by omega⟩⟩
      · obtain ⟨p, hp⟩ : ∃ p, b = x + 1 + p := ⟨b - x - 1, by omega⟩
        have hp0 : 0 ≤ p := by omega
        have k1 := mp hp0 (show 0 ≤ W + l by omega)
        rw [Int.mul_add] at k1
        have e1 : (b - x) * W = W + p * W := by rw [hp, show x + 1 + p - x = 1 + p by omega, Int.add_mul, Int.one_mul]
        have e2 : l * (x - (b + 0)) = -(l + p * l) := by rw [hp, show x - (x + 1 + p + 0) = -(1 + p) by omega, Int.mul_neg, Int.mul_add, Int.mul_one, Int.mul_comm l p]
        rw [e1, e2]
        refine ⟨by omega, fun h => ⟨fun _ => by omega, fun _ => by omega⟩⟩
  · rw [if_pos (by omega : b < b + 1)]
    replace ge := ge rfl
    have z0 : (b + 1 - b) * W = W := by rw [show b + 1 - b = 1 by omega, Int.one_mul]
    rw [z0]
    by_cases hx : b < x
    · rw [if_pos hx]
      obtain ⟨p, hp⟩ : ∃ p, x = b + 1 + p := ⟨x - b - 1, by omega⟩
      have hp0 : 0 ≤ p := by omega
      have k1 := mp hp0 (show 0 ≤ W - l by omega)
      have e1 : (x - b) * W = W + p * W := by rw [hp, show b + 1 + p - b = 1 + p by omega, Int.add_mul, Int.one_mul]
      have e2 : l * (x - (b + 1)) = p * l := by rw [hp, show b + 1 + p - (b + 1) = p by omega, Int.mul_comm]
      have k2 : p * (W - l) = 0 → p = 0 := fun z => by
        rcases Int.mul_eq_zero.mp z with z | z <;> omega
      rw [Int.mul_sub] at k1 k2
      rw [e1, e2]
      refine ⟨by omega, fun h => ⟨fun _ => ?_, fun _ => by omega⟩⟩
      have := k2 (by omega)
      omega
    · rw [if_neg hx]
      obtain ⟨p, hp⟩ : ∃ p, b = x + p := ⟨b - x, by omega⟩
      have hp0 : 0 ≤ p := by omega
      have k1 := mp hp0 (show 0 ≤ W + l by omega)
      rw [Int.mul_add] at k1
      have e1 : (b - x) * W = p * W := by rw [hp, show x + p - x = p by omega]
      have e2 : l * (x - (b + 1)) = -(l + p * l) := by rw [hp, show x - (x + p + 1) = -(1 + p) by omega, Int.mul_neg, Int.mul_add, Int.mul_one, Int.mul_comm l p]
      rw [e1, e2]
      refine ⟨by omega, fun h => ⟨fun _ => by omega, fun _ => ⟨rfl, by omega⟩⟩⟩
def farF (t : Int) (ws ps : List Int) (k : Nat) : Int := abI (ga ps k * ws.sum - t * ga ws k)
section
variable {t : Int} {ws a o : List Int}
/-- the price of a unit -/
theorem price (hW : 0 < ws.sum) (A : IsShare t ws a) : ∃ l : Int, -ws.sum < l ∧ l < ws.sum ∧ ∀ k, k < ws.length → (ga a k - t * ga ws k / ws.sum = 0 → l ≤ ws.sum - 2 * (t * ga ws k % ws.sum)) ∧ (ga a k - t * ga ws k / ws.sum = 1 → ws.sum - 2 * (t * ga ws k % ws.sum) ≤ l) := by
  have r0 : ∀ k, 0 ≤ t * ga ws k % ws.sum := fun k => Int.emod_nonneg _ (by omega)
  have r1 : ∀ k, t * ga ws k % ws.sum < ws.sum := fun k => Int.emod_lt_of_pos _ hW
  have ee : ∀ k, k < ws.length → ga a k - t * ga ws k / ws.sum = 0 ∨ ga a k - t * ga ws k / ws.sum = 1 := fun k hk => by
    have := A.low k hk
    have := A.top k hk
    omega
  -- the remainders add up to as many times the whole as there are units more
  have key : rsum (fun k => t * ga ws k % ws.sum) ws.length = rsum (fun k => ws.sum * (ga a k - t * ga ws k / ws.sum)) ws.length := by
    rw [rsum_mul]
    have e1 : rsum (fun k => t * ga ws k) ws.length = t * ws.sum := by
      have h := rsum_mul t (ga ws) ws.length
      rw [← rsum_ga ws] at h
      exact h
    have e2 : rsum (fun k => t * ga ws k) ws.length = ws.sum * rsum (fun k => t * ga ws k / ws.sum) ws.length + rsum (fun k => t * ga ws k % ws.sum) ws.length := by
      rw [← rsum_mul, ← rsum_add]
      exact rsum_congr fun k _ => (Int.mul_ediv_add_emod _ _).symm
    have e3 : rsum (ga a) ws.length = t := by
      have h := A.sum
      rw [rsum_ga a, A.len] at h
      exact h
    have e4 : rsum (ga a) ws.length = rsum (fun k => ga a k - t * ga ws k / ws.sum) ws.length + rsum (fun k => t * ga ws k / ws.sum) ws.length := by
      rw [← rsum_add]
      exact rsum_congr fun k _ => by omega
    have e5 : ws.sum * rsum (ga a) ws.length = ws.sum * rsum (fun k => ga a k - t * ga ws k / ws.sum) ws.length + ws.sum * rsum (fun k => t * ga ws k / ws.sum) ws.length := by
      rw [e4, Int.mul_add]
    rw [e3, Int.mul_comm ws.sum t] at e5
    omega
  by_cases hI : ∃ k, k < ws.length ∧ ga a k - t * ga ws k / ws.sum = 1
  · obtain ⟨j, j1, j2, j3⟩ := ex_min (fun k => ga a k - t * ga ws k / ws.sum = 1) (fun k => t * ga ws k % ws.sum) ws.length hI
    have out : ∀ k, k < ws.length → ga a k - t * ga ws k / ws.sum = 0 → t * ga ws k % ws.sum ≤ t * ga ws j % ws.sum := fun k hk e => by
      have := A.ord k j hk j1 (by omega)
      omega
    have pos : 0 < t * ga ws j % ws.sum := by
      apply Classical.byContradiction
      intro z
      have zj : t * ga ws j % ws.sum = 0 := by
        have := r0 j
        omega
      have hle : ∀ k, k < ws.length → (fun k => t * ga ws k % ws.sum) k ≤ (fun k => ws.sum * (ga a k - t * ga ws k / ws.sum)) k := fun k hk => by
        show t * ga ws k % ws.sum ≤ ws.sum * (ga a k - t * ga ws k / ws.sum)
        rcases ee k hk with e | e
        · have := out k hk e
          rw [e, Int.mul_zero]
          omega
        · have := r1 k
          rw [e, Int.mul_one]
          omega
      have h := (rsum_le hle).2 key j j1
      have h' : t * ga ws j % ws.sum = ws.sum * (ga a j - t * ga ws j / ws.sum) := h
      rw [j2, Int.mul_one, zj] at h'
      omega
    refine ⟨ws.sum - 2 * (t * ga ws j % ws.sum), ?_, by omega, fun k hk => ⟨fun e => ?_, fun e => ?_⟩⟩
    · have := r1 j
      omega
    · have := out k hk e
      omega
    · have := j3 k hk e
      omega
  · have e0 : ∀ k, k < ws.length → ga a k - t * ga ws k / ws.sum = 0 := fun k hk => (ee k hk).elim id fun z => absurd ⟨k, hk, z⟩ hI
    have hz : rsum (fun k => ws.sum * (ga a k - t * ga ws k / ws.sum)) ws.length = rsum (fun _ => 0) ws.length := rsum_congr fun k hk => by rw [e0 k hk, Int.mul_zero]
    rw [hz] at key
    have h := (rsum_le (f := fun _ => 0) (g := fun k => t * ga ws k % ws.sum) fun k _ => r0 k).2 key.symm
    refine ⟨0, by omega, hW, fun k hk => ⟨fun e => ?_, fun e => ?_⟩⟩
    · have h' : (0 : Int) = t * ga ws k % ws.sum := h k hk
      omega
    · have := e0 k hk
      omega
theorem near (hW : 0 < ws.sum) (A : IsShare t ws a) (hl : o.length = ws.length) (hs : o.sum = t) :
    rsum (farF t ws a) ws.length ≤ rsum (farF t ws o) ws.length ∧
    (rsum (farF t ws o) ws.length = rsum (farF t ws a) ws.length → ∀ k, k < ws.length → (∀ i, i < k → ga a i = ga o i) → ga a k ≠ ga o k → ga o k < ga a k) := by
  obtain ⟨l, l1, l2, l3⟩ := price hW A
  have pt : ∀ k, k < ws.length → _ := fun k hk => far_pt (W := ws.sum) (r := t * ga ws k % ws.sum) (l := l) (b := t * ga ws k / ws.sum) (e := ga a k - t * ga ws k / ws.sum) (x := ga o k) hW (Int.emod_nonneg _ (by omega)) (Int.emod_lt_of_pos _ hW) (by
    have := A.low k hk
    have := A.top k hk
    omega) l1 l2 (l3 k hk).1 (l3 k hk).2
  have eq1 : ∀ k, t * ga ws k / ws.sum * ws.sum + t * ga ws k % ws.sum = t * ga ws k := fun k => by
    rw [Int.mul_comm]
    exact Int.mul_ediv_add_emod _ _
  have eq2 : ∀ k, t * ga ws k / ws.sum + (ga a k - t * ga ws k / ws.sum) = ga a k := fun k => by omega
  have pt' : ∀ k, k < ws.length → farF t ws a k + l * (ga o k - ga a k) ≤ farF t ws o k ∧ (farF t ws a k + l * (ga o k - ga a k) = farF t ws o k → (ga a k < ga o k → ga a k - t * ga ws k / ws.sum = 0 ∧ ws.sum - 2 * (t * ga ws k % ws.sum) = l) ∧ (ga o k < ga a k → ga a k - t * ga ws k / ws.sum = 1 ∧ ws.sum - 2 * (t * ga ws k % ws.sum) = l)) := fun k hk => by
    have := pt k hk
    rw [eq1 k, eq2 k] at this
    exact this
  have hsum : rsum (fun k => farF t ws a k + l * (ga o k - ga a k)) ws.length = rsum (farF t ws a) ws.length := by
    rw [rsum_add, rsum_mul]
    have e1 : rsum (ga a) ws.length = t := by
      have h := A.sum
      rw [rsum_ga a, A.len] at h
      exact h
    have e2 : rsum (ga o) ws.length = t := by
      have h := hs
      rw [rsum_ga o, hl] at h
      exact h
    have e3 : rsum (ga o) ws.length = rsum (fun k => ga o k - ga a k) ws.length + rsum (ga a) ws.length := by
      rw [← rsum_add]
      exact rsum_congr fun k _ => by omega
    rw [show rsum (fun k => ga o k - ga a k) ws.length = 0 by omega, Int.mul_zero, Int.add_zero]
  have m := rsum_le fun k hk => (pt' k hk).1
  rw [hsum] at m
  refine ⟨m.1, fun he k hk before ne => ?_⟩
  have all := m.2 he.symm
  apply Classical.byContradiction
  intro z
  have gk : ga a k < ga o k := by omega
  obtain ⟨k1, k2⟩ := ((pt' k hk).2 (all k hk)).1 gk
  have hne : o ≠ a := fun e => by
    rw [e] at gk
    omega
  obtain ⟨_, j, hj, gj⟩ := sum_diff (by rw [hl, A.len]) (by rw [hs, A.sum]) hne
  rw [hl] at hj
  obtain ⟨j1, j2⟩ := ((pt' j hj).2 (all j hj)).2 gj
  have hkj : k < j := by
    apply Classical.byContradiction
    intro hn
    by_cases e : j = k
    · subst e
      omega
    · have := before j (by omega)
      omega
  have := A.ord k j hk hj (by omega)
  omega
end
end Dl

/-! Dl: order of data that are alike: <, <=, >, >=, sorted, min, max. -/
namespace Dl
open PySem L2 PySem.Spec PyProof.Rows PySem.W
/-- a < b -/
def ltD (a b : D) : Bool := dataLt (toPy a) (toPy b)
def leD (a b : D) : Bool := !dataLt (toPy b) (toPy a)
/-- they may be compared -/
def cmpOk (a b : D) : Bool := PySem.W.alike (toPy a) (toPy b) && decide ((toPy a).depth ≤ 40) && (match a with | .non => false | _ => true)
/-! ### the operators -/
def rOrd (K : PySem.W.Frag) (f : PyData → PyData → Bool) : R2 := fun x y H Q => ∃ dx dy, Dp K H x dx ∧ Dp K H y dy ∧ PySem.W.alike dx dy = true ∧ dx ≠ .none ∧ dx.depth ≤ 40 ∧ Q (.bl (f dx dy)) H
section
variable {X : Cx}
theorem ord_units {a b : Nat} {A : Around} (hu : A.units + 64 < cLine) (h : a ≤ 40) : A.units + min a b < cLine := by
  have : min a b ≤ 40 := Nat.le_trans (Nat.min_le_left _ _) h
  omega
theorem op_ltO (hu : X.A.units + 64 < cLine) : OpR X (compareOp .Lt) (rOrd X.K fun a b => dataLt a b) := by
  intro pins s σ H x y v u Q I rx ry ⟨dx, dy, hx, hy, ha, hn, hd, q⟩
  obtain ⟨as, r1⟩ := hx.reads I _ _ _ rx
  obtain ⟨bs, r2⟩ := hy.reads I _ _ _ ry
  exact lt_data r1 r2 ha hn (ord_units hu hd) ⟨.bl _, H, I, rfl, q⟩
theorem op_gtO (hu : X.A.units + 64 < cLine) : OpR X (compareOp .Gt) (rOrd X.K fun a b => dataLt b a) := by
  intro pins s σ H x y v u Q I rx ry ⟨dx, dy, hx, hy, ha, hn, hd, q⟩
  obtain ⟨as, r1⟩ := hx.reads I _ _ _ rx
  obtain ⟨bs, r2⟩ := hy.reads I _ _ _ ry
  exact gt_data r1 r2 ha hn (ord_units hu hd) ⟨.bl _, H, I, rfl, q⟩
theorem op_leO (hu : X.A.units + 64 < cLine) : OpR X (compareOp .LtE) (rOrd X.K fun a b => !dataLt b a) := by
  intro pins s σ H x y v u Q I rx ry ⟨dx, dy, hx, hy, ha, hn, hd, q⟩
  obtain ⟨as, r1⟩ := hx.reads I _ _ _ rx
  obtain ⟨bs, r2⟩ := hy.reads I _ _ _ ry
  exact le_data r1 r2 ha hn (ord_units hu hd) ⟨.bl _, H, I, rfl, q⟩
theorem op_geO (hu : X.A.units + 64 < cLine) : OpR X (compareOp .GtE) (rOrd X.K fun a b => !dataLt a b) := by
  intro pins s σ H x y v u Q I rx ry ⟨dx, dy, hx, hy, ha, hn, hd, q⟩
  obtain ⟨as, r1⟩ := hx.reads I _ _ _ rx
  obtain ⟨bs, r2⟩ := hy.reads I _ _ _ ry
  exact ge_data r1 r2 ha hn (ord_units hu hd) ⟨.bl _, H, I, rfl, q⟩
end
def ordR (f : PyData → PyData → Bool) : R2D := fun a b P => cmpOk a b = true ∧ P (.bl (f (toPy a) (toPy b)))
theorem cmpOk_is {a b : D} (h : cmpOk a b = true) : PySem.W.alike (toPy a) (toPy b) = true ∧ toPy a ≠ .none ∧ (toPy a).depth ≤ 40 := by
  unfold cmpOk at h
  rw [Bool.and_eq_true, Bool.and_eq_true] at h
  refine ⟨h.1.1, fun z => ?_, of_decide_eq_true h.1.2⟩
  cases a with
  | non => exact absurd h.2 Bool.false_ne_true
  | _ => cases z
theorem os_ord {K : PySem.W.Frag} {f : PyData → PyData → Bool} : OpS K (rOrd K f) (ordR f) := fun F H a b x y P Q e ha hb h k => by
  obtain ⟨h1, h2⟩ := h
  obtain ⟨g1, g2, g3⟩ := cmpOk_is h1
  exact ⟨_, _, dp_v e ha, dp_v e hb, g1, g2, g3, k _ _ F H h2 (Or.inl ⟨rfl, rfl⟩) rB_⟩
theorem ev_ord {f : PyData → PyData → Bool} {a b : D} {P : D → Prop} : ordR f a b P = (cmpOk a b = true ∧ P (.bl (f (toPy a) (toPy b)))) := rfl
/-! ### sorted(list) -/
def rSortO (K : PySem.W.Frag) : List V → Hp → VK → Prop := fun xs H Q => ∃ (a : Addr) (bs : List (V × PyData)), xs = [.ref a] ∧ SqL K H a (bs.map (·.1)) ∧ (∀ p ∈ bs, Dp K H p.1 p.2) ∧ AllAlike (bs.map (·.2)) ∧ Sortable (bs.map (·.2)) ∧ (∀ p ∈ bs, p.2.depth ≤ 40) ∧
  ∀ p, H p = none → Q (.ref p) (upd H p (.lst ((bs.mergeSort (dataLe false Prod.snd)).map (·.1))))
theorem each_vals {β : Type} {f : β → V} : ∀ {out : List Value} {bs : List β}, EachIs (fun v b => RelV (f b) v) out bs → Vals (bs.map f) out
  | _, _, .nil => .nil
  | _, _, .cons h r => .cons h (each_vals r)
theorem vals_each2 {β : Type} {f : β → V} : ∀ {out : List Value} {bs : List β}, Vals (bs.map f) out → EachIs (fun v b => RelV (f b) v) out bs
  | out, [], h => by
    cases out with
    | nil => exact .nil
    | cons v vs => cases h
  | out, b :: bs, h => by
    cases out with
    | nil => cases h
    | cons v vs =>
      rw [List.map_cons] at h
      cases h with
      | cons h1 h2 => exact .cons h1 (vals_each2 h2)
theorem each_mono2 {α β : Type} {R R' : α → β → Prop} : ∀ {as : List α} {bs : List β}, EachIs R as bs → (∀ a b, b ∈ bs → R a b → R' a b) → EachIs R' as bs
  | _, _, .nil, _ => .nil
  | _, _, .cons h r, k => .cons (k _ _ List.mem_cons_self h) (each_mono2 r fun a b hb => k a b (List.mem_cons_of_mem _ hb))
theorem cr_sortO {X : Cx} (hu : X.A.units + 64 < cLine) : CallR X (.builtin "sorted") (rSortO X.K) := by
  intro pins s σ H vs us Q I r h
  obtain ⟨a, bs, rfl, hs, hdp, hal, hsb, hdep, q⟩ := h
  obtain ⟨its, rv, hl, hz⟩ := I.list hs
  rw [Vals.ref1 r]
  have e := vals_each2 (f := Prod.fst) rv
  have hL : bs.length ≤ sizeLine := by
    rw [List.length_map] at hz
    exact hz
  refine sorted_data (enc := Prod.snd) hl.isList e (each_mono2 e fun v b hb h => (hdp b hb).reads I _ _ _ h) hal hsb hL (fun b hb => ?_) fun out ho eo => ?_
  · have := hdep b hb
    omega
  · obtain ⟨ep, he'⟩ := PyProof.Rows.sortedAll_at s.heap its out.toArray
    have hlen : ((bs.mergeSort (dataLe false Prod.snd)).map (·.1)).length ≤ sizeLine := by
      rw [List.length_map, List.length_mergeSort]
      exact hL
    exact ⟨.ref _, upd H (s.heap.objs.size + 1) (.lst ((bs.mergeSort (dataLe false Prod.snd)).map (·.1))), I.laid (t' := s.toks) (fun _ _ => PyProof.Rows.sortedAll_old) (Nat.le_succ _) ⟨hlen, out, ep, each_vals eo, he'⟩, rfl, q _ (I.hok.fresh (Nat.le_succ _))⟩
/-- at the level of data -/
def sortOk (ds : List D) : Prop := (∀ a ∈ ds, ∀ b ∈ ds, PySem.W.alike (toPy a) (toPy b) = true) ∧ Sortable (ds.map toPy) ∧ ∀ a ∈ ds, (toPy a).depth ≤ 40
def sortOR : List D → (List D → Prop) → Prop
  | [.lst ds], P => sortOk ds ∧ P (ds.mergeSort leD)
  | [.rol ds], P => sortOk ds ∧ P (ds.mergeSort leD)
  | _, _ => False
section
variable {K : PySem.W.Frag} {F H : Hp}
theorem reps_zip : ∀ {ds : List D} {vs : List V}, Reps K F ds vs → (vs.zip ds).map (·.1) = vs ∧ (vs.zip ds).map (·.2) = ds ∧ ∀ p ∈ vs.zip ds, Rep K F p.2 p.1
  | [], vs, h => by
    rw [h.unnil]
    exact ⟨rfl, rfl, fun p hp => by cases hp⟩
  | d :: ds, vs, h => by
    obtain ⟨v, ws, rfl, h1, h2⟩ := h.uncons
    obtain ⟨i1, i2, i3⟩ := reps_zip h2
    rw [List.zip_cons_cons, List.map_cons, List.map_cons, i1, i2]
    refine ⟨rfl, rfl, fun p hp => ?_⟩
    rcases List.mem_cons.mp hp with rfl | hp
    · exact h1
    · exact i3 p hp
theorem reps_of : ∀ {bs : List (V × D)}, (∀ p ∈ bs, Rep K F p.2 p.1) → Reps K F (bs.map (·.2)) (bs.map (·.1))
  | [], _ => Reps.nil
  | b :: bs, h => Reps.cons (h b List.mem_cons_self) (reps_of fun p hp => h p (List.mem_cons_of_mem _ hp))
theorem sort_core {ds : List D} {vs : List V} {a : Addr} {P : List D → Prop} {Q : VK} (e : Same F H) (hs : SqL K H a vs) (hr : Reps K F ds vs) (ok : sortOk ds) (hp : P (ds.mergeSort leD)) (k : ∀ (es : List D) (p : Addr) (us : List V), P es → H p = none → Reps K F es us → Q (.ref p) (upd H p (.lst us))) : rSortO K [.ref a] H Q := by
  obtain ⟨z1, z2, z3⟩ := reps_zip hr
  obtain ⟨o1, o2, o3⟩ := ok
  have em : (vs.zip ds).map (fun p => (p.1, toPy p.2)) = (vs.zip ds).map fun p => (p.1, toPy p.2) := rfl
  have m1 : ((vs.zip ds).map fun p => (p.1, toPy p.2)).map (·.1) = vs := by
    rw [List.map_map]
    exact z1
  have m2 : ((vs.zip ds).map fun p => (p.1, toPy p.2)).map (·.2) = ds.map toPy := by
    rw [List.map_map]
    calc _ = ((vs.zip ds).map (·.2)).map toPy := by rw [List.map_map]; rfl
      _ = _ := by rw [z2]
  have mm : ∀ p ∈ (vs.zip ds), p.2 ∈ ds := fun p hp => by
    rw [← z2]
    exact List.mem_map_of_mem hp
  refine ⟨a, (vs.zip ds).map fun p => (p.1, toPy p.2), rfl, by rw [m1]; exact hs, fun p hp => ?_, ?_, by rw [m2]; exact o2, fun p hp => ?_, fun p hpn => ?_⟩
  · obtain ⟨b, hb, rfl⟩ := List.mem_map.mp hp
    exact dp_of e _ _ (z3 b hb)
  · rw [m2]
    intro x hx y hy
    obtain ⟨b, hb, rfl⟩ := List.mem_map.mp hx
    obtain ⟨c, hc, rfl⟩ := List.mem_map.mp hy
    exact o1 b hb c hc
  · obtain ⟨b, hb, rfl⟩ := List.mem_map.mp hp
    exact o3 _ (mm b hb)
  · -- the sort of the pairs (value, data as Python's) is that of the pairs (value, data)
    have s1 : ((vs.zip ds).mergeSort fun p q => leD p.2 q.2).map (fun p => (p.1, toPy p.2)) = ((vs.zip ds).map fun p => (p.1, toPy p.2)).mergeSort (dataLe false Prod.snd) := List.map_mergeSort fun p _ q _ => rfl
    have s2 : ((vs.zip ds).mergeSort fun p q => leD p.2 q.2).map (·.2) = ds.mergeSort leD := by
      rw [List.map_mergeSort (s := leD) fun p _ q _ => rfl, z2]
    have s3 : (((vs.zip ds).map fun p => (p.1, toPy p.2)).mergeSort (dataLe false Prod.snd)).map (·.1) = ((vs.zip ds).mergeSort fun p q => leD p.2 q.2).map (·.1) := by
      rw [← s1, List.map_map]
      rfl
    rw [s3]
    refine k _ p _ ?_ hpn (reps_of fun q hq => z3 q ((List.mergeSort_perm _ _).mem_iff.mp hq))
    rw [s2]
    exact hp
theorem cf_sortO : CallF K (rSortO K) sortOR := fun F H ds xs P Q e hr h k => by
  unfold sortOR at h
  split at h
  · obtain ⟨v, rfl, rv⟩ := one_v hr
    obtain ⟨p, vs, rfl, g1, g2⟩ := lst_v rv
    exact sort_core e (SqL.of g1) g2 h.1 h.2 k
  · obtain ⟨v, rfl, rv⟩ := one_v hr
    obtain ⟨p, vs, rfl, g1, g2⟩ := rol_v rv
    exact sort_core e (same_l e g1) g2 h.1 h.2 k
  · exact h.elim
end
/-! ### the order's laws -/
theorem ltD_irrefl (a : D) : ltD a a = false := (listOrd itemOrd).irrefl _
theorem ltD_trans {a b c : D} (h1 : ltD a b = true) (h2 : ltD b c = true) : ltD a c = true := (listOrd itemOrd).trans _ _ _ h1 h2
theorem ltD_neg {a b c : D} (h : ltD a c = true) : ltD a b = true ∨ ltD b c = true := (listOrd itemOrd).negTrans _ _ _ h
theorem ltD_asymm {a b : D} (h : ltD a b = true) : ltD b a = false := by
  cases q : ltD b a with
  | false => rfl
  | true =>
    have := ltD_trans h q
    rw [ltD_irrefl] at this
    cases this
theorem leD_eq (a b : D) : leD a b = !ltD b a := rfl
theorem leD_trans {a b c : D} (h1 : leD a b = true) (h2 : leD b c = true) : leD a c = true := by
  rw [leD_eq, Bool.not_eq_true'] at h1 h2 ⊢
  cases q : ltD c a with
  | false => rfl
  | true =>
    rcases ltD_neg (b := b) q with z | z
    · rw [z] at h2; cases h2
    · rw [z] at h1; cases h1
theorem leD_total (a b : D) : (leD a b || leD b a) = true := by
  rw [leD_eq, leD_eq]
  cases q : ltD b a with
  | false => rfl
  | true => rw [ltD_asymm q]; rfl
theorem sortD_perm (ds : List D) : (ds.mergeSort leD).Perm ds := List.mergeSort_perm _ _
theorem sortD_sorted (ds : List D) : (ds.mergeSort leD).Pairwise fun a b => ltD b a = false := by
  have h := List.pairwise_mergeSort (le := leD) (fun a b c h1 h2 => leD_trans h1 h2) leD_total ds
  exact List.Pairwise.imp (fun {a b} z => by
    rw [leD_eq, Bool.not_eq_true'] at z
    exact z) h
/-- the sort of encoded things -/
theorem sortD_map {β : Type} {enc : β → D} {le : β → β → Bool} {xs : List β} (h : ∀ a ∈ xs, ∀ b ∈ xs, leD (enc a) (enc b) = le a b) : (xs.map enc).mergeSort leD = (xs.mergeSort le).map enc := (List.map_mergeSort fun a ha b hb => (h a ha b hb).symm).symm
/-! tuples of whole numbers -/
theorem toPys_ints : ∀ xs : List Int, toPys (xs.map D.int) = xs.map PyData.int
  | [] => rfl
  | x :: xs => by rw [List.map_cons, List.map_cons, toPys, toPys_ints xs]; rfl
theorem toPy_ints (xs : List Int) : toPy (.tup (xs.map D.int)) = .tuple (xs.map PyData.int) := by rw [toPy, toPys_ints]
/-- the first difference decides -/
def ltI : List Int → List Int → Bool
  | [], [] => false
  | [], _ :: _ => true
  | _ :: _, [] => false
  | x :: xs, y :: ys => if x = y then ltI xs ys else decide (x < y)
theorem ltI_eq : ∀ xs ys : List Int, PySem.W.listLt xs ys = ltI xs ys
  | [], [] => rfl
  | [], _ :: _ => rfl
  | _ :: _, [] => rfl
  | x :: xs, y :: ys => by
    rw [PySem.W.listLt, ltI, ltI_eq xs ys]
    rfl
theorem lt_ints (xs ys : List Int) : dataLt (.tuple (xs.map PyData.int)) (.tuple (ys.map PyData.int)) = ltI xs ys := by
  rw [← ltI_eq]
  exact DatumOrd.lt_eq (α := Tup Int) ⟨xs⟩ ⟨ys⟩
theorem ltD_ints (xs ys : List Int) : ltD (.tup (xs.map D.int)) (.tup (ys.map D.int)) = ltI xs ys := by
  unfold ltD
  rw [toPy_ints, toPy_ints]
  exact lt_ints xs ys
theorem alike_ints2 (xs ys : List Int) : PySem.W.alike (toPy (.tup (xs.map D.int))) (toPy (.tup (ys.map D.int))) = true := by
  rw [toPy_ints, toPy_ints]
  exact DatumOrd.alike (α := Tup Int) ⟨xs⟩ ⟨ys⟩
theorem depth_ints2 (xs : List Int) : (toPy (.tup (xs.map D.int))).depth = 1 := by
  rw [toPy_ints, PyData.depth, depth_ints]
theorem cmpOk_ints (xs ys : List Int) : cmpOk (.tup (xs.map D.int)) (.tup (ys.map D.int)) = true := by
  unfold cmpOk
  rw [alike_ints2, depth_ints2]
  rfl
theorem sortOk_ints {xss : List (List Int)} (hn : ∀ xs ∈ xss, xs ≠ []) : sortOk (xss.map fun xs => .tup (xs.map D.int)) := by
  refine ⟨fun a ha b hb => ?_, Or.inl fun d hd => ?_, fun a ha => ?_⟩
  · obtain ⟨x, _, rfl⟩ := List.mem_map.mp ha
    obtain ⟨y, _, rfl⟩ := List.mem_map.mp hb
    exact alike_ints2 x y
  · obtain ⟨a, ha, rfl⟩ := List.mem_map.mp hd
    obtain ⟨x, hx, rfl⟩ := List.mem_map.mp ha
    cases x with
    | nil => exact absurd rfl (hn _ hx)
    | cons i is => exact ⟨_, _, toPy_ints (i :: is)⟩
  · obtain ⟨x, _, rfl⟩ := List.mem_map.mp ha
    rw [depth_ints2]
    decide
/-! ### min, max -/
theorem minD_is : ∀ (xs : List PyData) (x : PyData), (minD x xs = x ∨ minD x xs ∈ xs) ∧ dataLt x (minD x xs) = false ∧ ∀ y ∈ xs, dataLt y (minD x xs) = false
  | [], x => ⟨.inl rfl, (listOrd itemOrd).irrefl _, fun y hy => by cases hy⟩
  | z :: xs, x => by
    have e : minD x (z :: xs) = minD (if dataLt z x then z else x) xs := rfl
    obtain ⟨i1, i2, i3⟩ := minD_is xs (if dataLt z x then z else x)
    rw [e]
    have tr : ∀ {a b c : PyData}, dataLt a b = false → dataLt b c = false → dataLt a c = false := fun {a b c} h1 h2 => by
      cases q : dataLt a c with
      | false => rfl
      | true =>
        rcases (listOrd itemOrd).negTrans _ (keyToks b) _ q with w | w
        · have w' : dataLt a b = true := w
          rw [h1] at w'; cases w'
        · have w' : dataLt b c = true := w
          rw [h2] at w'; cases w'
    have hz : dataLt z (if dataLt z x then z else x) = false := by
      split
      · exact (listOrd itemOrd).irrefl _
      · next q => simpa using q
    have hx : dataLt x (if dataLt z x then z else x) = false := by
      split
      · next q =>
        cases w : dataLt x z with
        | false => rfl
        | true =>
          have : dataLt z z = true := (listOrd itemOrd).trans _ _ _ q w
          have h0 : dataLt z z = false := (listOrd itemOrd).irrefl _
          rw [h0] at this; cases this
      · exact (listOrd itemOrd).irrefl _
    refine ⟨?_, tr hx i2, fun y hy => ?_⟩
    · rcases i1 with i1 | i1
      · rw [i1]
        split
        · exact .inr List.mem_cons_self
        · exact .inl rfl
      · exact .inr (List.mem_cons_of_mem _ i1)
    · rcases List.mem_cons.mp hy with rfl | hy
      · exact tr hz i2
      · exact i3 y hy
def rMinO (K : PySem.W.Frag) : List V → Hp → VK → Prop := fun xs H Q => ∃ (a : Addr) (bs : List (V × PyData)), xs = [.ref a] ∧ (SqL K H a (bs.map (·.1)) ∨ SqT K H a (bs.map (·.1))) ∧ bs ≠ [] ∧ (∀ p ∈ bs, Dp K H p.1 p.2) ∧ AlikeAll (bs.map (·.2)) ∧ PyData.depthAll (bs.map (·.2)) ≤ 40 ∧
  ∀ p ∈ bs, (∀ q ∈ bs, dataLt q.2 p.2 = false) → Q p.1 H
theorem cr_minO {X : Cx} (hc : X.calm = true) (hu : X.A.units + 64 < cLine) : CallR X (.builtin "min") (rMinO X.K) := by
  intro pins s σ H vs us Q I r h
  obtain ⟨a, bs, rfl, hs, hne, hdp, hal, hdep, q⟩ := h
  cases bs with
  | nil => exact absurd rfl hne
  | cons b0 bs =>
    rw [Vals.ref1 r]
    have core : ∀ (its : List Value), Vals ((b0 :: bs).map (·.1)) its → (∃ as, ReadsAll s.heap its.toArray.toList (b0.2 :: bs.map (·.2)) as) ∧
        ∀ (i : Nat) v h' tk bs', its.toArray[i]? = some v → Reads h' v (minD b0.2 (bs.map (·.2))) bs' → (∀ b o, s.heap.get? b = some o → h'.get? b = some o) → EP X pins σ Q v { s with heap := h', toks := tk } := fun its rv => by
      have e := vals_each2 (f := Prod.fst) rv
      obtain ⟨as, hra⟩ := each_readsAll Prod.snd (each_mono2 e fun v b hb h => (hdp b hb).reads I _ _ _ h)
      refine ⟨⟨as, by simpa using hra⟩, fun i v h' tk bs' hv hr hk => ?_⟩
      obtain ⟨hi, hv'⟩ := List.getElem?_eq_some_iff.mp (show its[i]? = some v by simpa using hv)
      have hl := rv.length
      rw [List.length_map] at hl
      have hib : i < (b0 :: bs).length := by omega
      obtain ⟨u, e1, e2⟩ := rv.get (i := i) (x := ((b0 :: bs)[i]).1) (by rw [List.getElem?_map, List.getElem?_eq_getElem hib]; rfl)
      have hvu : v = u := by
        rw [List.getElem?_eq_getElem hi, hv'] at e1
        exact Option.some.inj e1
      subst hvu
      have hm : (b0 :: bs)[i] ∈ b0 :: bs := List.getElem_mem hib
      obtain ⟨as2, r2⟩ := (hdp _ hm).reads I _ _ _ e2
      have eq := (Reads.unique (PyProof.Rows.Reads.keeps hk r2) _ _ hr).1
      obtain ⟨_, m2, m3⟩ := minD_is (bs.map (·.2)) b0.2
      rw [← eq] at m2 m3
      exact ⟨_, H, I.kept hk, e2, q _ hm fun p hp => by
        rcases List.mem_cons.mp hp with rfl | hp
        · exact m2
        · exact m3 _ (List.mem_map_of_mem hp)⟩
    have hu2 : X.A.units + 1 + PyData.depthAll (b0.2 :: bs.map (·.2)) < cLine := by
      have : PyData.depthAll (b0.2 :: bs.map (·.2)) ≤ 40 := hdep
      omega
    rcases hs with hs | hs
    · obtain ⟨its, rv, hl, _⟩ := I.list hs
      obtain ⟨⟨as, hra⟩, fin⟩ := core its rv
      exact min_list_data (I.ok.hd hc) hl.isList hra hal hu2 fin
    · obtain ⟨its, rv, hl, _⟩ := I.tuple hs
      obtain ⟨⟨as, hra⟩, fin⟩ := core its rv
      exact min_tuple_data (I.ok.hd hc) hl hra hal hu2 fin
/-- at the level of data -/
def minOk (ds : List D) : Prop := ds ≠ [] ∧ (∀ a ∈ ds, ∀ b ∈ ds, PySem.W.alike (toPy a) (toPy b) = true) ∧ (∀ a ∈ ds, toPy a ≠ .none) ∧ PyData.depthAll (toPys ds) ≤ 40
def minOR : RND
  | [.lst ds], P => minOk ds ∧ ∀ e ∈ ds, (∀ y ∈ ds, ltD y e = false) → P e
  | [.rol ds], P => minOk ds ∧ ∀ e ∈ ds, (∀ y ∈ ds, ltD y e = false) → P e
  | [.tup ds], P => minOk ds ∧ ∀ e ∈ ds, (∀ y ∈ ds, ltD y e = false) → P e
  | _, _ => False
section
variable {K : PySem.W.Frag} {F H : Hp}
theorem toPys_map : ∀ ds : List D, toPys ds = ds.map toPy
  | [] => rfl
  | d :: ds => by rw [toPys, toPys_map ds]; rfl
theorem min_core {ds : List D} {vs : List V} {a : Addr} {P : D → Prop} {Q : VK} (e : Same F H) (hs : SqL K H a vs ∨ SqT K H a vs) (hr : Reps K F ds vs) (ok : minOk ds) (hp : ∀ e ∈ ds, (∀ y ∈ ds, ltD y e = false) → P e) (k : ∀ d v F' H', P d → Grow F H F' H' → Rep K F' d v → Q v H') : rMinO K [.ref a] H Q := by
  obtain ⟨z1, z2, z3⟩ := reps_zip hr
  obtain ⟨o1, o2, o3, o4⟩ := ok
  have m1 : ((vs.zip ds).map fun p => (p.1, toPy p.2)).map (·.1) = vs := by
    rw [List.map_map]
    exact z1
  have m2 : ((vs.zip ds).map fun p => (p.1, toPy p.2)).map (·.2) = ds.map toPy := by
    rw [List.map_map]
    calc _ = ((vs.zip ds).map (·.2)).map toPy := by rw [List.map_map]; rfl
      _ = _ := by rw [z2]
  have mm : ∀ p ∈ (vs.zip ds), p.2 ∈ ds := fun p hp => by
    rw [← z2]
    exact List.mem_map_of_mem hp
  refine ⟨a, (vs.zip ds).map fun p => (p.1, toPy p.2), rfl, by rw [m1]; exact hs, fun z => ?_, fun p hp => ?_, ⟨?_, ?_⟩, by rw [m2, ← toPys_map]; exact o4, fun p hpm hmin => ?_⟩
  · rw [z] at m2
    exact o1 (List.map_eq_nil_iff.mp m2.symm)
  · obtain ⟨b, hb, rfl⟩ := List.mem_map.mp hp
    exact dp_of e _ _ (z3 b hb)
  · rw [m2]
    intro x hx y hy
    obtain ⟨b, hb, rfl⟩ := List.mem_map.mp hx
    obtain ⟨c, hc, rfl⟩ := List.mem_map.mp hy
    exact o2 b hb c hc
  · rw [m2]
    intro x hx
    obtain ⟨b, hb, rfl⟩ := List.mem_map.mp hx
    exact o3 b hb
  · obtain ⟨b, hb, rfl⟩ := List.mem_map.mp hpm
    refine k b.2 b.1 F H (hp b.2 (mm b hb) fun y hy => ?_) (Or.inl ⟨rfl, rfl⟩) (z3 b hb)
    rw [← z2] at hy
    obtain ⟨c, hc, rfl⟩ := List.mem_map.mp hy
    exact hmin _ (List.mem_map_of_mem hc)
theorem cs_minO : CallS K (rMinO K) minOR := fun F H ds xs P Q e hr h k => by
  unfold minOR at h
  split at h
  · obtain ⟨v, rfl, rv⟩ := one_v hr
    obtain ⟨p, vs, rfl, g1, g2⟩ := lst_v rv
    exact min_core e (.inl (SqL.of g1)) g2 h.1 h.2 k
  · obtain ⟨v, rfl, rv⟩ := one_v hr
    obtain ⟨p, vs, rfl, g1, g2⟩ := rol_v rv
    exact min_core e (.inl (same_l e g1)) g2 h.1 h.2 k
  · obtain ⟨v, rfl, rv⟩ := one_v hr
    obtain ⟨p, vs, rfl, g1, g2⟩ := tup_v rv
    exact min_core e (.inr (same_t e g1)) g2 h.1 h.2 k
  · exact h.elim
end
section
variable {ds : List D} {P : D → Prop} {PL : List D → Prop}
theorem ev_minOl : minOR [.lst ds] P = (minOk ds ∧ ∀ e ∈ ds, (∀ y ∈ ds, ltD y e = false) → P e) := rfl
theorem ev_minOr : minOR [.rol ds] P = (minOk ds ∧ ∀ e ∈ ds, (∀ y ∈ ds, ltD y e = false) → P e) := rfl
theorem ev_minOt : minOR [.tup ds] P = (minOk ds ∧ ∀ e ∈ ds, (∀ y ∈ ds, ltD y e = false) → P e) := rfl
theorem ev_sortOl : sortOR [.lst ds] PL = (sortOk ds ∧ PL (ds.mergeSort leD)) := rfl
theorem ev_sortOr : sortOR [.rol ds] PL = (sortOk ds ∧ PL (ds.mergeSort leD)) := rfl
end
theorem minOk_int {ns : List Int} (h : ns ≠ []) : minOk (ns.map D.int) := by
  refine ⟨fun z => h (List.map_eq_nil_iff.mp z), fun a ha b hb => ?_, fun a ha => ?_, ?_⟩
  · obtain ⟨x, _, rfl⟩ := List.mem_map.mp ha
    obtain ⟨y, _, rfl⟩ := List.mem_map.mp hb
    exact DatumOrd.alike (α := Int) x y
  · obtain ⟨x, _, rfl⟩ := List.mem_map.mp ha
    intro z
    cases z
  · rw [toPys_ints, depth_ints]
    decide
theorem minOk_ints {xss : List (List Int)} (h : xss ≠ []) : minOk (xss.map fun xs => .tup (xs.map D.int)) := by
  refine ⟨fun z => h (List.map_eq_nil_iff.mp z), fun a ha b hb => ?_, fun a ha => ?_, ?_⟩
  · obtain ⟨x, _, rfl⟩ := List.mem_map.mp ha
    obtain ⟨y, _, rfl⟩ := List.mem_map.mp hb
    exact alike_ints2 x y
  · obtain ⟨x, _, rfl⟩ := List.mem_map.mp ha
    intro z
    rw [toPy_ints] at z
    cases z
  · have : ∀ l : List (List Int), PyData.depthAll (toPys (l.map fun xs => .tup (xs.map D.int))) ≤ 1 := fun l => by
      induction l with
      | nil => exact Nat.zero_le _
      | cons x l ih =>
        rw [List.map_cons, toPys, PyData.depthAll, depth_ints2]
        exact Nat.max_le.mpr ⟨Nat.le_refl _, ih⟩
    exact Nat.le_trans (this _) (by decide)
theorem ltD_int (a b : Int) : ltD (.int a) (.int b) = decide (a < b) := dataLt_int a b
end Dl

/-! Dl: how shares change with the weights and the total; plain mathematics. -/
namespace Dl
open PySem L2
section
variable {t : Int} {ws a : List Int}
theorem extra_pos (hW : 0 < ws.sum) (A : IsShare t ws a) {k : Nat} (hk : k < ws.length) (e : ga a k - t * ga ws k / ws.sum = 1) : 0 < t * ga ws k % ws.sum := by
  obtain ⟨l, l1, l2, l3⟩ := price hW A
  have := (l3 k hk).2 e
  omega
theorem divmod (x W : Int) : x / W * W + x % W = x := by
  rw [Int.mul_comm]
  exact Int.mul_ediv_add_emod _ _
theorem share_le (hW : 0 < ws.sum) (hw : ∀ w ∈ ws, 0 ≤ w) (A : IsShare t ws a) (ht : t ≤ ws.sum) {k : Nat} (hk : k < ws.length) : ga a k ≤ ga ws k := by
  have h0 := hw _ (ga_mem hk)
  have lo := A.low k hk
  have hi := A.top k hk
  have hm : t * ga ws k ≤ ga ws k * ws.sum := by
    rw [Int.mul_comm (ga ws k)]
    exact Int.mul_le_mul_of_nonneg_right ht h0
  have hd := divmod (t * ga ws k) ws.sum
  have hr := Int.emod_nonneg (t * ga ws k) (show ws.sum ≠ 0 by omega)
  have hb : t * ga ws k / ws.sum ≤ ga ws k := Int.le_of_mul_le_mul_right (a := ws.sum) (by omega) hW
  by_cases e : ga a k - t * ga ws k / ws.sum = 1
  · have := extra_pos hW A hk e
    have : t * ga ws k / ws.sum < ga ws k := Int.lt_of_mul_lt_mul_right (a := ws.sum) (by omega) (Int.le_of_lt hW)
    omega
  · omega
theorem share_mono (hW : 0 < ws.sum) (ht : 0 ≤ t) (A : IsShare t ws a) {k j : Nat} (hk : k < ws.length) (hj : j < ws.length) (h : ga ws j < ga ws k) : ga a j ≤ ga a k := by
  have lo := A.low k hk
  have hi := A.top k hk
  have lo' := A.low j hj
  have hi' := A.top j hj
  have hm : t * ga ws j ≤ t * ga ws k := Int.mul_le_mul_of_nonneg_left (Int.le_of_lt h) ht
  have hb : t * ga ws j / ws.sum ≤ t * ga ws k / ws.sum := Int.ediv_le_ediv hW hm
  apply Int.not_lt.mp
  intro z
  have e1 : ga a j - t * ga ws j / ws.sum = 1 := by omega
  have e2 : t * ga ws k / ws.sum = t * ga ws j / ws.sum := by omega
  have pos := extra_pos hW A hj e1
  have o := A.ord k j hk hj (by omega)
  have d1 := divmod (t * ga ws k) ws.sum
  have d2 := divmod (t * ga ws j) ws.sum
  rw [e2] at d1
  have eq : t * ga ws k = t * ga ws j := by omega
  have z0 : t * (ga ws k - ga ws j) = 0 := by rw [Int.mul_sub]; omega
  rcases Int.mul_eq_zero.mp z0 with q | q
  · subst q
    simp at pos
  · omega
theorem share_same (A : IsShare t ws a) {k j : Nat} (hk : k < ws.length) (hj : j < ws.length) (h : ga ws k = ga ws j) (hkj : k < j) : ga a j ≤ ga a k ∧ ga a k ≤ ga a j + 1 := by
  have lo := A.low k hk
  have hi := A.top k hk
  have lo' := A.low j hj
  have hi' := A.top j hj
  rw [h] at lo hi
  refine ⟨Int.not_lt.mp fun z => ?_, by omega⟩
  have := A.ord k j hk hj (by rw [h]; omega)
  rw [h] at this
  omega
theorem sum_scale (f : Int) : ∀ ws : List Int, (ws.map fun w => w * f).sum = ws.sum * f
  | [] => by simp
  | w :: ws => by rw [List.map_cons, List.sum_cons, List.sum_cons, sum_scale f ws, Int.add_mul]
theorem share_scale {f : Int} (hf : 0 < f) (A : IsShare t ws a) : IsShare t (ws.map fun w => w * f) a := by
  have hs := sum_scale f ws
  have hg : ∀ k, k < ws.length → ga (ws.map fun w => w * f) k = ga ws k * f := fun k hk => ga_map (f := fun w => w * f) hk
  have hd : ∀ k, t * (ga ws k * f) / (ws.sum * f) = t * ga ws k / ws.sum := fun k => by rw [← Int.mul_assoc]; exact Int.mul_ediv_mul_of_pos_left _ _ hf
  have hm : ∀ k, t * (ga ws k * f) % (ws.sum * f) = f * (t * ga ws k % ws.sum) := fun k => by
    rw [← Int.mul_assoc, Int.mul_comm _ f, Int.mul_comm _ f]
    exact Int.mul_emod_mul_of_pos _ _ hf
  refine ⟨by rw [List.length_map]; exact A.len, A.sum, fun k hk => ?_, fun k hk => ?_, fun k j hk hj h => ?_⟩
  · rw [List.length_map] at hk
    rw [hs, hg k hk, hd]
    exact A.low k hk
  · rw [List.length_map] at hk
    rw [hs, hg k hk, hd]
    exact A.top k hk
  · rw [List.length_map] at hk hj
    rw [hs, hg k hk, hg j hj, hd, hd] at h
    rw [hs, hg k hk, hg j hj, hm, hm]
    rcases A.ord k j hk hj h with z | ⟨z1, z2⟩
    · exact .inl (Int.mul_lt_mul_of_pos_left z hf)
    · exact .inr ⟨by rw [z1], z2⟩
theorem appF_scale {f : Int} (hf : 0 < f) (hw : ∀ w ∈ ws, 0 ≤ w) : appF t (ws.map fun w => w * f) = appF t ws := by
  have h0 := sum_nonneg hw
  by_cases h : ws.sum = 0
  · rw [appF_zero h, appF_zero (by rw [sum_scale, h, Int.zero_mul]), List.length_map]
  · have hW : 0 < ws.sum := by omega
    exact share_eq (by rw [sum_scale]; exact Int.mul_pos hW hf) (share_scale hf (appF_is hW))
/-- place by place -/
def addL (xs ys : List Int) : List Int := (List.range ys.length).map fun k => ga xs k + ga ys k
theorem addL_len {xs ys : List Int} : (addL xs ys).length = ys.length := by
  unfold addL
  rw [List.length_map, List.length_range]
theorem addL_at {xs ys : List Int} {k : Nat} (hk : k < ys.length) : ga (addL xs ys) k = ga xs k + ga ys k := by
  unfold addL
  rw [ga_at (by rw [List.length_map, List.length_range]; exact hk), List.getElem_map, List.getElem_range]
theorem share_plus (hW : 0 < ws.sum) (A : IsShare t ws a) : IsShare (t + ws.sum) ws (addL a ws) := by
  have hd : ∀ k, (t + ws.sum) * ga ws k / ws.sum = t * ga ws k / ws.sum + ga ws k := fun k => by
    rw [Int.add_mul, Int.mul_comm ws.sum]
    exact Int.add_mul_ediv_right _ _ (by omega)
  have hm : ∀ k, (t + ws.sum) * ga ws k % ws.sum = t * ga ws k % ws.sum := fun k => by
    rw [Int.add_mul, Int.mul_comm ws.sum]
    exact Int.add_mul_emod_self_right _ _ _
  refine ⟨addL_len, ?_, fun k hk => ?_, fun k hk => ?_, fun k j hk hj h => ?_⟩
  · rw [rsum_ga (addL a ws), addL_len, rsum_congr fun k hk => addL_at hk, rsum_add]
    have e1 := A.sum
    rw [rsum_ga a, A.len] at e1
    rw [e1, ← rsum_ga ws]
  · rw [hd, addL_at hk]
    have := A.low k hk
    omega
  · rw [hd, addL_at hk]
    have := A.top k hk
    omega
  · rw [hd, hd, addL_at hk, addL_at hj] at h
    rw [hm, hm]
    exact A.ord k j hk hj (by omega)
theorem appF_plus (hw : ∀ w ∈ ws, 0 ≤ w) : appF (t + ws.sum) ws = addL (appF t ws) ws := by
  have h0 := sum_nonneg hw
  by_cases h : ws.sum = 0
  · rw [appF_zero h, appF_zero h]
    refine ga_ext (by rw [List.length_replicate, addL_len]) fun k hk => ?_
    rw [List.length_replicate] at hk
    rw [addL_at hk, sum_zero hw h _ (ga_mem hk)]
    omega
  · have hW : 0 < ws.sum := by omega
    exact share_eq hW (share_plus hW (appF_is hW))
theorem share_more {u : Int} {b : List Int} (hW : 0 < ws.sum) (hw : ∀ w ∈ ws, 0 ≤ w) (A : IsShare t ws a) (B : IsShare u ws b) (h : t ≤ u) {k : Nat} (hk : k < ws.length) : ga a k - 1 ≤ ga b k := by
  have hi := A.top k hk
  have lo := B.low k hk
  have hm : t * ga ws k ≤ u * ga ws k := Int.mul_le_mul_of_nonneg_right h (hw _ (ga_mem hk))
  have hb : t * ga ws k / ws.sum ≤ u * ga ws k / ws.sum := Int.ediv_le_ediv hW hm
  omega
/-- a 0 put in at the place i -/
def putZ (i : Nat) (xs : List Int) : List Int := xs.take i ++ [0] ++ xs.drop i
theorem putZ_len {i : Nat} {xs : List Int} (h : i ≤ xs.length) : (putZ i xs).length = xs.length + 1 := by
  unfold putZ
  simp only [List.length_append, List.length_take, List.length_drop, List.length_singleton]
  omega
theorem putZ_at {i k : Nat} {xs : List Int} (h : i ≤ xs.length) : ga (putZ i xs) k = if k < i then ga xs k else if k = i then 0 else ga xs (k - 1) := by
  unfold putZ ga
  rw [List.getD_eq_getElem?_getD, List.getD_eq_getElem?_getD, List.getD_eq_getElem?_getD]
  by_cases h1 : k < i
  · rw [if_pos h1, List.getElem?_append_left (by simp; omega), List.getElem?_append_left (by simp; omega), List.getElem?_take, if_pos h1]
  · rw [if_neg h1]
    by_cases h2 : k = i
    · subst h2
      rw [if_pos rfl, List.getElem?_append_left (by simp; omega), List.getElem?_append_right (by simp; omega)]
      simp [Nat.min_eq_left h]
    · rw [if_neg h2, List.getElem?_append_right (by simp; omega), List.getElem?_drop]
      simp only [List.length_append, List.length_take, List.length_singleton]
      rw [Nat.min_eq_left h, show i + (k - (i + 1)) = k - 1 by omega]
theorem putZ_sum {i : Nat} {xs : List Int} : (putZ i xs).sum = xs.sum := by
  unfold putZ
  rw [List.sum_append, List.sum_append]
  have := congrArg List.sum (List.take_append_drop i xs)
  rw [List.sum_append] at this
  simp
  omega
theorem share_put {i : Nat} (hi : i ≤ ws.length) (hW : 0 < ws.sum) (A : IsShare t ws a) : IsShare t (putZ i ws) (putZ i a) := by
  have hi' : i ≤ a.length := by rw [A.len]; exact hi
  have pa : ∀ k, ga (putZ i a) k = if k < i then ga a k else if k = i then 0 else ga a (k - 1) := fun k => putZ_at hi'
  have pw : ∀ k, ga (putZ i ws) k = if k < i then ga ws k else if k = i then 0 else ga ws (k - 1) := fun k => putZ_at hi
  have z0 : t * 0 / ws.sum = 0 := by rw [Int.mul_zero]; exact Int.zero_ediv _
  have z1 : t * 0 % ws.sum = 0 := by rw [Int.mul_zero]; exact Int.zero_emod _
  refine ⟨by rw [putZ_len hi', putZ_len hi, A.len], by rw [putZ_sum]; exact A.sum, fun k hk => ?_, fun k hk => ?_, fun k j hk hj h => ?_⟩
  · rw [putZ_len hi] at hk
    rw [putZ_sum, pa, pw]
    split
    · exact A.low k (by omega)
    · split
      · rw [z0]; exact Int.le_refl _
      · exact A.low (k - 1) (by omega)
  · rw [putZ_len hi] at hk
    rw [putZ_sum, pa, pw]
    split
    · exact A.top k (by omega)
    · split
      · rw [z0]; omega
      · exact A.top (k - 1) (by omega)
  · rw [putZ_len hi] at hk hj
    rw [putZ_sum, pa, pa, pw, pw] at h
    rw [putZ_sum, pw, pw]
    -- the places ahead of the insertion
    have main : ∀ k' j' : Nat, k' < ws.length → j' < ws.length → (j' < k' → j < k) → ga a k' - t * ga ws k' / ws.sum < ga a j' - t * ga ws j' / ws.sum → t * ga ws k' % ws.sum < t * ga ws j' % ws.sum ∨ (t * ga ws k' % ws.sum = t * ga ws j' % ws.sum ∧ j < k) := fun k' j' h1 h2 h3 h4 => by
      rcases A.ord k' j' h1 h2 h4 with z | ⟨z, z'⟩
      · exact .inl z
      · exact .inr ⟨z, h3 z'⟩
    have zero : ∀ j' : Nat, j' < ws.length → 0 - t * 0 / ws.sum < ga a j' - t * ga ws j' / ws.sum → t * 0 % ws.sum < t * ga ws j' % ws.sum := fun j' h1 h2 => by
      rw [z0] at h2
      rw [z1]
      refine extra_pos hW A h1 ?_
      have := A.top j' h1
      omega
    have none : ∀ k' : Nat, k' < ws.length → ga a k' - t * ga ws k' / ws.sum < 0 - t * 0 / ws.sum → False := fun k' h1 h2 => by
      rw [z0] at h2
      have := A.low k' h1
      omega
    by_cases k1 : k < i
    · simp only [if_pos k1] at h ⊢
      by_cases j1 : j < i
      · simp only [if_pos j1] at h ⊢
        exact main k j (by omega) (by omega) id h
      · simp only [if_neg j1] at h ⊢
        by_cases j2 : j = i
        · simp only [if_pos j2] at h
          exact (none k (by omega) h).elim
        · simp only [if_neg j2] at h ⊢
          exact main k (j - 1) (by omega) (by omega) (by omega) h
    · simp only [if_neg k1] at h ⊢
      by_cases k2 : k = i
      · simp only [if_pos k2] at h ⊢
        by_cases j1 : j < i
        · simp only [if_pos j1] at h ⊢
          exact .inl (zero j (by omega) h)
        · simp only [if_neg j1] at h ⊢
          by_cases j2 : j = i
          · simp only [if_pos j2] at h
            omega
          · simp only [if_neg j2] at h ⊢
            exact .inl (zero (j - 1) (by omega) h)
      · simp only [if_neg k2] at h ⊢
        by_cases j1 : j < i
        · simp only [if_pos j1] at h ⊢
          exact main (k - 1) j (by omega) (by omega) (by omega) h
        · simp only [if_neg j1] at h ⊢
          by_cases j2 : j = i
          · simp only [if_pos j2] at h
            exact (none (k - 1) (by omega) h).elim
          · simp only [if_neg j2] at h ⊢
            exact main (k - 1) (j - 1) (by omega) (by omega) (by omega) h
theorem appF_put {i : Nat} (hi : i ≤ ws.length) (hw : ∀ w ∈ ws, 0 ≤ w) : appF t (putZ i ws) = putZ i (appF t ws) := by
  have h0 := sum_nonneg hw
  by_cases h : ws.sum = 0
  · rw [appF_zero h, appF_zero (by rw [putZ_sum]; exact h), putZ_len hi]
    refine ga_ext (by rw [List.length_replicate, putZ_len (by rw [List.length_replicate]; exact hi), List.length_replicate]) fun k hk => ?_
    have rz : ∀ (n k : Nat), ga (List.replicate n 0) k = 0 := fun n k => by
      unfold ga
      rw [List.getD_eq_getElem?_getD, List.getElem?_replicate]
      split <;> rfl
    rw [putZ_at (by rw [List.length_replicate]; exact hi), rz, rz, rz]
    split
    · rfl
    · split <;> rfl
  · have hW : 0 < ws.sum := by omega
    exact share_eq (by rw [putZ_sum]; exact hW) (share_put hi hW (appF_is hW))
end
end Dl

/-! Dl: x in l, x not in l, for data of any depth in a list. -/
namespace Dl
open PySem L2 PySem.Spec PyProof.Rows
def inP (x : D) (xs : List D) : Bool := xs.any fun y => eqP y x
def inDR (neg : Bool) : R2D
  | x, .lst ds, P => (shP x = true ∧ shP (.lst ds) = true) ∧ P (.bl (if neg then !inP x ds else inP x ds))
  | x, .rol ds, P => (shP x = true ∧ shP (.lst ds) = true) ∧ P (.bl (if neg then !inP x ds else inP x ds))
  | _, _, _ => False
theorem any_toPys (x : D) : ∀ ds : List D, ((toPys ds).any fun z => PyData.eqv z (toPy x)) = inP x ds
  | [] => rfl
  | d :: ds => by
    have := any_toPys x ds
    show (PyData.eqv (toPy d) (toPy x) || (toPys ds).any fun z => PyData.eqv z (toPy x)) = (eqP d x || inP x ds)
    rw [this]
    rfl
theorem os_inD {K : PySem.W.Frag} : OpS K (rInD K) (inDR false) := fun F H a b x y P Q e ha hb h k => by
  unfold inDR at h
  split at h
  · refine ⟨_, _, dp_v e ha, dp_v e hb, h.1.1, h.1.2, ?_⟩
    rw [any_toPys]
    exact k _ _ F H h.2 (Or.inl ⟨rfl, rfl⟩) rB_
  · refine ⟨_, _, dp_v e ha, dp_v e hb, h.1.1, h.1.2, ?_⟩
    rw [any_toPys]
    exact k _ _ F H h.2 (Or.inl ⟨rfl, rfl⟩) rB_
  · exact h.elim
theorem os_notInD {K : PySem.W.Frag} : OpS K (rNotInD K) (inDR true) := fun F H a b x y P Q e ha hb h k => by
  unfold inDR at h
  split at h
  · refine ⟨_, _, dp_v e ha, dp_v e hb, h.1.1, h.1.2, ?_⟩
    rw [any_toPys]
    exact k _ _ F H h.2 (Or.inl ⟨rfl, rfl⟩) rB_
  · refine ⟨_, _, dp_v e ha, dp_v e hb, h.1.1, h.1.2, ?_⟩
    rw [any_toPys]
    exact k _ _ F H h.2 (Or.inl ⟨rfl, rfl⟩) rB_
  · exact h.elim
theorem ev_inDl {neg : Bool} {d : D} {ds : List D} {P : D → Prop} : inDR neg d (.lst ds) P = ((shP d = true ∧ shP (.lst ds) = true) ∧ P (.bl (if neg then !inP d ds else inP d ds))) := rfl
theorem ev_inDr {neg : Bool} {d : D} {ds : List D} {P : D → Prop} : inDR neg d (.rol ds) P = ((shP d = true ∧ shP (.lst ds) = true) ∧ P (.bl (if neg then !inP d ds else inP d ds))) := rfl
theorem units65 {k : Nat} {A : Around} (r : Room k A) : A.units + 65 < cLine := by
  have := r.un
  omega
theorem shL_ints (xss : List (List Int)) : shP (.lst (xss.map fun xs => .tup (xs.map D.int))) = true := pi_sh (n := 2) (fun d hd => by
  obtain ⟨xs, _, rfl⟩ := List.mem_map.mp hd
  exact fun e he => by
    obtain ⟨i, _, rfl⟩ := List.mem_map.mp he
    trivial) (by decide)
theorem inP_ints (x : List Int) (xss : List (List Int)) : inP (.tup (x.map D.int)) (xss.map fun xs => .tup (xs.map D.int)) = decide (x ∈ xss) := by
  induction xss with
  | nil => rfl
  | cons y ys ih =>
    show (eqP (.tup (y.map D.int)) (.tup (x.map D.int)) || inP _ _) = _
    rw [ih, eqP_ints]
    by_cases h1 : y = x
    · subst h1
      simp
    · have h2 : x ≠ y := fun z => h1 z.symm
      simp [h1, h2]
end Dl

/-! Dl: the intake queue. The stamps accepted so far, in order; the watermarks; what is processed. -/
namespace Dl
open PySem L2
abbrev St3 := Int × Int × Int
def lt3 (a b : St3) : Bool := decide (a.1 < b.1 ∨ (a.1 = b.1 ∧ (a.2.1 < b.2.1 ∨ (a.2.1 = b.2.1 ∧ a.2.2 < b.2.2))))
def le3 (a b : St3) : Bool := !lt3 b a
def s3L (s : St3) : List Int := [s.1, s.2.1, s.2.2]
def s3D (s : St3) : D := .tup [.int s.1, .int s.2.1, .int s.2.2]
theorem s3D_eq (s : St3) : s3D s = .tup ((s3L s).map D.int) := rfl
theorem lt3_iff {a b : St3} : lt3 a b = true ↔ (a.1 < b.1 ∨ (a.1 = b.1 ∧ (a.2.1 < b.2.1 ∨ (a.2.1 = b.2.1 ∧ a.2.2 < b.2.2)))) := decide_eq_true_iff
theorem lt3_not {a b : St3} : lt3 a b = false ↔ ¬ (a.1 < b.1 ∨ (a.1 = b.1 ∧ (a.2.1 < b.2.1 ∨ (a.2.1 = b.2.1 ∧ a.2.2 < b.2.2)))) := decide_eq_false_iff_not
theorem ltD_st (a b : St3) : ltD (s3D a) (s3D b) = lt3 a b := by
  rw [s3D_eq, s3D_eq, ltD_ints]
  obtain ⟨a1, a2, a3⟩ := a
  obtain ⟨b1, b2, b3⟩ := b
  show ltI [a1, a2, a3] [b1, b2, b3] = _
  simp only [ltI, lt3]
  by_cases h1 : a1 = b1
  · subst h1
    by_cases h2 : a2 = b2
    · subst h2
      by_cases h3 : a3 = b3
      · subst h3; simp
      · by_cases q : a3 < b3 <;> simp [h3, q]
    · by_cases q : a2 < b2 <;> simp [h2, q]
  · by_cases q : a1 < b1 <;> simp [h1, q]
theorem st_ext {a b : St3} (h1 : a.1 = b.1) (h2 : a.2.1 = b.2.1) (h3 : a.2.2 = b.2.2) : a = b := by
  obtain ⟨a1, a2, a3⟩ := a
  obtain ⟨b1, b2, b3⟩ := b
  simp only at h1 h2 h3
  rw [h1, h2, h3]
theorem lt3_tri {a b : St3} (h1 : lt3 a b = false) (h2 : lt3 b a = false) : a = b := by
  rw [lt3_not] at h1 h2
  exact st_ext (by omega) (by omega) (by omega)
theorem lt3_trans {a b c : St3} (h1 : lt3 a b = true) (h2 : lt3 b c = true) : lt3 a c = true := by
  rw [lt3_iff] at *
  omega
theorem lt3_irr (a : St3) : lt3 a a = false := by
  rw [lt3_not]
  omega
theorem lt3_asym {a b : St3} (h1 : lt3 a b = true) : lt3 b a = false := by
  rw [lt3_iff] at h1
  rw [lt3_not]
  omega
theorem lt3_ge {a b c : St3} (h1 : lt3 a b = true) (h2 : lt3 c b = false) : lt3 a c = true := by
  rw [lt3_iff] at *
  rw [lt3_not] at h2
  omega
theorem lt3_le {a b c : St3} (h1 : lt3 b a = false) (h2 : lt3 b c = true) : lt3 a c = true := by
  rw [lt3_iff] at *
  rw [lt3_not] at h1
  omega
def srt (A : List St3) : List St3 := A.mergeSort le3
theorem srt_perm (A : List St3) : (srt A).Perm A := List.mergeSort_perm _ _
theorem srt_mem {A : List St3} {s : St3} : s ∈ srt A ↔ s ∈ A := (srt_perm A).mem_iff
theorem srt_le (A : List St3) : (srt A).Pairwise fun a b => lt3 b a = false := by
  have := List.pairwise_mergeSort (le := le3) (fun a b c h1 h2 => by
    unfold le3 at *
    rw [Bool.not_eq_true', lt3_not] at *
    omega) (fun a b => by
    unfold le3
    cases h : lt3 b a
    · rfl
    · rw [lt3_asym h]; rfl) A
  exact this.imp fun {a b} h => by
    unfold le3 at h
    rw [Bool.not_eq_true'] at h
    exact h
theorem pw_uniq : ∀ {l m : List St3}, l.Perm m → l.Pairwise (fun a b => lt3 b a = false) → m.Pairwise (fun a b => lt3 b a = false) → l = m
  | [], m, h, _, _ => (List.Perm.eq_nil h.symm).symm
  | x :: l, [], h, _, _ => List.Perm.eq_nil h
  | x :: l, y :: m, h, h1, h2 => by
    rw [List.pairwise_cons] at h1 h2
    have e : x = y := by
      have a1 : x ∈ y :: m := h.mem_iff.mp List.mem_cons_self
      have a2 : y ∈ x :: l := h.mem_iff.mpr List.mem_cons_self
      rcases List.mem_cons.mp a1 with q | q
      · exact q
      rcases List.mem_cons.mp a2 with p | p
      · exact p.symm
      exact lt3_tri (h2.1 _ q) (h1.1 _ p)
    subst e
    rw [pw_uniq (h.cons_inv) h1.2 h2.2]
theorem srt_eq {A B : List St3} (h : A.Perm B) : srt A = srt B := pw_uniq ((srt_perm A).trans (h.trans (srt_perm B).symm)) (srt_le A) (srt_le B)
theorem srt_of {l A : List St3} (h : l.Perm A) (p : l.Pairwise fun a b => lt3 b a = false) : l = srt A := pw_uniq (h.trans (srt_perm A).symm) p (srt_le A)
theorem srt_lt {A : List St3} (h : A.Nodup) : (srt A).Pairwise fun a b => lt3 a b = true := by
  have h1 := srt_le A
  have h2 : (srt A).Nodup := (srt_perm A).nodup_iff.mpr h
  rw [List.Nodup] at h2
  have := h1.and h2
  exact this.imp fun {a b} q => by
    cases e : lt3 a b
    · exact absurd (lt3_tri e q.1) q.2
    · rfl
theorem srtD (A : List St3) : (A.map s3D).mergeSort leD = (srt A).map s3D := sortD_map fun a _ b _ => by
  rw [leD_eq, ltD_st]
  rfl
theorem map_s3L (A : List St3) : A.map s3D = (A.map s3L).map fun xs => .tup (xs.map D.int) := by rw [List.map_map]; rfl
theorem sortOk_st (A : List St3) : sortOk (A.map s3D) := by
  rw [map_s3L]
  exact sortOk_ints fun xs hx => by
    obtain ⟨s, _, rfl⟩ := List.mem_map.mp hx
    nofun
theorem cmpOk_st (a b : St3) : cmpOk (s3D a) (s3D b) = true := cmpOk_ints (s3L a) (s3L b)
theorem minOk_st {A : List St3} (h : A ≠ []) : minOk (A.map s3D) := by
  rw [map_s3L]
  exact minOk_ints (by cases A with
    | nil => exact absurd rfl h
    | cons _ _ => nofun)
theorem shL_st (A : List St3) : shP (.lst (A.map s3D)) = true := by
  rw [map_s3L]
  exact shL_ints _
theorem s3L_inj {a b : St3} (h : s3L a = s3L b) : a = b := by
  unfold s3L at h
  injection h with h1 h
  injection h with h2 h
  injection h with h3 h
  exact st_ext h1 h2 h3
theorem in_st (t : St3) (A : List St3) : inP (s3D t) (A.map s3D) = decide (t ∈ A) := by
  rw [map_s3L, s3D_eq, inP_ints, Bool.eq_iff_iff, decide_eq_true_eq, decide_eq_true_eq, List.mem_map]
  exact ⟨fun ⟨u, hu, e⟩ => s3L_inj e ▸ hu, fun h => ⟨t, h, rfl⟩⟩
/-! a sorted list cut by a downward closed mark -/
theorem q_cut {l : List St3} {p : St3 → Bool} (hl : l.Pairwise fun a b => lt3 a b = true) (hp : ∀ a ∈ l, ∀ b ∈ l, lt3 a b = true → p b = true → p a = true) : l = l.filter p ++ l.filter (fun s => !p s) := by
  induction l with
  | nil => rfl
  | cons x l ih =>
    rw [List.pairwise_cons] at hl
    have ih := ih hl.2 fun a ha b hb => hp a (List.mem_cons_of_mem _ ha) b (List.mem_cons_of_mem _ hb)
    cases e : p x
    · have none : ∀ y ∈ l, p y = false := fun y hy => by
        cases q : p y
        · rfl
        · rw [hp x List.mem_cons_self y (List.mem_cons_of_mem _ hy) (hl.1 y hy) q] at e
          cases e
      rw [List.filter_cons_of_neg (by rw [e]; nofun), List.filter_eq_nil_iff.mpr fun y hy => by rw [none y hy]; nofun, List.filter_cons_of_pos (by rw [e]; rfl), List.filter_eq_self.mpr fun y hy => by rw [none y hy]; rfl, List.nil_append]
    · rw [List.filter_cons_of_pos e, List.filter_cons_of_neg (by rw [e]; nofun), List.cons_append, ← ih]
theorem q_drop {l : List St3} {p : St3 → Bool} (hl : l.Pairwise fun a b => lt3 a b = true) (hp : ∀ a ∈ l, ∀ b ∈ l, lt3 a b = true → p b = true → p a = true) : l.drop (l.filter p).length = l.filter (fun s => !p s) := by
  have := q_cut hl hp
  calc l.drop (l.filter p).length = (l.filter p ++ l.filter (fun s => !p s)).drop (l.filter p).length := by rw [← this]
    _ = _ := by rw [List.drop_left]
theorem q_two {l : List St3} {p q : St3 → Bool} (hl : l.Pairwise fun a b => lt3 a b = true) (hp : ∀ a ∈ l, ∀ b ∈ l, lt3 a b = true → p b = true → p a = true) (hpq : ∀ a ∈ l, p a = true → q a = true) : l.filter q = l.filter p ++ l.filter (fun s => q s && !p s) := by
  have h1 := q_cut (l := l.filter q) (p := p) (hl.filter _) fun a ha b hb => hp a (List.mem_filter.mp ha).1 b (List.mem_filter.mp hb).1
  rw [List.filter_filter, List.filter_filter] at h1
  rw [h1]
  congr 1
  · exact List.filter_congr fun a ha => by
      cases e : p a
      · rfl
      · rw [hpq a ha e]; rfl
  · exact List.filter_congr fun a _ => Bool.and_comm _ _
/-! the accepted stamps -/
structure VA (k : Nat) (A : List St3) : Prop where
  day : ∀ s ∈ A, 0 ≤ s.1
  off : ∀ s ∈ A, 0 ≤ s.2.1 ∧ s.2.1 < (k : Int)
  num : ∀ s ∈ A, 1 ≤ s.2.2
  key : ∀ s ∈ A, ∀ t ∈ A, s.2.1 = t.2.1 → s.2.2 = t.2.2 → s = t
  mono : ∀ s ∈ A, ∀ t ∈ A, s.2.1 = t.2.1 → s.2.2 < t.2.2 → s.1 ≤ t.1
  nodup : A.Nodup
theorem VA.nil {k : Nat} : VA k [] := ⟨nofun, nofun, nofun, nofun, nofun, .nil⟩
theorem VA.perm {k : Nat} {A B : List St3} (h : VA k A) (p : A.Perm B) : VA k B := ⟨fun s hs => h.day s (p.mem_iff.mpr hs), fun s hs => h.off s (p.mem_iff.mpr hs), fun s hs => h.num s (p.mem_iff.mpr hs), fun s hs t ht => h.key s (p.mem_iff.mpr hs) t (p.mem_iff.mpr ht), fun s hs t ht => h.mono s (p.mem_iff.mpr hs) t (p.mem_iff.mpr ht), p.nodup_iff.mp h.nodup⟩
theorem VA.sub {k : Nat} {A B : List St3} (h : VA k A) (hs : ∀ s ∈ B, s ∈ A) (hn : B.Nodup) : VA k B := ⟨fun s q => h.day s (hs s q), fun s q => h.off s (hs s q), fun s q => h.num s (hs s q), fun s q t p => h.key s (hs s q) t (hs t p), fun s q t p => h.mono s (hs s q) t (hs t p), hn⟩
/-- the numbers of an office are there from 1 to q, q + 1 is not; d is the day of q -/
structure IsW (A : List St3) (o : Int) (q d : Int) : Prop where
  ge : 0 ≤ q
  all : ∀ n, 1 ≤ n → n ≤ q → ∃ e, (e, o, n) ∈ A
  out : ∀ e, (e, o, q + 1) ∉ A
  day : q = 0 ∧ d = 0 ∨ (d, o, q) ∈ A
open Classical in
noncomputable def wm (A : List St3) (o : Int) : Int × Int := if h : ∃ p : Int × Int, IsW A o p.1 p.2 then Classical.choose h else (0, 0)
theorem IsW.uniq {k : Nat} {A : List St3} {o q d q2 d2 : Int} (hA : VA k A) (h : IsW A o q d) (h2 : IsW A o q2 d2) : q = q2 ∧ d = d2 := by
  have e : q = q2 := by
    have g1 := h.ge
    have g2 := h2.ge
    rcases Int.lt_trichotomy q q2 with x | x | x
    · obtain ⟨e, he⟩ := h2.all (q + 1) (by omega) (by omega)
      exact absurd he (h.out e)
    · exact x
    · obtain ⟨e, he⟩ := h.all (q2 + 1) (by omega) (by omega)
      exact absurd he (h2.out e)
  subst e
  refine ⟨rfl, ?_⟩
  rcases h.day with ⟨a, b⟩ | a <;> rcases h2.day with ⟨c, e⟩ | c
  · omega
  · have := hA.num _ c
    simp only at this
    omega
  · have := hA.num _ a
    simp only at this
    omega
  · have := hA.key _ a _ c rfl rfl
    exact congrArg (·.1) this
theorem wm_of {k : Nat} {A : List St3} {o q d : Int} (hA : VA k A) (h : IsW A o q d) : wm A o = (q, d) := by
  have ex : ∃ p : Int × Int, IsW A o p.1 p.2 := ⟨(q, d), h⟩
  unfold wm
  rw [dif_pos ex]
  have := (Classical.choose_spec ex).uniq hA h
  exact Prod.ext this.1 this.2
theorem isW_perm {A B : List St3} {o q d : Int} (h : IsW A o q d) (p : ∀ s, s ∈ A ↔ s ∈ B) : IsW B o q d := ⟨h.ge, fun n a b => by
  obtain ⟨e, he⟩ := h.all n a b
  exact ⟨e, (p _).mp he⟩, fun e he => h.out e ((p _).mpr he), h.day.imp id fun x => (p _).mp x⟩

/-! the numbers without a hole, taken one behind another -/
def advF (o : Int) : Int × Int → List St3 → Int × Int
  | p, [] => p
  | p, u :: l => if u.2.1 = o ∧ u.2.2 = p.1 + 1 then advF o (u.2.2, u.1) l else advF o p l
theorem adv_go {k : Nat} {A : List St3} {o : Int} (hA : VA k A) : ∀ (l pre : List St3) (q d : Int), (pre ++ l).Pairwise (fun a b => lt3 a b = true) → (∀ s ∈ pre ++ l, s ∈ A) → 0 ≤ q → (∀ n, 1 ≤ n → n ≤ q → ∃ e, (e, o, n) ∈ A) → (q = 0 ∧ d = 0 ∨ (d, o, q) ∈ A) → (∀ t ∈ A, t ∉ pre ++ l → t.2.1 = o → t.2.2 ≤ q) → (∀ t ∈ pre, t.2.1 = o → t.2.2 ≠ q + 1) → IsW A o (advF o (q, d) l).1 (advF o (q, d) l).2
  | [], pre, q, d, _, _, h0, ha, hd, hn, hp => ⟨h0, ha, fun e he => by
      rw [List.append_nil] at hn
      by_cases g : (e, o, q + 1) ∈ pre
      · exact hp _ g rfl rfl
      · have : q + 1 ≤ q := hn (e, o, q + 1) he g rfl
        omega, hd⟩
  | u :: l, pre, q, d, hw, hs, h0, ha, hd, hn, hp => by
    have e : pre ++ u :: l = (pre ++ [u]) ++ l := by rw [List.append_assoc]; rfl
    have hu : u ∈ A := hs u (List.mem_append_right _ List.mem_cons_self)
    have before : ∀ t ∈ pre, lt3 t u = true := fun t ht => (List.pairwise_append.mp hw).2.2 t ht u List.mem_cons_self
    show IsW A o (if u.2.1 = o ∧ u.2.2 = q + 1 then advF o (u.2.2, u.1) l else advF o (q, d) l).1 (if u.2.1 = o ∧ u.2.2 = q + 1 then advF o (u.2.2, u.1) l else advF o (q, d) l).2
    by_cases g : u.2.1 = o ∧ u.2.2 = q + 1
    · rw [if_pos g]
      have hu2 : (u.1, o, u.2.2) ∈ A := by
        rw [← g.1]
        exact hu
      refine adv_go hA l (pre ++ [u]) u.2.2 u.1 (e ▸ hw) (e ▸ hs) (by omega) (fun n a b => ?_) (.inr hu2) (fun t ht hx ho => ?_) fun t ht ho hx => ?_
      · by_cases c : n = u.2.2
        · exact ⟨u.1, by rw [c]; exact hu2⟩
        · exact ha n a (by omega)
      · have := hn t ht (by rw [e]; exact hx) ho
        omega
      · rcases List.mem_append.mp ht with z | z
        · have h1 := before t z
          have h2 := hA.mono u hu t (hs t (List.mem_append_left _ z)) (by rw [g.1, ho]) (by omega)
          rw [lt3_iff] at h1
          have := g.1
          omega
        · rw [List.mem_singleton.mp z] at hx
          omega
    · rw [if_neg g]
      refine adv_go hA l (pre ++ [u]) q d (e ▸ hw) (e ▸ hs) h0 ha hd (fun t ht hx ho => hn t ht (by rw [e]; exact hx) ho) fun t ht ho hx => ?_
      rcases List.mem_append.mp ht with z | z
      · exact hp t z ho hx
      · rw [List.mem_singleton.mp z] at hx ho
        exact g ⟨ho, hx⟩
theorem isW_wm {k : Nat} {A : List St3} (hA : VA k A) (o : Int) : IsW A o (wm A o).1 (wm A o).2 := by
  have := adv_go (o := o) hA (srt A) [] 0 0 (srt_lt hA.nodup) (fun s hs => srt_mem.mp hs) (by omega) (fun n a b => by omega) (.inl ⟨rfl, rfl⟩) (fun t ht hx => absurd (srt_mem.mpr ht) hx) nofun
  have e := wm_of hA this
  rw [e]
  exact this
theorem wm_perm {k : Nat} {A B : List St3} (hA : VA k A) (p : A.Perm B) (o : Int) : wm B o = wm A o := wm_of (hA.perm p) (isW_perm (isW_wm hA o) fun _ => p.mem_iff)
theorem wm_nil (o : Int) : wm [] o = (0, 0) := wm_of (k := 0) VA.nil ⟨by omega, fun n a b => by omega, nofun, .inl ⟨rfl, rfl⟩⟩
/-! the least stamps that may still come; what is ready -/
noncomputable def fst3 (A : List St3) (o : Int) : St3 := ((wm A o).2, o, (wm A o).1 + 1)
noncomputable def fsts (A : List St3) (k : Nat) : List St3 := (List.range k).map fun (o : Nat) => fst3 A (o : Int)
noncomputable def rdy (A : List St3) (k : Nat) (s : St3) : Bool := (fsts A k).all fun f => lt3 s f
theorem rdy_iff {A : List St3} {k : Nat} {s : St3} : rdy A k s = true ↔ ∀ o : Nat, o < k → lt3 s (fst3 A o) = true := by
  unfold rdy fsts
  rw [List.all_map, List.all_eq_true]
  exact ⟨fun h o ho => h o (List.mem_range.mpr ho), fun h o ho => h o (List.mem_range.mp ho)⟩
theorem rdy_down {A : List St3} {k : Nat} {a b : St3} (h : lt3 a b = true) (hb : rdy A k b = true) : rdy A k a = true := rdy_iff.mpr fun o ho => lt3_trans h (rdy_iff.mp hb o ho)
theorem rdy_perm {k : Nat} {A B : List St3} (hA : VA k A) (p : A.Perm B) : rdy B k = rdy A k := by
  funext s
  unfold rdy fsts fst3
  congr 1
  exact List.map_congr_left fun o _ => by rw [wm_perm hA p]
section
variable {k : Nat} {A B : List St3} {s : St3}
theorem off_nat (hA : VA k A) (hs : s ∈ A) : ∃ o : Nat, o < k ∧ s.2.1 = (o : Int) := ⟨s.2.1.toNat, by have := hA.off s hs; omega, by have := hA.off s hs; omega⟩
/-- what has a number behind the hole lies on the day of the watermark or later -/
theorem wm_day (hA : VA k A) (hs : s ∈ A) (h : (wm A s.2.1).1 < s.2.2) : (wm A s.2.1).2 ≤ s.1 := by
  rcases (isW_wm hA s.2.1).day with ⟨_, b⟩ | b
  · rw [b]
    exact hA.day s hs
  · exact hA.mono _ b _ hs rfl h
theorem rdy_num (hA : VA k A) (hs : s ∈ A) (h : rdy A k s = true) : s.2.2 ≤ (wm A s.2.1).1 := by
  obtain ⟨o, ho, e⟩ := off_nat hA hs
  have := rdy_iff.mp h o ho
  rw [← e, lt3_iff] at this
  unfold fst3 at this
  simp only at this
  by_cases g : s.2.2 ≤ (wm A s.2.1).1
  · exact g
  · have := wm_day hA hs (by omega)
    omega
theorem wm_le (hA : VA k A) (hB : VA k B) (hs : ∀ s ∈ A, s ∈ B) (o : Int) : (wm A o).1 ≤ (wm B o).1 ∧ (wm A o).2 ≤ (wm B o).2 := by
  have a := isW_wm hA o
  have b := isW_wm hB o
  have h1 : (wm A o).1 ≤ (wm B o).1 := by
    by_cases g : (wm A o).1 ≤ (wm B o).1
    · exact g
    · have := b.ge
      obtain ⟨e, he⟩ := a.all ((wm B o).1 + 1) (by omega) (by omega)
      exact absurd (hs _ he) (b.out e)
  refine ⟨h1, ?_⟩
  rcases a.day with ⟨_, x⟩ | x
  · rw [x]
    rcases b.day with ⟨_, y⟩ | y
    · omega
    · exact hB.day _ y
  · rcases b.day with ⟨y, _⟩ | y
    · have := hA.num _ x
      simp only at this
      omega
    · by_cases g : (wm A o).1 = (wm B o).1
      · have := hB.key _ (hs _ x) _ y rfl g
        have := congrArg (·.1) this
        simp only at this
        omega
      · exact hB.mono _ (hs _ x) _ y rfl (by show (wm A o).1 < (wm B o).1; omega)
theorem rdy_mono (hA : VA k A) (hB : VA k B) (hs : ∀ s ∈ A, s ∈ B) (h : rdy A k s = true) : rdy B k s = true := rdy_iff.mpr fun o ho => by
  refine lt3_ge (rdy_iff.mp h o ho) ?_
  have := wm_le hA hB hs o
  rw [lt3_not]
  unfold fst3
  simp only
  omega
theorem new_num (hB : VA k (A ++ [s])) (hA : VA k A) : (wm A s.2.1).1 < s.2.2 ∧ (wm A s.2.1).2 ≤ s.1 := by
  have hs : s ∈ A ++ [s] := List.mem_append_right _ List.mem_cons_self
  have hn : s ∉ A := fun h => by
    have := List.nodup_append.mp hB.nodup
    exact this.2.2 s h s List.mem_cons_self rfl
  have w := isW_wm hA s.2.1
  have g : (wm A s.2.1).1 < s.2.2 := by
    by_cases g : (wm A s.2.1).1 < s.2.2
    · exact g
    · obtain ⟨e, he⟩ := w.all s.2.2 (hB.num s hs) (by omega)
      have := hB.key _ (List.mem_append_left _ he) _ hs rfl rfl
      rw [this] at he
      exact absurd he hn
  refine ⟨g, ?_⟩
  rcases w.day with ⟨_, x⟩ | x
  · rw [x]
    exact hB.day s hs
  · exact hB.mono _ (List.mem_append_left _ x) _ hs rfl g
theorem new_not (hB : VA k (A ++ [s])) (hA : VA k A) : rdy A k s = false := by
  have hs : s ∈ A ++ [s] := List.mem_append_right _ List.mem_cons_self
  obtain ⟨o, ho, e⟩ := off_nat hB hs
  cases q : rdy A k s
  · rfl
  · have := rdy_iff.mp q o ho
    rw [← e, lt3_iff] at this
    unfold fst3 at this
    simp only at this
    have := new_num hB hA
    omega
end
/-! the queue -/
noncomputable def pnd (A : List St3) (k : Nat) : List St3 := (srt A).filter fun s => !rdy A k s
noncomputable def gn (A : List St3) (k : Nat) : List St3 := (srt A).filter fun s => rdy A k s
noncomputable def wmD (A : List St3) (k : Nat) : D := .tup ((List.range k).map fun (o : Nat) => .tup [.int (wm A (o : Int)).1, .int (wm A (o : Int)).2])
noncomputable def quD (A : List St3) (k : Nat) : D := .tup [wmD A k, .tup ((pnd A k).map s3D)]
noncomputable def nwl (A : List St3) (k : Nat) (s : St3) : List St3 := (srt (A ++ [s])).filter fun t => rdy (A ++ [s]) k t && !rdy A k t
section
variable {k : Nat} {A B : List St3} {s : St3}
theorem gn_pnd (hA : VA k A) : gn A k ++ pnd A k = srt A := (q_cut (srt_lt hA.nodup) fun _ _ _ _ h1 h2 => rdy_down h1 h2).symm
theorem pnd_add (hA : VA k A) (hB : VA k (A ++ [s])) : srt (pnd A k ++ [s]) = (srt (A ++ [s])).filter fun t => !rdy A k t := by
  refine pw_uniq ?_ (srt_le _) ((srt_le _).filter _)
  have h1 : ((srt (A ++ [s])).filter fun t => !rdy A k t).Perm ((A ++ [s]).filter fun t => !rdy A k t) := (srt_perm _).filter _
  have h2 : ((A ++ [s]).filter fun t => !rdy A k t) = (A.filter fun t => !rdy A k t) ++ [s] := by
    rw [List.filter_append, List.filter_cons_of_pos (by rw [new_not hB hA]; rfl), List.filter_nil]
  have h3 : (pnd A k).Perm (A.filter fun t => !rdy A k t) := (srt_perm A).filter _
  rw [h2] at h1
  exact (srt_perm _).trans ((h3.append_right [s]).trans h1.symm)
theorem wm_add (hA : VA k A) (hB : VA k (A ++ [s])) (o : Int) : advF o (wm A o) ((srt (A ++ [s])).filter fun t => !rdy A k t) = wm (A ++ [s]) o := by
  have w := isW_wm hA o
  have sub : ∀ t ∈ A, t ∈ A ++ [s] := fun t ht => List.mem_append_left _ ht
  refine (wm_of hB (adv_go (o := o) hB _ [] (wm A o).1 (wm A o).2 ((srt_lt hB.nodup).filter _) (fun t ht => srt_mem.mp (List.mem_filter.mp ht).1) w.ge (fun n a b => ?_) (w.day.imp id (sub _)) (fun t ht hx ho => ?_) nofun)).symm
  · obtain ⟨e, he⟩ := w.all n a b
    exact ⟨e, sub _ he⟩
  · have r : rdy A k t = true := by
      cases q : rdy A k t
      · exact absurd (List.mem_filter.mpr ⟨srt_mem.mpr ht, by rw [q]; rfl⟩) hx
      · rfl
    have hm : t ∈ A := by
      rcases List.mem_append.mp ht with z | z
      · exact z
      · rw [List.mem_singleton.mp z, new_not hB hA] at r
        cases r
    rw [← ho]
    exact rdy_num hA hm r
theorem rdy_keep (hA : VA k A) (hB : VA k (A ++ [s])) {t : St3} (h : rdy A k t = true) : rdy (A ++ [s]) k t = true := rdy_mono hA hB (fun _ ht => List.mem_append_left _ ht) h
theorem nwl_eq (hA : VA k A) (hB : VA k (A ++ [s])) : ((srt (A ++ [s])).filter fun t => !rdy A k t).filter (fun t => rdy (A ++ [s]) k t) = nwl A k s := by
  rw [List.filter_filter]
  rfl
theorem pnd_drop (hA : VA k A) (hB : VA k (A ++ [s])) : ((srt (A ++ [s])).filter fun t => !rdy A k t).drop (nwl A k s).length = pnd (A ++ [s]) k := by
  rw [← nwl_eq hA hB, q_drop ((srt_lt hB.nodup).filter _) fun _ _ _ _ h1 h2 => rdy_down h1 h2, List.filter_filter]
  exact List.filter_congr fun t _ => by
    cases e : rdy A k t
    · rw [Bool.not_false, Bool.and_true]
    · rw [rdy_keep hA hB e]; rfl
theorem gn_keep (hA : VA k A) (hB : VA k (A ++ [s])) : (srt (A ++ [s])).filter (fun t => rdy A k t) = gn A k := by
  refine pw_uniq ?_ ((srt_le _).filter _) ((srt_le _).filter _)
  have h1 : ((srt (A ++ [s])).filter fun t => rdy A k t).Perm ((A ++ [s]).filter fun t => rdy A k t) := (srt_perm _).filter _
  have h2 : ((A ++ [s]).filter fun t => rdy A k t) = A.filter fun t => rdy A k t := by
    rw [List.filter_append, List.filter_cons_of_neg (by rw [new_not hB hA]; nofun), List.filter_nil, List.append_nil]
  rw [h2] at h1
  exact h1.trans ((srt_perm A).filter _).symm
theorem gn_add (hA : VA k A) (hB : VA k (A ++ [s])) : gn (A ++ [s]) k = gn A k ++ nwl A k s := by
  rw [← gn_keep hA hB]
  exact q_two (srt_lt hB.nodup) (fun _ _ _ _ h1 h2 => rdy_down h1 h2) fun t _ h => rdy_keep hA hB h
theorem pnd_len (hA : VA k A) : (A.length : Int) - ((gn A k).length : Int) = ((pnd A k).length : Int) := by
  have h1 := congrArg List.length (gn_pnd hA)
  rw [List.length_append, (srt_perm A).length_eq] at h1
  omega
theorem gn_mem (hA : VA k A) {t : St3} : t ∈ gn A k ↔ t ∈ A ∧ rdy A k t = true := by
  unfold gn
  rw [List.mem_filter, srt_mem]
theorem pnd_mem (hA : VA k A) {t : St3} : t ∈ pnd A k ↔ t ∈ A ∧ rdy A k t = false := by
  unfold pnd
  rw [List.mem_filter, srt_mem, Bool.not_eq_true']
end
/-! the reasons -/
def dupB (A : List St3) (s : St3) : Bool := A.any fun t => decide (t.2.1 = s.2.1 ∧ t.2.2 = s.2.2)
def oooB (A : List St3) (s : St3) : Bool := A.any fun t => decide (t.2.1 = s.2.1 ∧ (t.2.2 < s.2.2 ∧ s.1 < t.1 ∨ s.2.2 < t.2.2 ∧ t.1 < s.1))
def rsn (A : List St3) (w k : Nat) (s : St3) : Option String :=
  if (k : Int) ≤ s.2.1 then some "unknown office" else if dupB A s = true then some "duplicate" else if oooB A s = true then some "day out of order" else if 12 ≤ w then some "full" else none
def rsD : Option String → D
  | none => .non
  | some t => .str t
noncomputable def sbD (A : List St3) (k : Nat) (s : St3) : D := match rsn A (pnd A k).length k s with
  | none => .tup [.non, .tup ((nwl A k s).map s3D), quD (A ++ [s]) k]
  | some t => .tup [.str t, .tup [], quD A k]
structure Sane (s : St3) : Prop where
  day : 0 ≤ s.1
  off : 0 ≤ s.2.1
  num : 1 ≤ s.2.2
section
variable {k : Nat} {A B : List St3} {s : St3}
theorem dup_iff : dupB A s = true ↔ ∃ t ∈ A, t.2.1 = s.2.1 ∧ t.2.2 = s.2.2 := by
  unfold dupB
  rw [List.any_eq_true]
  exact ⟨fun ⟨t, a, b⟩ => ⟨t, a, of_decide_eq_true b⟩, fun ⟨t, a, b⟩ => ⟨t, a, decide_eq_true b⟩⟩
theorem ooo_iff : oooB A s = true ↔ ∃ t ∈ A, t.2.1 = s.2.1 ∧ (t.2.2 < s.2.2 ∧ s.1 < t.1 ∨ s.2.2 < t.2.2 ∧ t.1 < s.1) := by
  unfold oooB
  rw [List.any_eq_true]
  exact ⟨fun ⟨t, a, b⟩ => ⟨t, a, of_decide_eq_true b⟩, fun ⟨t, a, b⟩ => ⟨t, a, decide_eq_true b⟩⟩
theorem dup_q (hA : VA k A) (hs : Sane s) : (s.2.2 ≤ (wm A s.2.1).1 ∨ ∃ t ∈ pnd A k, t.2.1 = s.2.1 ∧ t.2.2 = s.2.2) ↔ dupB A s = true := by
  rw [dup_iff]
  constructor
  · rintro (h | ⟨t, a, b⟩)
    · obtain ⟨e, he⟩ := (isW_wm hA s.2.1).all s.2.2 hs.num h
      exact ⟨_, he, rfl, rfl⟩
    · exact ⟨t, ((pnd_mem hA).mp a).1, b⟩
  · rintro ⟨t, a, b, c⟩
    cases e : rdy A k t
    · exact .inr ⟨t, (pnd_mem hA).mpr ⟨a, e⟩, b, c⟩
    · have := rdy_num hA a e
      rw [b] at this
      exact .inl (by omega)
theorem ooo_q (hA : VA k A) (hs : Sane s) (hd : dupB A s = false) : (s.1 < (wm A s.2.1).2 ∨ ∃ t ∈ pnd A k, t.2.1 = s.2.1 ∧ (t.2.2 < s.2.2 ∧ s.1 < t.1 ∨ s.2.2 < t.2.2 ∧ t.1 < s.1)) ↔ oooB A s = true := by
  have hq : ¬ s.2.2 ≤ (wm A s.2.1).1 := fun z => by
    rw [(dup_q hA hs).mp (.inl z)] at hd
    cases hd
  have w := isW_wm hA s.2.1
  rw [ooo_iff]
  constructor
  · rintro (h | ⟨t, a, b⟩)
    · rcases w.day with ⟨_, x⟩ | x
      · have := hs.day
        omega
      · exact ⟨_, x, rfl, .inl ⟨by show (wm A s.2.1).1 < s.2.2; omega, h⟩⟩
    · exact ⟨t, ((pnd_mem hA).mp a).1, b⟩
  · rintro ⟨t, a, b, c⟩
    cases e : rdy A k t
    · exact .inr ⟨t, (pnd_mem hA).mpr ⟨a, e⟩, b, c⟩
    · have h1 := rdy_num hA a e
      rw [b] at h1
      refine .inl ?_
      rcases w.day with ⟨x, _⟩ | x
      · have := hA.num t a
        omega
      · have h2 : t.1 ≤ (wm A s.2.1).2 := by
          by_cases g : t.2.2 = (wm A s.2.1).1
          · have := hA.key t a _ x b g
            rw [this]
            exact Int.le_refl _
          · exact hA.mono t a _ x b (by show t.2.2 < (wm A s.2.1).1; omega)
        omega
theorem va_add (hA : VA k A) (hs : Sane s) (ho : s.2.1 < (k : Int)) (hd : dupB A s = false) (hx : oooB A s = false) : VA k (A ++ [s]) := by
  have nd : ∀ t ∈ A, t.2.1 = s.2.1 → t.2.2 ≠ s.2.2 := fun t ht a b => by
    rw [dup_iff.mpr ⟨t, ht, a, b⟩] at hd
    cases hd
  have no : ∀ t ∈ A, t.2.1 = s.2.1 → ¬ (t.2.2 < s.2.2 ∧ s.1 < t.1 ∨ s.2.2 < t.2.2 ∧ t.1 < s.1) := fun t ht a b => by
    rw [ooo_iff.mpr ⟨t, ht, a, b⟩] at hx
    cases hx
  refine ⟨fun t ht => ?_, fun t ht => ?_, fun t ht => ?_, fun t ht u hu => ?_, fun t ht u hu => ?_, ?_⟩
  · rcases List.mem_append.mp ht with z | z
    · exact hA.day t z
    · rw [List.mem_singleton.mp z]; exact hs.day
  · rcases List.mem_append.mp ht with z | z
    · exact hA.off t z
    · rw [List.mem_singleton.mp z]; exact ⟨hs.off, ho⟩
  · rcases List.mem_append.mp ht with z | z
    · exact hA.num t z
    · rw [List.mem_singleton.mp z]; exact hs.num
  · rcases List.mem_append.mp ht with z | z <;> rcases List.mem_append.mp hu with y | y
    · exact hA.key t z u y
    · rw [List.mem_singleton.mp y]; exact fun a b => absurd b (nd t z a)
    · rw [List.mem_singleton.mp z]; exact fun a b => absurd b.symm (nd u y a.symm)
    · rw [List.mem_singleton.mp z, List.mem_singleton.mp y]; exact fun _ _ => rfl
  · rcases List.mem_append.mp ht with z | z <;> rcases List.mem_append.mp hu with y | y
    · exact hA.mono t z u y
    · rw [List.mem_singleton.mp y]
      intro a b
      have := no t z a
      omega
    · rw [List.mem_singleton.mp z]
      intro a b
      have := no u y a.symm
      omega
    · rw [List.mem_singleton.mp z, List.mem_singleton.mp y]
      intro _ b
      omega
  · refine List.nodup_append.mpr ⟨hA.nodup, List.nodup_cons.mpr ⟨nofun, .nil⟩, fun a ha b hb e => ?_⟩
    rw [List.mem_singleton.mp hb] at e
    subst e
    exact nd a ha rfl rfl
theorem rsn_none {w : Nat} (h : rsn A w k s = none) : s.2.1 < (k : Int) ∧ dupB A s = false ∧ oooB A s = false ∧ w < 12 := by
  unfold rsn at h
  by_cases g1 : (k : Int) ≤ s.2.1
  · rw [if_pos g1] at h; cases h
  rw [if_neg g1] at h
  by_cases g2 : dupB A s = true
  · rw [if_pos g2] at h; cases h
  rw [if_neg g2] at h
  by_cases g3 : oooB A s = true
  · rw [if_pos g3] at h; cases h
  rw [if_neg g3] at h
  by_cases g4 : 12 ≤ w
  · rw [if_pos g4] at h; cases h
  exact ⟨by omega, Bool.eq_false_iff.mpr g2, Bool.eq_false_iff.mpr g3, by omega⟩
end
end Dl

/-! Dl: a comprehension over a list of one's own, which stays one's own. -/
namespace Dl
open PySem L2
def isOwn (all : List D) : Sl → Prop
  | .own _ (.lst ds) => ds = all
  | _ => False
def gO (j : Nat) (all : List D) (g : DG) : DG := fun d δ k => isOwn all (sg δ j) ∧ g d δ k
def kFinO (j : Nat) (all : List D) (vs : List Nat) (Q : List D → DS → Prop) : List D → DS → Prop := fun acc δ2 => isOwn all (sg δ2 j) ∧ okWipe δ2 vs = true ∧ Q acc (dWipe δ2 vs)
inductive BoxO (vs : List Nat) (g : DG) (t : DT) (e : DV) (Q : List D → DS → Prop) : Type where
  | mk
def selOwn (s : Sl) (j : Nat) (δ : DS) {vs : List Nat} {g : DG} {t : DT} {e : DV} {Q : List D → DS → Prop} (_ : BoxO vs g t e Q) : Prop := match s with
  | .own _ (.lst all) => okWipe δ vs = true ∧ loopD all (dWipe δ vs) (BoxL.mk : BoxL fun items δ => compGo (gO j all g) t e vs (kFinO j all vs Q) items [] δ)
  | _ => False
def rCompO (vs : List Nat) (j : Nat) (g : DG) (t : DT) (e : DV) : DF := fun δ Q => selOwn (sg δ j) j δ (BoxO.mk : BoxO vs g t e Q)
section
variable {vs : List Nat} {j : Nat} {g : DG} {t : DT} {e : DV} {Q : List D → DS → Prop} {δ : DS} {all ds : List D} {io : Bool}
theorem ev_compO : rCompO vs j g t e δ Q = selOwn (sg δ j) j δ (BoxO.mk : BoxO vs g t e Q) := rfl
theorem ev_selOwn {z : BoxO vs g t e Q} : selOwn (.own io (.lst all)) j δ z = (okWipe δ vs = true ∧ loopD all (dWipe δ vs) (BoxL.mk : BoxL fun items δ => compGo (gO j all g) t e vs (kFinO j all vs Q) items [] δ)) := rfl
end
theorem Apart.out {σ σ' : L2.St} {vs : List Nat} {j : Nat} (a : Apart σ σ' vs) (h : j ∉ vs) : σ'[j]? = σ[j]? := a.2 j h
theorem compO_sound {K : PySem.W.Frag} {j : Nat} {vs gv : List Nat} {g : DG} {t : DT} {e : DV} (hj : j ∉ vs) (hgv : ∀ j ∈ gv, j ∈ vs) : ∀ σ H Q, liftF K (rCompO vs j g t e) σ H Q → tLc (iList K (tVar j)) (liftG K gv g) (liftT K t) (liftV K e) vs σ H Q := fun σ H Q ⟨c, F, δ, P, S, h, k⟩ => by
  unfold rCompO selOwn at h
  cases q : sg δ j with
  | no => simp only [q] at h
  | frz _ => simp only [q] at h
  | own io0 x0 =>
    cases x0 with
    | dic _ => simp only [q] at h
    | dicT _ => simp only [q] at h
    | lst all =>
      simp only [q] at h
      obtain ⟨ok0, hP⟩ := h
      obtain ⟨l, ho, h1, h2, h3, h4, us0, rfl, h5⟩ := S.own (sg_at q (by intro z; cases z))
      refine ⟨_, h1, l, rfl, ⟨us0, SqL.of h4⟩, fun Dl hD => ?_⟩
      -- the list as it stands at any later turn
      have live : ∀ {c' : Ct} {F2 : Hp} {H2 : Hp} {δ2 : DS}, StOk K c' F2 (wipe σ vs) H2 δ2 → isOwn all (sg δ2 j) → ∃ us, H2 l = some (.lst us) ∧ Reps K F2 all us := fun {c' F2 H2 δ2} S2 o2 => by
        cases q2 : sg δ2 j with
        | no => rw [q2] at o2; exact o2.elim
        | frz _ => rw [q2] at o2; exact o2.elim
        | own io2 x2 =>
          rw [q2] at o2
          cases x2 with
          | dic _ => exact o2.elim
          | dicT _ => exact o2.elim
          | lst ds2 =>
            cases (show ds2 = all from o2)
            obtain ⟨l2, ho2, k1, k2, k3, k4, us, rfl, k5⟩ := S2.own (sg_at q2 (by intro z; cases z))
            rw [apart_wipe.out hj, h1] at k1
            cases k1
            exact ⟨us, k4, k5⟩
      have S0 := (S.wipe ok0).move (σ' := wipe σ vs) apart_wipe
      obtain ⟨S1, f1⟩ := S0.fresh (o := .lst []) hD
      refine ⟨fun i m H => m = all.length - i ∧ i ≤ all.length ∧ ∃ F2 δ2 acc us, Same F F2 ∧ StOk K c F2 (wipe σ vs) H δ2 ∧ Free c F2 (wipe σ vs) δ2 Dl ∧ H Dl = some (.lst us) ∧ Reps K F2 acc us ∧
          compGo (gO j all g) t e vs (kFinO j all vs P) (all.drop i) acc δ2, ⟨_, rfl, Nat.zero_le _, F, _, [], [], Same.refl _, S1, f1, upd_same, Reps.nil, hP⟩, ?_⟩
      rintro i m H2 ⟨rfl, hi, F2, δ2, acc, us, e2, S2, f2, g2, r2, qq⟩
      by_cases hlt : i < all.length
      · have hd : all.drop i = all[i] :: all.drop (i + 1) := List.drop_eq_getElem_cons hlt
        rw [hd] at qq
        obtain ⟨own2, qq⟩ := qq
        obtain ⟨lus, hl, lr⟩ := live S2 own2
        have hit : i < lus.length := by
          rw [lr.len]
          exact hlt
        refine Or.inr ⟨⟨lus, lus[i], SqL.of hl, List.getElem?_eq_getElem hit⟩, fun H' => ∃ F3 δ3 acc us, Same F F3 ∧ StOk K c F3 (wipe σ vs) H' δ3 ∧ Free c F3 (wipe σ vs) δ3 Dl ∧ H' Dl = some (.lst us) ∧ Reps K F3 acc us ∧
          compGo (gO j all g) t e vs (kFinO j all vs P) (all.drop (i + 1)) acc δ3, fun H' ⟨F3, δ3, acc3, us3, e3, S3, f3, h3, r3, q3⟩ => ⟨all.length - (i + 1), by omega, rfl, hlt, F3, δ3, acc3, us3, e3, S3, f3, h3, r3, q3⟩, fun x H3 y => ?_⟩
        obtain ⟨e9, y⟩ := y
        subst e9
        obtain ⟨xv, hx1, hx2⟩ := lr.get (List.getElem?_eq_getElem hlt)
        have hx3 := y lus (SqL.of hl)
        rw [hx1] at hx3
        cases hx3
        have S3g := S2.guard f2 g2
        have hz := f2.z
        refine ⟨c.with Dl (.lst us), F2, δ2, all[i], _, S3g, hx2, qq, fun δ4 h4 σ4 F4 H4 e4 S4 a4 => ?_⟩
        have a4' : Apart (wipe σ vs) σ4 vs := ⟨a4.1, fun j hj => a4.2 j fun z => hj (hgv j z)⟩
        refine ⟨wipe_eq a4', c.with Dl (.lst us), F4, δ4, _, S4, h4, fun b δ5 h5 F5 H5 e5 S5 => ?_⟩
        cases b with
        | false =>
          replace h5 := h5.2 (by decide)
          simp only [if_false, Bool.false_eq_true]
          obtain ⟨ok5, h5⟩ := h5
          obtain ⟨S6, f6, h6⟩ := S5.unguard hz
          exact ⟨F5, _, acc, us, (e2.trans e4).trans e5, (S6.wipe ok5).move a4'.sym, f6.wipe.move a4'.sym, h6, Reps.mono (e4.trans e5) _ _ r2, h5⟩
        | true =>
          replace h5 := h5.1 rfl
          simp only [if_true]
          refine ⟨c.with Dl (.lst us), F5, δ5, _, S5, h5, fun w δ6 h6 v F6 H6 e6 S6 r6 => ?_⟩
          cases w with
          | slot j => exact h6.elim
          | val yd =>
            obtain ⟨hl6, ok6, h6⟩ := h6
            obtain ⟨S7, f7, h7⟩ := S6.unguard hz
            have rr := Reps.mono ((e4.trans e5).trans e6) _ _ r2
            refine ⟨us, h7, ?_, F6, _, acc ++ [yd], us ++ [v], ((e2.trans e4).trans e5).trans e6, ?_, ?_, upd_same, Reps.append rr (Reps.cons r6 Reps.nil), h6⟩
            · have := rr.len
              rw [this, sizeLine_eq]
              exact hl6
            · exact (S7.updFree f7 h7).wipe ok6 |>.move a4'.sym
            · exact f7.wipe.move a4'.sym
      · have hi' : i = all.length := by omega
        subst hi'
        rw [List.drop_length] at qq
        obtain ⟨own2, ok9, qq⟩ := qq
        obtain ⟨lus, hl, lr⟩ := live S2 own2
        have S9 := (S2.wipe ok9).move (σ' := σ) apart_wipe.sym
        exact Or.inl ⟨⟨lus, SqL.of hl, by rw [lr.len]; exact Nat.le_refl _⟩, k _ _ qq Dl us F2 H2 e2 S9 (f2.wipe.move apart_wipe.sym) g2 r2⟩
/-- its turns leave the state as it is -/
theorem comp_ofO {β : Type} {enc : β → D} {p : β → Bool} {f : β → D} {δ : DS} {g : DG} {t : DT} {e : DV} {vs : List Nat} {j : Nat} {Q : List D → DS → Prop} {xs : List β}
    (hd : isOwn (xs.map enc) (sg δ j)) (h : ∀ x ∈ xs, ∀ K1 K2, (p x = true → ∀ δ', okWipe δ' vs = true → dWipe δ' vs = δ → K1 (f x) δ') → (p x = false → ∀ δ', okWipe δ' vs = true → dWipe δ' vs = δ → K2 δ') → stepC g t e (enc x) δ K1 K2)
    (hl : xs.length ≤ 16777216) (ho : okWipe δ vs = true) (hq : Q ((xs.filter p).map f) (dWipe δ vs)) : loopD (xs.map enc) δ (BoxL.mk : BoxL fun items δ => compGo (gO j (xs.map enc) g) t e vs (kFinO j (xs.map enc) vs Q) items [] δ) :=
  comp_of (p := p) (f := f) (fun x hx K1 K2 y1 y2 => ⟨hd, h x hx K1 K2 y1 y2⟩) hl ⟨hd, ho, hq⟩
end Dl

/-! Dl: a, b = x, y with plain names. -/
namespace Dl
open PySem L2
def kPar (i j : Nat) (E : DE) : List Vw → DS → Prop := fun ws δ1 => match ws with
  | [.val d, .val e] => okSet δ1 i = true ∧ okSet (ss δ1 i (.frz d)) j = true ∧ E.nx (ss (ss δ1 i (.frz d)) j (.frz e))
  | _ => False
def sPar (i j : Nat) (rs : DA) : DSt := fun E δ => rs δ (kPar i j E)
theorem ev_par {i j : Nat} {rs : DA} {E : DE} {δ : DS} : sPar i j rs E δ = rs δ (kPar i j E) := rfl
theorem ev_kpar {i j : Nat} {d e : D} {E : DE} {δ : DS} : kPar i j E [.val d, .val e] δ = (okSet δ i = true ∧ okSet (ss δ i (.frz d)) j = true ∧ E.nx (ss (ss δ i (.frz d)) j (.frz e))) := rfl
theorem par_sound {K : PySem.W.Frag} {i j : Nat} {rs : DA} : ∀ D σ H, liftS K (sPar i j rs) D σ H → tPar i j (liftA K rs) D σ H := fun D σ H ⟨c, F, δ, E, S, h, L⟩ => ⟨c, F, δ, _, S, h, fun ws δ1 h1 vs F1 H1 e1 S1 r1 => by
  unfold kPar at h1
  split at h1
  · obtain ⟨v, us, rfl, r2, r3⟩ := r1
    obtain ⟨w, us2, rfl, r4, r5⟩ := r3
    cases (show us2 = [] from r5)
    obtain ⟨h2, h3, h4⟩ := h1
    rw [ss_eq] at h3
    rw [ss_eq, ss_eq] at h4
    exact ⟨v, w, rfl, L.nx _ h4 _ F1 H1 e1 ((S1.asg (okSet_io h2) r2).asg (okSet_io h3) r4)⟩
  · exact h1.elim⟩
end Dl

/-! Dl: a set comprehension of ints, sorted. -/
namespace DlS
open PySem L2 PySem.Spec PyProof.Rows PpSet
section
variable {X : Cx}
/-- one int more in the set at D -/
theorem put_int {pins : List (Addr × Obj)} {τ : L2.St} {G : Hp} {r : Shared} {E : Value → Shared → Prop} {D : Addr} {M : Int → Bool} {m : Nat} {k : Int} {tk : Tok} {Q : Value → Shared → Prop} (V : Inv X pins τ G r) (dd : G D = some (SetO X.w D M m)) (few : m + 1 < scanBound)
    (go : ∀ r', Inv X pins τ (upd G D (SetO X.w D (fun j => M j || decide (j = k)) (if M k = true then m else m + 1))) r' → Q .none r') : wpAny (model X.prog X.w) X.A (call (.builtin "set.add") [.ref D, .int k tk]) Q E r :=
  setR_add (setO_get V dd) few fun g but there =>
    have ex : ∃ u, g.get? D = some u := by
      obtain ⟨o, _, _, _, there, _⟩ := there
      exact ⟨o, there⟩
    go _ (V.write (e := D) (t' := r.toks + 1) (by rw [dd]; trivial) (.inl rfl) (fun b u nb hu => (but.2 b nb).trans hu) ex (setO_new there))
/-- {elt for target in iter if ..} with ints: what its caller owes -/
def tSi (w : World) (src : TI) (g : TG) (tt : TT) (te : TE) (vs : List Nat) : TE := fun τ G Q => src τ G fun J G1 => ∀ D, G1 D = none → ∃ W : Nat → Nat → Hp → Prop, (∃ b, W 0 b (upd G1 D (SetO w D (fun _ => false) 0))) ∧
  ∀ i b G, W i b G → (J.stop i G ∧ Q (.ref D) G) ∨ (J.go i G ∧ ∃ Nx : Hp → Prop, (∀ G', Nx G' → ∃ b', b' < b ∧ W (i + 1) b' G') ∧
    ∀ x G', J.yld i G x G' → g x (wipe τ vs) G' fun τ2 G2 => wipe τ2 vs = wipe τ vs ∧ tt τ2 G2 fun yes G3 =>
      if yes = true then te τ2 G3 fun y G4 => ∃ (k : Int) (M : Int → Bool) (m : Nat), y = .int k ∧ G4 D = some (SetO w D M m) ∧ m + 1 < scanBound ∧ Nx (upd G4 D (SetO w D (fun j => M j || decide (j = k)) (if M k = true then m else m + 1)))
      else Nx G3)
variable {elt tg iter : Expr} {ifs : List Expr} {scope : Scope} {own : List (PySem.Str × Nat)} {pos pos' : Pos} {src : TI} {g : TG} {tt : TT} {te : TE}
/-- the block's parts, in whatever state it begins -/
structure Parts (X : Cx) (elt tg : Expr) (ifs : List Expr) (scope : Scope) (g : TG) (tt : TT) (te : TE) : Prop where
  tgt : ∀ (r : Shared) (G : Hp) (C : Addr) (cl : List (PySem.Str × Addr)) (fp : List Addr), PG (X.blk r G scope (compEnvC scope cl C X.env) fp) tg g
  tst : ∀ (r : Shared) (G : Hp) (C : Addr) (cl : List (PySem.Str × Addr)) (fp : List Addr), PTs (X.blk r G scope (compEnvC scope cl C X.env) fp) ifs tt
  elt : ∀ (r : Shared) (G : Hp) (C : Addr) (cl : List (PySem.Str × Addr)) (fp : List Addr), PE (X.blk r G scope (compEnvC scope cl C X.env) fp) elt te
theorem si_core {pins : List (Addr × Obj)} {r : Shared} {τ : L2.St} {G : Hp} {Q : VK} {use : Option (Value → Sem Unit)} {Qf : Value → Shared → Prop}
    (calm : X.calm = true) (nd : X.N.Nodup) (V : Inv X pins τ G r) (hi : PI X tg iter src) (ok : BlkOk X.N X.env.scope scope own) (B : Parts X elt tg ifs scope g tt te)
    (plain : ∀ x, foldedSetIterable iter X.env x = pure x) (h : tSi X.w src g tt te (own.map (·.2)) τ G Q)
    (after : ∀ D C r' m G', Inv X pins τ G' r' → Q (.ref D) G' → r'.heap.Ns C m → FpOk X pins G' C → compPost (model X.prog X.w) X.A X.xe use Qf (.ref D) C (.ok .next) r') :
    wpAny (model X.prog X.w) X.A (comprehension (.SetComp elt [⟨tg, iter, ifs, 0⟩] scope pos) scope X.env pos' (newSet (.type "set")) false (eval iter X.env) use) Qf X.xe r := by
  have cells : ∀ y ∈ scope.names, y.2 = .free → ∃ c, X.env.cells.lookup y.1 = some c := fun y hy e => (ok.free y hy e).elim (fun k => V.ok.has _ (.inl k)) fun k => V.ok.has _ (.inr k)
  refine wpAny_comprehension_free (use := use) rfl plain (closure_ok cells) ok.kind (fun y hy e => by rw [ok.uniq y hy, e]) ?_
  refine thn (hi.run pins r τ G _ V h) fun _ _ got => thn got fun _ r2 got2 => ?_
  obtain ⟨it, fp, tn, J, G2, rfl, V2, T, tn2, fp2, owed⟩ := got2
  refine newSet_ok (newEnv_comp ?_)
  have free2 : G2 r2.heap.objs.size = none := V2.hok.fresh (Nat.le_refl _)
  obtain ⟨W, ⟨b0, w0⟩, turn⟩ := owed _ free2
  -- the state with the new set
  obtain ⟨D, eD⟩ : ∃ D, D = r2.heap.objs.size := ⟨_, rfl⟩
  rw [← eD] at w0 turn free2 ⊢
  obtain ⟨r3, er3⟩ : ∃ r3 : Shared, r3 = { r2 with heap := r2.heap.push { cls := .type "set", dict := none, data := .set #[] 0 (.fresh 0 0 (!X.w.params.followText "set-order")) } } := ⟨_, rfl⟩
  have hp3 : r3.heap = r2.heap.push { cls := .type "set", dict := none, data := .set #[] 0 (.fresh 0 0 (!X.w.params.followText "set-order")) } := by rw [er3]
  have old3 : ∀ b o, r2.heap.get? b = some o → r3.heap.get? b = some o := fun b o e => by
    rw [hp3]
    exact Heap.get?_push_of_some _ e
  obtain ⟨G3, eG3⟩ : ∃ G3, G3 = upd G2 D (SetO X.w D (fun _ => false) 0) := ⟨_, rfl⟩
  have V3 : Inv X pins τ G3 r3 := by
    rw [eG3, er3]
    refine V2.laid (t' := r2.toks) (fun b o e => Heap.get?_push_of_some _ e) (Nat.le_of_eq eD.symm) ?_
    rw [eD]
    exact setO_new (setR_fresh X.w)
  have f3 : ∀ b ∈ fp, FpOk X pins G3 b ∧ b < r3.heap.objs.size := fun b hb => by
    obtain ⟨o, e, _⟩ := T.obj _ _ tn2 b hb
    have lt := Heap.lt_size e
    refine ⟨⟨?_, (fp2 b hb).2⟩, by rw [hp3, Heap.size_push]; exact Nat.lt_succ_of_lt lt⟩
    rw [eG3, upd_ne (by rw [eD]; exact Nat.ne_of_lt lt)]
    exact (fp2 b hb).1
  have tn3 : tn 0 r3.heap := T.keep _ _ _ tn2 fun b _ o e => old3 b o e
  have V4 := block_start V3 ok nd f3
  have pg := B.tgt r3 G3 r3.heap.objs.size (cellsFrom (r3.heap.objs.size + 1) scope.names (cloFrom X.env.cells scope.names [])) fp
  have pt := B.tst r3 G3 r3.heap.objs.size (cellsFrom (r3.heap.objs.size + 1) scope.names (cloFrom X.env.cells scope.names [])) fp
  have pe := B.elt r3 G3 r3.heap.objs.size (cellsFrom (r3.heap.objs.size + 1) scope.names (cloFrom X.env.cells scope.names [])) fp
  rw [← er3]
  rw [← eG3] at w0
  have none3 : ∀ b ∈ fp, G3 b = none := fun b hb => (f3 b hb).1.1
  show codeAny _ _ (.compStart (.SetComp elt [⟨tg, iter, ifs, 0⟩] scope pos) 0 (.ref it) (.ref D) (compEnvC scope (cellsFrom (r3.heap.objs.size + 1) scope.names (cloFrom X.env.cells scope.names [])) r3.heap.objs.size X.env))
    (compPost (model X.prog X.w) X.A X.xe use Qf (.ref D) r3.heap.objs.size) { r3 with heap := pushCells (r3.heap.push { cls := .type "dict", data := .dict #[] }) scope.names }
  generalize hce : compEnvC scope (cellsFrom (r3.heap.objs.size + 1) scope.names (cloFrom X.env.cells scope.names [])) r3.heap.objs.size X.env = ce at V4 pg pt pe ⊢
  have loc : ce.locals = r3.heap.objs.size := by rw [← hce]; rfl
  generalize hr4 : ({ r3 with heap := pushCells (r3.heap.push { cls := .type "dict", data := .dict #[] }) scope.names } : Shared) = r4 at V4 ⊢
  have tn4 : tn 0 r4.heap := T.keep _ _ _ tn3 fun b _ o e => by
    rw [← hr4]
    exact pushCells_keeps _ _ _ _ (Heap.get?_push_of_some _ e)
  -- the iterator's own objects within the block
  have foreign : ∀ {τ' : L2.St} {G' : Hp} {r' : Shared}, Inv (X.blk r3 G3 scope ce fp) [] τ' G' r' → (∀ b ∈ fp, G' b = none) → ∀ b ∈ fp, FpOk (X.blk r3 G3 scope ce fp) [] G' b := fun {τ' G' r'} V' no b hb =>
    ⟨no b hb, (V'.ok.exf b hb).1, V'.ok.exfs b hb, .inl hb, fun x c e => (V'.ok.exf b hb).2 x c e, fun p hp => absurd (show p ∈ ([] : List (Addr × Obj)) ++ [] from hp) List.not_mem_nil⟩
  refine codeAny_compStart_set ?loop (T.self X.A 0 _ _ _ tn4 ?loop)
  refine compLoopS_any (fun b r' => ∃ i G', Inv (X.blk r3 G3 scope ce fp) [] (wipe τ (own.map (·.2))) G' r' ∧ tn i r'.heap ∧ (∀ b ∈ fp, G' b = none) ∧ W i b G') ?_ b0 ⟨0, G3, V4, tn4, none3, w0⟩
  rintro b r5 ⟨i, G5, V5, tn5, no5, w5⟩
  rcases turn i b G5 w5 with ⟨stop, qq⟩ | ⟨go, Nx, less, step⟩
  · refine thnF (T.done (X.blk r3 G3 scope ce fp) rfl rfl rfl calm i [] r5 _ G5 (fun _ _ => False) V5 (foreign V5 no5) tn5 stop) fun _ r6 ⟨hn, V6⟩ => ?_
    subst hn
    have V7 : Inv X pins τ G5 r6 := V3.call' (ch := fp) V6.os V6.base V6.hok V6.bare fun b hb =>
      have z := (f3 b hb).1.2
      ⟨z.2.2.1, z.1, z.2.2.2.1, z.2.2.2.2⟩
    have nC : G5 r3.heap.objs.size = none := loc ▸ (show G5 ce.locals = none from V6.free)
    obtain ⟨m, ns, _⟩ := V6.loc
    exact after D r3.heap.objs.size r6 m G5 V7 qq (loc ▸ (show r6.heap.Ns ce.locals m from ns)) (V3.fpOk (Nat.le_refl _) nC)
  · refine thnF (T.item (X.blk r3 G3 scope ce fp) rfl rfl rfl calm i [] r5 _ G5 (fun _ _ => False) V5 (foreign V5 no5) tn5 go) fun _ r6 ⟨u, hu, h6⟩ => ?_
    subst hu
    refine thnF h6 fun _ r7 ⟨x, G7, V7, rx, y7, tn7, no7⟩ => ?_
    refine thnF (pg.run _ r7 _ G7 x u _ (V7.pinned (foreign V7 no7) (T.obj _ _ tn7)) rx (step x G7 y7)) fun _ r8 ⟨τ8, G8, V8, same8, q8⟩ => ?_
    refine thnF (pt.run _ r8 τ8 G8 _ V8 q8) fun yes r9 ⟨G9, V9, q9⟩ => ?_
    have done : ∀ {r' : Shared} {G' : Hp}, Inv (X.blk r3 G3 scope ce fp) ([] ++ pinsAt fp r7.heap) τ8 G' r' → Nx G' → ∃ b', b' < b ∧ ∃ i G', Inv (X.blk r3 G3 scope ce fp) [] (wipe τ (own.map (·.2))) G' r' ∧ tn i r'.heap ∧ (∀ b ∈ fp, G' b = none) ∧ W i b' G' := fun {r' G'} V' nx => by
      obtain ⟨b', lt, w'⟩ := less G' nx
      have held : ∀ b ∈ fp, ∀ o, r7.heap.get? b = some o → r'.heap.get? b = some o ∧ G' b = none := fun b hb o e => by
        have z := V'.pin (b, o) (List.mem_append_right _ (List.mem_append_right _ (mem_pinsAt hb e)))
        exact ⟨z.1, z.2.1⟩
      refine ⟨b', lt, i + 1, G', (V'.unpinned (pins := [])).weak (by rw [← same8, wipe_length]) (fun j v e => by rw [← same8] at e; exact (wipe_some e).1), T.keep _ _ _ tn7 fun b hb o e => (held b hb o e).1, fun b hb => ?_, w'⟩
      obtain ⟨o, e, _⟩ := T.obj _ _ tn7 b hb
      exact (held b hb o e).2
    cases yes with
    | false =>
      rw [if_neg (by decide)] at q9
      exact done V9 q9
    | true =>
      rw [if_pos rfl] at q9
      refine thnF (pe.run _ r9 τ8 G9 _ V9 q9) fun z r10 ⟨yv, G10, V10, rz, k, M, m, ey, dd, few, nx⟩ => ?_
      subst ey
      obtain ⟨tk, ez⟩ := (show ∃ tk, z = .int k tk from rz)
      subst ez
      exact put_int (X := X.blk r3 G3 scope ce fp) V10 dd few fun r11 V11 => done V11 nx
theorem pe_si (calm : X.calm = true) (nd : X.N.Nodup) (hi : PI X tg iter src) (ok : BlkOk X.N X.env.scope scope own) (B : Parts X elt tg ifs scope g tt te) (plain : ∀ x, foldedSetIterable iter X.env x = pure x := by intro _; rfl) :
    PE X (.SetComp elt [⟨tg, iter, ifs, 0⟩] scope pos) (tSi X.w src g tt te (own.map (·.2))) := ⟨fun pins r τ G Q V h => by
  rw [eval_SetComp]
  exact si_core calm nd V hi ok B plain h fun D C r' m G' V' q ns ⟨f0, f1, f2, f3, f4, f5⟩ => ⟨m, ns, fun g' but => ⟨.ref D, G', V'.turned (t' := r'.toks) (fun b o nb e => (but.2 b nb).trans e) f0 f1 f3 f4 f5, rfl, q⟩⟩⟩
end
end DlS
namespace Dl
open PySem L2 DlS
/-- no table and no code object -/
def NT2 (o : HO) : Prop := (∀ ps, o ≠ .tbl ps) ∧ ∀ c q, o ≠ LamX.CodeO c q
theorem setO_nt {w : World} {a : Addr} {S : Int → Bool} {n : Nat} : NT2 (SetO w a S n) := by
  refine ⟨fun ps z => (by cases z), fun c q z => ?_⟩
  unfold SetO LamX.CodeO at z
  injection z with z
  have e := congrFun z { objs := Array.replicate (c + 1) { cls := .type "x", data := .fields #[.none, .str q 0] } }
  have yes : ∃ (oc : Obj) (vs : Array Value) (t : Tok), (({ objs := Array.replicate (c + 1) { cls := .type "x", data := .fields #[.none, .str q 0] } } : Heap).get? c = some oc) ∧ oc.data = .fields vs ∧ vs[1]? = some (.str q t) := by
    refine ⟨{ cls := .type "x", data := .fields #[.none, .str q 0] }, _, 0, ?_, rfl, rfl⟩
    unfold Heap.get?
    simp
  rw [← e] at yes
  obtain ⟨o, es, ep, t, ho, _, hd, _⟩ := yes
  unfold Heap.get? at ho
  simp only [Array.getElem?_replicate] at ho
  split at ho
  · cases ho
  · split at ho
    · cases ho
      cases hd
    · cases ho
section
variable {K : PySem.W.Frag} {c : Ct} {F H : Hp} {σ : L2.St} {δ : DS} {p : Addr} {o u : HO}
theorem TOk.nt2 (T : TOk K F H) {q : Addr × Str} (hq : q ∈ LTabs K) (h : H q.1 = some o) (n : NT2 o) : False := by
  obtain ⟨ps, h1, _⟩ := T.tb q hq
  rw [h1] at h
  cases h
  exact n.1 ps rfl
theorem TOk.put2 (T : TOk K F H) (h : H p = some o) (n : NT2 o) : TOk K F (upd H p u) := ⟨fun q hq => by
  obtain ⟨ps, h1, h2, h3⟩ := T.tb q hq
  have away : q.1 ≠ p := fun e => T.nt2 hq (by rw [e]; exact h) n
  refine ⟨ps, by rw [upd_ne away]; exact h1, h2, fun pos cv hc => ?_⟩
  obtain ⟨c, e1, e2⟩ := h3 pos cv hc
  have other : c ≠ p := fun e => by
    rw [e, h] at e2
    cases e2
    exact n.2 _ _ rfl
  exact ⟨c, e1, by rw [upd_ne other]; exact e2⟩, T.tf⟩
theorem StOk.guard2 (S : StOk K c F σ H δ) (f : Free c F σ δ p) (h : H p = some o) (n : NT2 o) : StOk K (c.with p o) F σ H δ := by
  refine ⟨S.sub0, S.sub, fun a u e => ?_, S.len, fun i s q h1 h2 => ?_, S.dis, S.io, S.tt, fun q hq => ?_⟩
  · have e' : upd c.Z p o a = some u := e
    by_cases ha : a = p
    · rw [ha, upd_same] at e'
      cases e'
      rw [ha]
      exact ⟨h, f.f⟩
    · rw [upd_ne ha] at e'
      exact S.fz a u e'
  · have q0 := S.sl i s q h1 h2
    cases s with
    | own io x =>
      obtain ⟨l, ho, k1, k2, k3, k4⟩ := q0
      exact ⟨l, ho, k1, k2, by show upd c.Z p o l = none; rw [upd_ne fun z => f.o i io x h1 (by rw [h2, k1, z])]; exact k3, k4⟩
    | _ => exact q0
  · show upd c.Z p o q.1 = none
    rw [upd_ne fun e => S.tt.nt2 hq (by rw [e]; exact h) n]
    exact S.tz q hq
theorem StOk.put2 (S : StOk K c F σ H δ) (f : Free c F σ δ p) (h : H p = some o) (n : NT2 o) : StOk K c F σ (upd H p u) δ := by
  refine ⟨S.sub0, fun a v e => by rw [upd_ne (ne_of_none e f.f)]; exact S.sub a v e, fun a v e => by rw [upd_ne (ne_of_none e f.z)]; exact S.fz a v e, S.len, fun i s q h1 h2 => ?_, S.dis, S.io, S.tt.put2 h n, S.tz⟩
  have q0 := S.sl i s q h1 h2
  cases s with
  | own io x =>
    obtain ⟨l, ho, k1, k2, k3, k4, k5⟩ := q0
    exact ⟨l, ho, k1, k2, k3, by rw [upd_ne fun z => f.o i io x h1 (by rw [h2, k1, z])]; exact k4, k5⟩
  | _ => exact q0
end
/-! the turns: each gives an int -/
def kInt (f : Int → DS → Prop) : D → DS → Prop := fun y δ => match y with
  | .int k => f k δ
  | _ => False
def setGo (g : DG) (t : DT) (e : DV) (vs : List Nat) (Q : List Int → DS → Prop) : List D → List Int → DS → Prop
  | [], acc, δ => Q acc δ
  | d :: ds, acc, δ => stepC g t e d δ (kInt fun k δ3 => okWipe δ3 vs = true ∧ setGo g t e vs Q ds (acc ++ [k]) (dWipe δ3 vs)) fun δ2 => okWipe δ2 vs = true ∧ setGo g t e vs Q ds acc (dWipe δ2 vs)
def kFinS (vs : List Nat) (Q : List D → DS → Prop) : List Int → DS → Prop := fun acc δ2 => okWipe δ2 vs = true ∧ ∀ ns : List Int, ns.Pairwise (· < ·) → (∀ k, k ∈ ns ↔ k ∈ acc) → Q (ns.map D.int) (dWipe δ2 vs)
def kSetS (vs : List Nat) (g : DG) (t : DT) (e : DV) (Q : List D → DS → Prop) : List D → DS → Prop := fun items δ1 => okWipe δ1 vs = true ∧ items.length < 64 ∧ loopD items (dWipe δ1 vs) (BoxL.mk : BoxL fun items δ => setGo g t e vs (kFinS vs Q) items [] δ)
def rSortS (vs : List Nat) (ri : DI) (g : DG) (t : DT) (e : DV) : DF := fun δ Q => ri δ (kSetS vs g t e Q)
section
variable {vs : List Nat} {ri : DI} {g : DG} {t : DT} {e : DV} {Q : List D → DS → Prop} {δ : DS} {items : List D}
theorem ev_sortS : rSortS vs ri g t e δ Q = ri δ (kSetS vs g t e Q) := rfl
theorem ev_ksetS : kSetS vs g t e Q items δ = (okWipe δ vs = true ∧ items.length < 64 ∧ loopD items (dWipe δ vs) (BoxL.mk : BoxL fun items δ => setGo g t e vs (kFinS vs Q) items [] δ)) := rfl
end
theorem sortS_sound {K : PySem.W.Frag} {w : World} {ri : DI} {vs gv : List Nat} {g : DG} {t : DT} {e : DV} (hgv : ∀ j ∈ gv, j ∈ vs) : ∀ σ H Q, liftF K (rSortS vs ri g t e) σ H Q → tCB (rSortedSet w) (tCons (tSi w (liftI K ri) (liftG K gv g) (liftT K t) (liftV K e) vs) tNil) σ H Q := fun σ H Q ⟨c, F, δ, P, S, h, k⟩ => by
  refine ⟨c, F, δ, _, S, h, fun items δ' hP J F' H' e' S' so Dl hD => ?_⟩
  obtain ⟨ok0, few, hP⟩ := hP
  obtain ⟨S1, f1⟩ := ((S'.wipe ok0).move (σ' := wipe σ vs) apart_wipe).fresh (o := SetO w Dl (fun _ => false) 0) hD
  refine ⟨fun i m H => m = items.length - i ∧ i ≤ items.length ∧ ∃ F2 δ2 acc M n, Same F' F2 ∧ StOk K c F2 (wipe σ vs) H δ2 ∧ Free c F2 (wipe σ vs) δ2 Dl ∧ H Dl = some (SetO w Dl M n) ∧ (∀ k : Int, M k = true ↔ k ∈ acc) ∧ n ≤ acc.length ∧ acc.length ≤ i ∧
      setGo g t e vs (kFinS vs P) (items.drop i) acc δ2, ⟨_, rfl, Nat.zero_le _, F', _, [], _, 0, Same.refl _, S1, f1, upd_same, fun k => ⟨nofun, nofun⟩, Nat.le_refl _, Nat.le_refl _, hP⟩, ?_⟩
  rintro i m H2 ⟨rfl, hi, F2, δ2, acc, M, n, e2, S2, f2, hS, hM, hn, ha, q⟩
  by_cases hlt : i < items.length
  · rw [List.drop_eq_getElem_cons hlt] at q
    refine Or.inr ⟨so.go i F2 _ H2 δ2 hlt e2 S2, fun H' => ∃ F3 δ3 acc M n, Same F' F3 ∧ StOk K c F3 (wipe σ vs) H' δ3 ∧ Free c F3 (wipe σ vs) δ3 Dl ∧ H' Dl = some (SetO w Dl M n) ∧ (∀ k : Int, M k = true ↔ k ∈ acc) ∧ n ≤ acc.length ∧ acc.length ≤ i + 1 ∧
      setGo g t e vs (kFinS vs P) (items.drop (i + 1)) acc δ3, fun H' ⟨F3, δ3, acc3, M3, n3, z⟩ => ⟨items.length - (i + 1), by omega, rfl, hlt, F3, δ3, acc3, M3, n3, z⟩, fun x H3 y => ?_⟩
    obtain ⟨F3, e3, S3, r3, kf⟩ := so.yld i items[i] F2 _ H2 δ2 x H3 (List.getElem?_eq_getElem hlt) e2 S2 y
    obtain ⟨f3, h3⟩ := kf Dl _ f2 hS
    have S3g := S3.guard2 f3 h3 setO_nt
    have hz := f3.z
    refine ⟨c.with Dl (SetO w Dl M n), F3, δ2, items[i], _, S3g, r3, q, fun δ4 h4 σ4 F4 H4 e4 S4 a4 => ?_⟩
    have a4' : Apart (wipe σ vs) σ4 vs := ⟨a4.1, fun j hj => a4.2 j fun z => hj (hgv j z)⟩
    refine ⟨wipe_eq a4', c.with Dl (SetO w Dl M n), F4, δ4, _, S4, h4, fun b δ5 h5 F5 H5 e5 S5 => ?_⟩
    cases b with
    | false =>
      obtain ⟨ok5, h5⟩ := h5.2 (by decide)
      simp only [if_false, Bool.false_eq_true]
      obtain ⟨S6, f6, h6⟩ := S5.unguard hz
      exact ⟨F5, _, acc, M, n, ((e2.trans e3).trans e4).trans e5, (S6.wipe ok5).move a4'.sym, f6.wipe.move a4'.sym, h6, hM, hn, by omega, h5⟩
    | true =>
      replace h5 := h5.1 rfl
      simp only [if_true]
      refine ⟨c.with Dl (SetO w Dl M n), F5, δ5, _, S5, h5, fun v6 δ6 h6 v F6 H6 e6 S6 r6 => ?_⟩
      cases v6 with
      | slot j => exact h6.elim
      | val yd =>
        cases yd with
        | int kk =>
          obtain ⟨ok6, h6⟩ := h6
          obtain ⟨S7, f7, h7⟩ := S6.unguard hz
          have rv : v = .int kk := by simpa only [VwRel, Rep] using r6
          refine ⟨kk, M, n, rv, h7, by unfold scanBound; omega, F6, _, acc ++ [kk], _, _, (((e2.trans e3).trans e4).trans e5).trans e6, ((S7.put2 f7 h7 setO_nt).wipe ok6).move a4'.sym, f7.wipe.move a4'.sym, upd_same, fun j => ?_, ?_, ?_, h6⟩
          · rw [Bool.or_eq_true, hM j, decide_eq_true_eq, List.mem_append, List.mem_singleton]
          · rw [List.length_append, List.length_singleton]
            split <;> omega
          · rw [List.length_append, List.length_singleton]
            omega
        | _ => exact h6.elim
  · have hi' : i = items.length := by omega
    subst hi'
    rw [List.drop_length] at q
    obtain ⟨ok9, q⟩ := q
    have S9 := (S2.wipe ok9).move (σ' := σ) apart_wipe.sym
    refine Or.inl ⟨so.stop F2 _ H2 δ2 e2 S2, Dl, M, n, rfl, hS, by omega, fun ns p sorted mem len hp => ?_⟩
    obtain ⟨S10, f10⟩ := S9.fresh (o := .lst (ns.map V.int)) hp
    exact k _ _ (q ns sorted fun k => (mem k).trans (hM k)) p _ F2 _ (e'.trans e2) S10 f10 upd_same (Reps.of_ints ns)
/-- every turn gives its int and leaves the state as it is -/
theorem sort_set {β : Type} {enc : β → D} {f : β → Int} {δ : DS} {g : DG} {t : DT} {e : DV} {vs : List Nat} {Q : List Int → DS → Prop} {xs : List β}
    (h : ∀ x ∈ xs, ∀ K1 K2, (∀ δ', okWipe δ' vs = true → dWipe δ' vs = δ → K1 (.int (f x)) δ') → stepC g t e (enc x) δ K1 K2) (hq : Q (xs.map f) δ) :
    loopD (xs.map enc) δ (BoxL.mk : BoxL fun items δ => setGo g t e vs Q items [] δ) := by
  have all : ∀ (ys : List β) (acc : List Int), (∀ x ∈ ys, x ∈ xs) → Q (acc ++ ys.map f) δ → setGo g t e vs Q (ys.map enc) acc δ := fun ys => by
    induction ys with
    | nil =>
      intro acc _ q
      rw [List.map_nil, List.append_nil] at q
      exact q
    | cons y ys ih =>
      intro acc hs q
      refine h y (hs y List.mem_cons_self) _ _ fun δ' h1 h2 => ⟨h1, ?_⟩
      rw [h2]
      exact ih (acc ++ [f y]) (fun x hx => hs x (List.mem_cons_of_mem _ hx)) (by rw [List.append_assoc]; exact q)
  exact all xs [] (fun x hx => hx) hq
end Dl

/-! Dl: zip(list, tuple) of one length. -/
namespace Dl
open PySem L2 PySem.Spec PyProof.Rows
theorem plain_list {h : Heap} {a : Addr} {its : Array Value} (p : PlainL h a its) : h.IsList a its := by
  obtain ⟨o, n, ho, hc, hd, hx⟩ := p
  exact ⟨o, ho, hc, n, hx⟩
/-- a list's items with a tuple's, each in a new pair -/
def ItLT (K : PySem.W.Frag) (a b : Addr) : It :=
  ⟨fun i H => ∃ (xs ys : List V) (v y : V), SqL K H a xs ∧ SqT K H b ys ∧ xs[i]? = some v ∧ ys[i]? = some y,
   fun i H v H' => ∃ T y1 y2, v = .ref T ∧ H T = none ∧ H' = upd H T (.tup [y1, y2]) ∧ (∀ xs, SqL K H a xs → xs[i]? = some y1) ∧ ∀ ys, SqT K H b ys → ys[i]? = some y2,
   fun i H => ∃ xs ys : List V, SqL K H a xs ∧ SqT K H b ys ∧ xs.length = i ∧ ys.length = i⟩
theorem turn_zipL {P : Program} {w : World} {K : PySem.W.Frag} {elts : List Expr} {kk : Nat} {tpos : Pos} {a bb z TI TO i1 i2 : Addr} (D : ZipSep2 z TI TO i1 i2 [i1, a] [i2, bb]) (hne : a ≠ i1) (hne2 : bb ≠ i2) :
    Turn P w K (.Tuple elts kk tpos) (ItLT K a bb) [z, TI, TO, i1, i2] z (fun i h => IsZip h z TI TO .none ∧ IsTupOf2 h TI (.ref i1) (.ref i2) ∧ (∃ u v, IsTupOf2 h TO u v) ∧ h.IsListIter i1 a i ∧ h.IsTupleIter i2 bb i) where
  mem := List.mem_cons_self
  obj := fun i h q b hb => by
    obtain ⟨h1, h2, ⟨u, v, h3⟩, ⟨o4, e4, _, d4⟩, ⟨o5, e5, _, d5⟩⟩ := q
    simp only [List.mem_cons, List.not_mem_nil, or_false] at hb
    rcases hb with rfl | rfl | rfl | rfl | rfl
    · exact ⟨_, h1, nofun⟩
    · exact ⟨_, h2, nofun⟩
    · exact ⟨_, h3, nofun⟩
    · exact ⟨_, e4, fun v z => by rw [d4] at z; cases z⟩
    · exact ⟨_, e5, fun v z => by rw [d5] at z; cases z⟩
  keep := fun i h h' q k => by
    obtain ⟨h1, h2, ⟨u, v, h3⟩, h4, h5⟩ := q
    exact ⟨k z (by simp) _ h1, k TI (by simp) _ h2, ⟨u, v, k TO (by simp) _ h3⟩, h4.at fun o e => k i1 (by simp) o e, h5.at fun o e => k i2 (by simp) o e⟩
  item := by
    rintro X rfl rfl rfl hc i pins s σ H E I hf ⟨hz, hTI, ⟨u0, v0, hTO⟩, h1, h2⟩ ⟨xs, ys, y1, y2, hq, hq2, hx, hy⟩
    obtain ⟨its, rv, p0, _⟩ := I.list hq
    have p := plain_list p0
    obtain ⟨its2, rv2, p2, _⟩ := I.tuple hq2
    obtain ⟨u, hu, ru⟩ := rv.get hx
    obtain ⟨u2, hu2, ru2⟩ := rv2.get hy
    have hzl : z < s.heap.objs.size := Heap.lt_size hz
    have hi1 : i < its.toArray.size := by
      have := (List.getElem?_eq_some_iff.mp hu).1
      simpa using this
    have hi2 : i < its2.toArray.size := by
      have := (List.getElem?_eq_some_iff.mp hu2).1
      simpa using this
    refine wpAny_pyNext_zipD2_item D (Draws.list (A := X.A.in1) (I.ok.hd hc) i1 a hne its.toArray) (Draws.tuple (A := X.A.in1) (I.ok.hd hc) i2 bb hne2 its2.toArray) hz hTI hTO ⟨h1, p⟩ ⟨h2, p2⟩ hi1 hi2 fun x1 x2 h' tk g1 g2 z' TO' st1 st2 hT hsz hk => ?_
    obtain rfl : x1 = u := by
      have e : its.toArray[i]? = some u := by simpa using hu
      rw [e] at g1
      exact (Option.some.inj g1).symm
    obtain rfl : x2 = u2 := by
      have e : its2.toArray[i]? = some u2 := by simpa using hu2
      rw [e] at g2
      exact (Option.some.inj g2).symm
    refine ⟨_, rfl, wpAny_letOwnedTupleGo_zip (s := { s with heap := h', toks := tk }) z' fun h2' z2 sb => ?_⟩
    have hT2 : h2'.get? s.heap.objs.size = some { cls := .type "tuple", data := .seq #[x1, x2] } := (sb.2 _ (Nat.ne_of_gt hzl)).trans hT
    have new : ObjOk X.prog X.w (upd H s.heap.objs.size (.tup [y1, y2])) h2' s.heap.objs.size (.tup [y1, y2]) :=
      ⟨(show 2 ≤ sizeLine by decide), [x1, x2], .cons ru (.cons ru2 .nil), ⟨_, hT2, rfl, _, rfl⟩⟩
    have ch : ∀ b ob, b ∉ [z, TI, TO, i1, i2] → s.heap.get? b = some ob → h2'.get? b = some ob := fun b ob hb q => (sb.2 b fun q' => hb (by simp [q'])).trans (hk b ob (fun q' => hb (by simp [q'])) (fun q' => hb (by simp [q'])) (fun q' => hb (by simp [q'])) (fun q' => hb (by simp [q'])) q)
    have I1 : Inv X pins σ (upd H s.heap.objs.size (.tup [y1, y2])) { s with heap := h2', toks := tk } := I.turnedNew ch hf (Nat.le_refl _) new
    refine ⟨.ref s.heap.objs.size, _, I1, rfl, ⟨_, y1, y2, rfl, I.hok.fresh (Nat.le_refl _), rfl, fun zs hzs => by rw [I.list_inj hzs hq]; exact hx, fun zs hzs => by rw [I.tuple_inj hzs hq2]; exact hy⟩, ⟨z2, ?_, ⟨_, _, (sb.2 _ D.TOz).trans TO'⟩, st1.1.at fun o q => (sb.2 _ (Ne.symm D.zi1)).trans q, st2.1.at fun o q => (sb.2 _ (Ne.symm D.zi2)).trans q⟩, fun b hb => ?_⟩
    · exact (sb.2 _ D.TIz).trans (hk _ _ D.TIz D.TITO D.TIi1 D.TIi2 hTI)
    · have hlt : b < s.heap.objs.size := by
        simp only [List.mem_cons, List.not_mem_nil, or_false] at hb
        rcases hb with rfl | rfl | rfl | rfl | rfl
        · exact hzl
        · exact Heap.lt_size hTI
        · exact Heap.lt_size hTO
        · obtain ⟨_, e1, _⟩ := h1
          exact Heap.lt_size e1
        · obtain ⟨_, e1, _⟩ := h2
          exact Heap.lt_size e1
      rw [upd_ne (Nat.ne_of_lt hlt)]
      exact (hf b hb).1
  done := by
    rintro X rfl rfl rfl hc i pins s σ H E I hf ⟨hz, hTI, ⟨u0, v0, hTO⟩, h1, h2⟩ ⟨xs, ys, hq, hq2, l1, l2⟩
    obtain ⟨its, rv, p0, _⟩ := I.list hq
    have p := plain_list p0
    obtain ⟨its2, rv2, p2, _⟩ := I.tuple hq2
    have hl := rv.length
    have hl2 := rv2.length
    have fin : ∀ h' tk, (∀ b ob, b ≠ z → b ≠ TO → b ≠ i1 → b ≠ i2 → s.heap.get? b = some ob → h'.get? b = some ob) → (none : Option Value) = none ∧ Inv X pins σ H { s with heap := h', toks := tk } := fun h' tk hk =>
      ⟨rfl, I.turnedL (ch := [z, TI, TO, i1, i2]) (fun b ob hb q => hk b ob (fun q' => hb (by simp [q'])) (fun q' => hb (by simp [q'])) (fun q' => hb (by simp [q'])) (fun q' => hb (by simp [q'])) q) hf⟩
    exact wpAny_pyNext_zipD2_end D (Draws.list (A := X.A.in1) (I.ok.hd hc) i1 a hne its.toArray) (Draws.tuple (A := X.A.in1) (I.ok.hd hc) i2 bb hne2 its2.toArray) hz hTI hTO ⟨h1, p⟩ ⟨h2, p2⟩ (by simp; omega) (by simp; omega) (.inl (by simp; omega)) fin
  self := fun A i s Q E q h => wpAny_pyIter_zip q.1 h
theorem sep_two (n a b : Nat) (la : a < n) (lb : b < n) : ZipSep2 (n + 4) (n + 2) (n + 3) n (n + 1) [n, a] [n + 1, b] where
  TIz := adr_ne (by omega)
  TOz := adr_ne (by omega)
  TITO := adr_ne (by omega)
  TIi1 := adr_ne (by omega)
  mem1 := List.mem_cons_self
  zf1 := adr_two (by omega) (by omega)
  Tf1 := adr_two (by omega) (by omega)
  TIi2 := adr_ne (by omega)
  mem2 := List.mem_cons_self
  zf2 := adr_two (by omega) (by omega)
  Tf2 := adr_two (by omega) (by omega)
  sep1_2 := adr_two (by omega) (by omega)
  sep2_1 := adr_two (by omega) (by omega)
def iZipL (K : PySem.W.Frag) (ta : TA) : TI := fun σ H R => ta σ H fun vs H1 => ∃ a b xs ys, vs = [.ref a, .ref b] ∧ SqL K H1 a xs ∧ SqT K H1 b ys ∧ R (ItLT K a b) H1
theorem pi_zipL {X : Cx} {e e2 : Expr} {ta : TA} {p pos tpos : Pos} {elts : List Expr} {kk : Nat} (hg : Gl X "zip") (hm : X.mg "zip" = none) (ha : PA X [e, e2] ta)
    (hs : starEach [e, e2] X.env = (false, eval e X.env) :: starEach [e2] X.env := by rfl) (hpl : (backTo pos (starEach [e2] X.env)).any (·.1) = false := by rfl) :
    PI X (.Tuple elts kk tpos) (.Call (.Name "zip" p) [e, e2] [] pos) (iZipL X.K ta) := ⟨fun pins s σ H R I hyp => by
  refine Call_ (ld_blt I hg hm PyProof.Rows.boot_zip (PyProof.Rows.callWith_type1 (thn (ha.run pos pins s σ H _ I hyp) fun us s1 res => ?_) hs hpl))
  obtain ⟨vs, H1, I1, r1, a, b, xs, ys, rfl, hq, hq2, go⟩ := res
  obtain ⟨u, u', rfl, ra, rb⟩ := vals2 r1
  cases ra
  cases rb
  obtain ⟨its, rv, p0, _⟩ := I1.list hq
  have p1 := plain_list p0
  obtain ⟨its2, rv2, p2, _⟩ := I1.tuple hq2
  obtain ⟨oa, hoa, _⟩ := id p1
  obtain ⟨ob, hob, _⟩ := id p2
  have la : a < s1.heap.objs.size := Heap.lt_size hoa
  have lb : b < s1.heap.objs.size := Heap.lt_size hob
  refine zip_begins2 (begins_list a its.toArray) (begins_tuple b its2.toArray) p1 p2 fun h' hz hTI hTO g1 g2 hsz hk => wpAny_pyIter_zip hz ?_
  refine ⟨s1.heap.objs.size + 4, [s1.heap.objs.size + 4, s1.heap.objs.size + 2, s1.heap.objs.size + 3, s1.heap.objs.size, s1.heap.objs.size + 1], _, _, H1, rfl, I1.kept (t' := s1.toks) hk, turn_zipL ?_ (Nat.ne_of_lt la) (Nat.ne_of_lt (Nat.lt_succ_of_lt lb)), ⟨hz, hTI, ⟨_, _, hTO⟩, ⟨_, g1, rfl, rfl⟩, ⟨_, g2, rfl, rfl⟩⟩, fun b hb => ?_, go⟩
  · exact sep_two _ a b la lb
  · have hle : s1.heap.objs.size ≤ b := new_le hb
    exact I1.fpOk hle (I1.hok.fresh hle)⟩
def zipL (ds es : List D) : List D := List.zipWith (fun d e => .tup [d, e]) ds es
theorem src_zipL {K : PySem.W.Frag} {c : Ct} {a b : Addr} {F0 : Hp} {ds es : List D} {vs us : List V} (h : F0 a = some (.lst vs)) (r : Reps K F0 ds vs) (h' : SqT K F0 b us) (r' : Reps K F0 es us) (same : ds.length = es.length) : SrcOk K c (ItLT K a b) F0 (zipL ds es) := by
  have at1 : ∀ {F σ H δ}, Same F0 F → StOk K c F σ H δ → SqL K H a vs := fun e S => SqL.of (S.sub _ _ (e _ _ h))
  have at2 : ∀ {F σ H δ}, Same F0 F → StOk K c F σ H δ → SqT K H b us := fun e S => same_t S.sub (same_t e h')
  have ln : (zipL ds es).length = min ds.length es.length := List.length_zipWith
  have vl := r.len
  have ul := r'.len
  refine ⟨fun F σ H δ e S => ⟨vs, us, at1 e S, at2 e S, by rw [ln]; omega, by rw [ln]; omega⟩, fun i F σ H δ hi e S => ?_, fun i d F σ H δ y0 H' hi e S y => ?_⟩
  · rw [ln] at hi
    have hi' : i < vs.length := by omega
    have hi2 : i < us.length := by omega
    exact ⟨vs, us, vs[i], us[i], at1 e S, at2 e S, List.getElem?_eq_getElem hi', List.getElem?_eq_getElem hi2⟩
  · obtain ⟨T, x0, c0, rfl, hT, rfl, hall, hall2⟩ := y
    have hib : i < (zipL ds es).length := (List.getElem?_eq_some_iff.mp hi).1
    rw [ln] at hib
    have hi2 : i < ds.length := by omega
    have hi3 : i < es.length := by omega
    obtain ⟨v0, h1, h2⟩ := r.get (List.getElem?_eq_getElem hi2)
    obtain ⟨v1, k1, k2⟩ := r'.get (List.getElem?_eq_getElem hi3)
    have h3 := hall vs (at1 e S)
    have k3 := hall2 us (at2 e S)
    rw [h1] at h3
    rw [k1] at k3
    obtain rfl := Option.some.inj h3
    obtain rfl := Option.some.inj k3
    have ed : d = .tup [ds[i], es[i]] := by
      unfold zipL at hi
      rw [List.getElem?_zipWith, List.getElem?_eq_getElem hi2, List.getElem?_eq_getElem hi3] at hi
      exact (Option.some.inj hi).symm
    subst ed
    obtain ⟨sF, S2⟩ := S.alloc (o := .tup [v0, v1]) hT
    refine ⟨_, sF, S2, ?_, fun p o f hp => ?_⟩
    · simp only [Rep]
      refine ⟨T, _, rfl, SqT.of upd_same, ?_⟩
      exact Reps.cons (Rep.mono (e.trans sF) _ _ h2) (Reps.cons (Rep.mono (e.trans sF) _ _ k2) Reps.nil)
    · have ne : p ≠ T := fun z => by
        rw [z, hT] at hp
        cases hp
      exact ⟨⟨by rw [upd_ne ne]; exact f.f, f.z, f.o⟩, by rw [upd_ne ne]; exact hp⟩
def kZipL (Q : List D → DS → Prop) : List Vw → DS → Prop := fun ws δ1 => match ws with
  | [.val (.lst ds), .val (.tup es)] => ds.length = es.length ∧ Q (zipL ds es) δ1
  | _ => False
def iZipLD (r : DA) : DI := fun δ Q => r δ (kZipL Q)
theorem i_zipL {X : Cx} {e e2 : Expr} {rs : DA} {p pos tpos : Pos} {elts : List Expr} {kk : Nat} (hg : Gl X "zip") (hm : X.mg "zip" = none) (ha : PA X [e, e2] (liftA X.K rs))
    (hs : starEach [e, e2] X.env = (false, eval e X.env) :: starEach [e2] X.env := by rfl) (hpl : (backTo pos (starEach [e2] X.env)).any (·.1) = false := by rfl) :
    PI X (.Tuple elts kk tpos) (.Call (.Name "zip" p) [e, e2] [] pos) (liftI X.K (iZipLD rs)) := pi_wk (pi_zipL hg hm ha hs hpl) fun σ H R ⟨c, F, δ, P, S, h, k⟩ => ⟨c, F, δ, _, S, h, fun ws δ1 h1 vs F1 H1 e1 S1 r1 => by
  match ws, h1, r1 with
  | [.val (.lst ds), .val (.tup es)], h1, r1 =>
    obtain ⟨v, us, rfl, g1, v2, us2, rfl, g2, g3⟩ := r1
    have e2 : us2 = [] := g3
    subst e2
    have r : Rep X.K F1 (.lst ds) v := g1
    have r2 : Rep X.K F1 (.tup es) v2 := g2
    simp only [Rep] at r r2
    obtain ⟨a, xs, rfl, q1, q2⟩ := r
    obtain ⟨b, ys, rfl, q3, q4⟩ := r2
    exact ⟨a, b, xs, ys, rfl, SqL.of (S1.sub _ _ q1), same_t S1.sub q3, k _ _ h1.2 _ F1 H1 e1 S1 (src_zipL q1 q2 q3 q4 h1.1)⟩⟩
theorem ev_zipL {r : DA} {δ : DS} {Q : List D → DS → Prop} : iZipLD r δ Q = r δ (kZipL Q) := rfl
theorem ev_kzipL {ds es : List D} {δ : DS} {Q : List D → DS → Prop} : kZipL Q [.val (.lst ds), .val (.tup es)] δ = (ds.length = es.length ∧ Q (zipL ds es) δ) := rfl
theorem of_rep {K : PySem.W.Frag} : OpF K rRep repR := fun F H a b x y P Q e ha hb h k => by
  unfold repR at h
  split at h
  · obtain ⟨p, vs, rfl, h1, h2⟩ := lst_v ha
    have ey := int_v hb
    subst ey
    exact ⟨p, _, vs, rfl, rfl, h1, h.1.1, h.1.2.1, by rw [h2.len]; exact line_le h.1.2.2, fun l hl => k _ l _ h.2 hl (h2.rep _)⟩
  · exact h.elim
end Dl

/-! Dl: a dict of one's own with ints as keys: {}, d[k] = v, d.get(k, x), d[k], sorted(d). -/
namespace Dl
open PySem L2
def valD (kvs : List (Key × D)) (k : Key) : Option D := (kvs.find? fun kv => decide (kv.1 = k)).map (·.2)
def putD (kvs : List (Key × D)) (k : Key) (d : D) : List (Key × D) :=
  if (kvs.any fun kv => decide (kv.1 = k)) = true then kvs.map (fun kv => if kv.1 = k then (kv.1, d) else kv) else kvs ++ [(k, d)]
abbrev PairD (K : PySem.W.Frag) (F : Hp) : List (Key × D) → List (Key × V) → Prop := Paired fun p q => p.1 = q.1 ∧ Rep K F p.2 q.2
section
variable {K : PySem.W.Frag} {F : Hp}
theorem pairD_len {kvs : List (Key × D)} {ws : List (Key × V)} (h : PairD K F kvs ws) : ws.length = kvs.length := by
  induction h with
  | nil => rfl
  | cons _ _ ih => rw [List.length_cons, List.length_cons, ih]
theorem pairD_keys {kvs : List (Key × D)} {ws : List (Key × V)} (h : PairD K F kvs ws) : ws.map (·.1) = kvs.map (·.1) := by
  induction h with
  | nil => rfl
  | cons p _ ih => rw [List.map_cons, List.map_cons, ih, p.1]
theorem pairD_val {kvs : List (Key × D)} {ws : List (Key × V)} (h : PairD K F kvs ws) (k : Key) : (valD kvs k = none ∧ valV ws k = none) ∨ ∃ d v, valD kvs k = some d ∧ valV ws k = some v ∧ Rep K F d v := by
  induction h with
  | nil => exact .inl ⟨rfl, rfl⟩
  | @cons a b as bs p _ ih =>
    by_cases e : a.1 = k
    · refine .inr ⟨a.2, b.2, ?_, valV_pos (by rw [← p.1]; exact e), p.2⟩
      unfold valD
      rw [List.find?_cons, decide_eq_true e]
      rfl
    · have e1 : valD (a :: as) k = valD as k := by
        unfold valD
        rw [List.find?_cons, decide_eq_false e]
      rw [e1, valV_neg (by rw [← p.1]; exact e)]
      exact ih
theorem pairD_any {kvs : List (Key × D)} {ws : List (Key × V)} (h : PairD K F kvs ws) (k : Key) : (ws.any fun kv => decide (kv.1 = k)) = kvs.any fun kv => decide (kv.1 = k) := by
  induction h with
  | nil => rfl
  | cons p _ ih => rw [List.any_cons, List.any_cons, ih, p.1]
theorem pairD_repl {kvs : List (Key × D)} {ws : List (Key × V)} (h : PairD K F kvs ws) (k : Key) {d : D} {v : V} (r : Rep K F d v) : PairD K F (kvs.map fun kv => if kv.1 = k then (kv.1, d) else kv) (ws.map fun kv => if kv.1 = k then (kv.1, v) else kv) := by
  induction h with
  | nil => exact .nil
  | @cons a b as bs p _ ih =>
    refine .cons ?_ ih
    dsimp only
    by_cases e : a.1 = k
    · rw [if_pos e, if_pos (by rw [← p.1]; exact e)]
      exact ⟨p.1, r⟩
    · rw [if_neg e, if_neg (by rw [← p.1]; exact e)]
      exact p
theorem pairD_put {kvs : List (Key × D)} {ws : List (Key × V)} (h : PairD K F kvs ws) (k : Key) {d : D} {v : V} (r : Rep K F d v) : PairD K F (putD kvs k d) (putK ws k v) := by
  unfold putD putK
  rw [pairD_any h]
  split
  · exact pairD_repl h k r
  · exact Paired.snoc h ⟨rfl, r⟩
end
theorem units1 {k : Nat} {A : Around} (r : Room k A) : A.units + 1 < cLine := by
  have := r.un
  omega
/-! {} -/
def sDic (i : Nat) : DSt := fun E δ => okSet δ i = true ∧ E.nx (ss δ i (.own false (.dic [])))
theorem ev_dic {i : Nat} {E : DE} {δ : DS} : sDic i E δ = (okSet δ i = true ∧ E.nx (ss δ i (.own false (.dic [])))) := rfl
theorem dic_sound {K : PySem.W.Frag} {i : Nat} : ∀ D σ H, liftS K (sDic i) D σ H → tAsg tDNewK (gName i) D σ H := fun D σ H ⟨c, F, δ, E, S, ⟨h1, h2⟩, L⟩ p hp => by
  obtain ⟨S1, f1⟩ := S.fresh (o := .dK []) hp
  rw [ss_eq] at h2
  exact L.nx _ h2 _ F _ (Same.refl _) (S1.asgO (okSet_io h1) f1 upd_same ⟨[], rfl, .nil⟩)
/-! the slot holds a dict -/
def isDicS : Sl → Prop
  | .own _ (.dic _) => True
  | _ => False
theorem isDic_at {δ : DS} {i : Nat} (h : isDicS (sg δ i)) : ∃ io kvs, sg δ i = .own io (.dic kvs) := by
  cases q : sg δ i with
  | no => rw [q] at h; exact h.elim
  | frz _ => rw [q] at h; exact h.elim
  | own io x =>
    rw [q] at h
    cases x with
    | dic kvs => exact ⟨io, kvs, rfl⟩
    | lst _ => exact h.elim
    | dicT _ => exact h.elim
theorem ev_isDic {io : Bool} {kvs : List (Key × D)} : isDicS (.own io (.dic kvs)) = True := rfl
/-! d[k] = v -/
inductive BoxDE (E : DE) : Type where
  | mk
def putGo (s : Sl) (i : Nat) (k : Int) (dv : D) (δ : DS) {E : DE} (_ : BoxDE E) : Prop := match s with
  | .own io (.dic kvs) => kvs.length < 16777216 ∧ E.nx (ss δ i (.own io (.dic (putD kvs (.inl k) dv))))
  | _ => False
def kDP2 (i : Nat) (dv : D) (E : DE) : Vw → DS → Prop := fun wk δ2 => match wk with
  | .val (.int k) => putGo (sg δ2 i) i k dv δ2 (BoxDE.mk : BoxDE E)
  | _ => False
def kDP1 (i : Nat) (rk : DV) (E : DE) : Vw → DS → Prop := fun wv δ1 => match wv with
  | .val dv => isDicS (sg δ1 i) ∧ rk δ1 (kDP2 i dv E)
  | .slot _ => False
def sDPutI (i : Nat) (rv rk : DV) : DSt := fun E δ => rv δ (kDP1 i rk E)
section
variable {i : Nat} {rv rk rx : DV} {E : DE} {δ : DS} {k : Int} {dv : D} {io : Bool} {kvs : List (Key × D)}
theorem ev_dput : sDPutI i rv rk E δ = rv δ (kDP1 i rk E) := rfl
theorem ev_kdp1 : kDP1 i rk E (.val dv) δ = (isDicS (sg δ i) ∧ rk δ (kDP2 i dv E)) := rfl
theorem ev_kdp2 : kDP2 i dv E (.val (.int k)) δ = putGo (sg δ i) i k dv δ (BoxDE.mk : BoxDE E) := rfl
theorem ev_putGo {z : BoxDE E} : putGo (.own io (.dic kvs)) i k dv δ z = (kvs.length < 16777216 ∧ E.nx (ss δ i (.own io (.dic (putD kvs (.inl k) dv))))) := rfl
end
theorem dput_sound {K : PySem.W.Frag} {i : Nat} {rv rk : DV} : ∀ D σ H, liftS K (sDPutI i rv rk) D σ H → sDPut (tVar i) (liftV K rk) (liftV K rv) D σ H := fun D σ H ⟨c, F, δ, E, S, h, L⟩ => ⟨c, F, δ, _, S, h, fun wv δ1 h1 v F1 H1 e1 S1 r1 => by
  cases wv with
  | slot j => exact h1.elim
  | val dv =>
    obtain ⟨hd, h1⟩ := h1
    obtain ⟨io0, kvs0, q0⟩ := isDic_at hd
    obtain ⟨l, ho, k1, k2, k3, k4, ws0, rfl, k5⟩ := S1.own (sg_at q0 (by intro z; cases z))
    refine ⟨_, k1, c, F1, δ1, _, S1, h1, fun wk δ2 h2 y F2 H2 e2 S2 r2 => ?_⟩
    cases wk with
    | slot j => exact h2.elim
    | val dk =>
      cases dk with
      | int k =>
        have ey : y = .int k := by simpa only [VwRel, Rep] using r2
        subst ey
        replace h2 : putGo (sg δ2 i) i k dv δ2 (BoxDE.mk : BoxDE E) := h2
        cases q2 : sg δ2 i with
        | no => rw [q2] at h2; exact h2.elim
        | frz _ => rw [q2] at h2; exact h2.elim
        | own io2 x2 =>
          rw [q2] at h2
          cases x2 with
          | lst _ => exact h2.elim
          | dicT _ => exact h2.elim
          | dic kvs =>
            obtain ⟨hl, h2⟩ := h2
            have at2 := sg_at q2 (by intro z; cases z)
            obtain ⟨l2, ho2, m1, m2, m3, m4, ws, rfl, m5⟩ := S2.own at2
            rw [k1] at m1
            cases m1
            refine ⟨l, _, rfl, DPut.k (k := .inl k) m4 (by rw [pairD_len m5, sizeLine_eq]; exact hl), ?_⟩
            rw [ss_eq] at h2
            exact L.nx _ h2 _ F2 _ (e1.trans e2) (S2.put at2 k1 ⟨_, rfl, pairD_put m5 (.inl k) (Rep.mono e2 _ _ r1)⟩)
      | _ => exact h2.elim⟩
/-! d[k] -/
inductive BoxVK (Q : Vw → DS → Prop) : Type where
  | mk
def getGo (s : Sl) (k : Int) (o : Option D) (δ : DS) {Q : Vw → DS → Prop} (_ : BoxVK Q) : Prop := match s with
  | .own _ (.dic kvs) => ∃ d, (valD kvs (.inl k)).or o = some d ∧ Q (.val d) δ
  | _ => False
def kDI (i : Nat) (Q : Vw → DS → Prop) : Vw → DS → Prop := fun wk δ2 => match wk with
  | .val (.int k) => getGo (sg δ2 i) k none δ2 (BoxVK.mk : BoxVK Q)
  | _ => False
def rDIx (i : Nat) (rk : DV) : DV := fun δ Q => isDicS (sg δ i) ∧ rk δ (kDI i Q)
def kDG2 (i : Nat) (k : Int) (Q : Vw → DS → Prop) : Vw → DS → Prop := fun wx δ3 => match wx with
  | .val dx => getGo (sg δ3 i) k (some dx) δ3 (BoxVK.mk : BoxVK Q)
  | .slot _ => False
def kDG1 (i : Nat) (rx : DV) (Q : Vw → DS → Prop) : Vw → DS → Prop := fun wk δ2 => match wk with
  | .val (.int k) => rx δ2 (kDG2 i k Q)
  | _ => False
def rDGet (i : Nat) (rk rx : DV) : DV := fun δ Q => isDicS (sg δ i) ∧ rk δ (kDG1 i rx Q)
section
variable {i : Nat} {rk rx : DV} {Q : Vw → DS → Prop} {δ : DS} {k : Int} {dx : D} {io : Bool} {kvs : List (Key × D)} {o : Option D}
theorem ev_dix : rDIx i rk δ Q = (isDicS (sg δ i) ∧ rk δ (kDI i Q)) := rfl
theorem ev_kdi : kDI i Q (.val (.int k)) δ = getGo (sg δ i) k none δ (BoxVK.mk : BoxVK Q) := rfl
theorem ev_dget : rDGet i rk rx δ Q = (isDicS (sg δ i) ∧ rk δ (kDG1 i rx Q)) := rfl
theorem ev_kdg1 : kDG1 i rx Q (.val (.int k)) δ = rx δ (kDG2 i k Q) := rfl
theorem ev_kdg2 : kDG2 i k Q (.val dx) δ = getGo (sg δ i) k (some dx) δ (BoxVK.mk : BoxVK Q) := rfl
theorem ev_getGo {z : BoxVK Q} : getGo (.own io (.dic kvs)) k o δ z = ∃ d, (valD kvs (.inl k)).or o = some d ∧ Q (.val d) δ := rfl
end
theorem getGo_at {s : Sl} {k : Int} {o : Option D} {δ : DS} {Q : Vw → DS → Prop} {z : BoxVK Q} (h : getGo s k o δ z) : ∃ io kvs d, s = .own io (.dic kvs) ∧ (valD kvs (.inl k)).or o = some d ∧ Q (.val d) δ := by
  cases s with
  | no => exact h.elim
  | frz _ => exact h.elim
  | own io x =>
    cases x with
    | lst _ => exact h.elim
    | dicT _ => exact h.elim
    | dic kvs =>
      obtain ⟨d, e, q⟩ := h
      exact ⟨io, kvs, d, rfl, e, q⟩
theorem dix_sound {K : PySem.W.Frag} {i : Nat} {rk : DV} : ∀ σ H Q, liftV K (rDIx i rk) σ H Q → tDGet (tVar i) (liftV K rk) σ H Q := fun σ H Q ⟨c, F, δ, P, S, ⟨hd, h⟩, kk⟩ => by
  obtain ⟨io0, kvs0, q0⟩ := isDic_at hd
  obtain ⟨l, ho, k1, k2, k3, k4, ws0, rfl, k5⟩ := S.own (sg_at q0 (by intro z; cases z))
  refine ⟨_, k1, c, F, δ, _, S, h, fun wk δ2 h2 y F2 H2 e2 S2 r2 => ?_⟩
  cases wk with
  | slot j => exact h2.elim
  | val dk =>
    cases dk with
    | int k =>
      have ey : y = .int k := by simpa only [VwRel, Rep] using r2
      subst ey
      obtain ⟨io2, kvs, d, q2, ed, hq⟩ := getGo_at (show getGo (sg δ2 i) k none δ2 (BoxVK.mk : BoxVK P) from h2)
      obtain ⟨l2, ho2, m1, m2, m3, m4, ws, rfl, m5⟩ := S2.own (sg_at q2 (by intro z; cases z))
      rw [k1] at m1
      cases m1
      rw [Option.or_none] at ed
      rcases pairD_val m5 (.inl k) with ⟨z, _⟩ | ⟨d', v, e1, e3, r3⟩
      · rw [z] at ed; cases ed
      · rw [e1] at ed
        cases ed
        exact ⟨l, v, rfl, by have := DGet.k (k := .inl k) m4; rw [e3] at this; exact this, kk _ _ hq v F2 H2 e2 S2 r3⟩
    | _ => exact h2.elim
theorem dget_sound {K : PySem.W.Frag} {i : Nat} {rk rx : DV} : ∀ σ H Q, liftV K (rDGet i rk rx) σ H Q → tDGet2 (tVar i) (liftV K rk) (liftV K rx) σ H Q := fun σ H Q ⟨c, F, δ, P, S, ⟨hd, h⟩, kk⟩ => by
  obtain ⟨io0, kvs0, q0⟩ := isDic_at hd
  obtain ⟨l, ho, k1, k2, k3, k4, ws0, rfl, k5⟩ := S.own (sg_at q0 (by intro z; cases z))
  refine ⟨_, k1, l, rfl, .inl ⟨_, .inl k4⟩, c, F, δ, _, S, h, fun wk δ2 h2 y F2 H2 e2 S2 r2 => ?_⟩
  cases wk with
  | slot j => exact h2.elim
  | val dk =>
    cases dk with
    | int k =>
      have ey : y = .int k := by simpa only [VwRel, Rep] using r2
      subst ey
      refine ⟨c, F2, δ2, _, S2, h2, fun wx δ3 h3 x F3 H3 e3 S3 r3 => ?_⟩
      cases wx with
      | slot j => exact h3.elim
      | val dx =>
        obtain ⟨io3, kvs, d, q3, ed, hq⟩ := getGo_at (show getGo (sg δ3 i) k (some dx) δ3 (BoxVK.mk : BoxVK P) from h3)
        obtain ⟨l2, ho2, m1, m2, m3, m4, ws, rfl, m5⟩ := S3.own (sg_at q3 (by intro z; cases z))
        rw [k1] at m1
        cases m1
        refine ⟨valV ws (.inl k), DGet.k (k := .inl k) m4, ?_⟩
        rcases pairD_val m5 (.inl k) with ⟨z1, z2⟩ | ⟨d', v, g1, g2, g3⟩
        · rw [z1] at ed
          rw [z2]
          cases ed
          exact kk _ _ hq x F3 H3 (e2.trans e3) S3 r3
        · rw [g1] at ed
          rw [g2]
          cases ed
          exact kk _ _ hq v F3 H3 (e2.trans e3) S3 g3
    | _ => exact h2.elim
/-! sorted(d) -/
def keysGo (s : Sl) (δ : DS) {Q : List D → DS → Prop} (_ : BoxF Q) : Prop := match s with
  | .own _ (.dic kvs) => ∃ ks : List Int, kvs.map (·.1) = ks.map Sum.inl ∧ ks.length < 64 ∧ ∀ ys : List Int, ys.Perm ks → ys.Pairwise (· ≤ ·) → Q (ys.map D.int) δ
  | _ => False
def rSortDI (i : Nat) : DF := fun δ Q => keysGo (sg δ i) δ (BoxF.mk : BoxF Q)
theorem ev_sortDI {i : Nat} {δ : DS} {Q : List D → DS → Prop} : rSortDI i δ Q = keysGo (sg δ i) δ (BoxF.mk : BoxF Q) := rfl
theorem ev_keysGo {δ : DS} {Q : List D → DS → Prop} {z : BoxF Q} {io : Bool} {kvs : List (Key × D)} : keysGo (.own io (.dic kvs)) δ z = ∃ ks : List Int, kvs.map (·.1) = ks.map Sum.inl ∧ ks.length < 64 ∧ ∀ ys : List Int, ys.Perm ks → ys.Pairwise (· ≤ ·) → Q (ys.map D.int) δ := rfl
def rSortedKeys : List V → Hp → VK → Prop := fun xs H Q => ∃ (a : Addr) (kvs : List (Key × V)) (ks : List Int), xs = [.ref a] ∧ Rd H a (.dK kvs) ∧ kvs.map (·.1) = ks.map Sum.inl ∧ ks.length < 64 ∧
    ∀ (ys : List Int) (p : Addr), ys.Perm ks → ys.Pairwise (· ≤ ·) → H p = none → Q (.ref p) (upd H p (.lst (ys.map V.int)))
theorem cr_sortDI {X : Cx} (hc : X.calm = true) : CallR X (.builtin "sorted") rSortedKeys := call_sortedDI hc
theorem sortDI_sound {K : PySem.W.Frag} {i : Nat} : ∀ σ H Q, liftF K (rSortDI i) σ H Q → tCB rSortedKeys (tCons (tVar i) tNil) σ H Q := fun σ H Q ⟨c, F, δ, P, S, h, kk⟩ => by
  replace h : keysGo (sg δ i) δ (BoxF.mk : BoxF P) := h
  cases q : sg δ i with
  | no => rw [q] at h; exact h.elim
  | frz _ => rw [q] at h; exact h.elim
  | own io x =>
    rw [q] at h
    cases x with
    | lst _ => exact h.elim
    | dicT _ => exact h.elim
    | dic kvs =>
      obtain ⟨ks, e1, few, hq⟩ := h
      obtain ⟨l, ho, k1, k2, k3, k4, ws, rfl, k5⟩ := S.own (sg_at q (by intro z; cases z))
      refine ⟨_, k1, l, ws, ks, rfl, .inl k4, by rw [pairD_keys k5]; exact e1, few, fun ys p perm asc hp => ?_⟩
      obtain ⟨S1, f1⟩ := S.fresh (o := .lst (ys.map V.int)) hp
      exact kk _ _ (hq ys perm asc) p _ F _ (Same.refl _) S1 f1 upd_same (Reps.of_ints ys)
end Dl

/-! Dl: {text: value, ..}[text], a written dict that is only looked into. -/
namespace Dl
open PySem L2
def lookS (kvs : List (Str × D)) (x : Str) : Option D := (kvs.find? fun kv => decide (kv.1 = x)).map (·.2)
def kPk (f : D → DS → Prop) : Vw → DS → Prop := fun w δ => match w with
  | .val d => f d δ
  | .slot _ => False
def rPk : List (Str × DV) → (List (Str × D) → DS → Prop) → DS → Prop
  | [], Q => fun δ => Q [] δ
  | (x, r) :: l, Q => fun δ => r δ (kPk fun d δ1 => rPk l (fun kvs δ2 => Q ((x, d) :: kvs) δ2) δ1)
def kLook (kvs : List (Str × D)) (Q : Vw → DS → Prop) : Vw → DS → Prop := fun wk δ2 => match wk with
  | .val (.str x) => ∃ d, lookS kvs x = some d ∧ Q (.val d) δ2
  | _ => False
def rDspI (l : List (Str × DV)) (rk : DV) : DV := fun δ Q => (l.map (·.1)).Nodup ∧ l.length ≤ 15 ∧ rPk l (fun kvs δ1 => rk δ1 (kLook kvs Q)) δ
section
variable {l : List (Str × DV)} {rk r : DV} {Q : Vw → DS → Prop} {δ : DS} {x : Str} {d : D} {kvs : List (Str × D)} {QK : List (Str × D) → DS → Prop} {f : D → DS → Prop}
theorem ev_dspI : rDspI l rk δ Q = ((l.map (·.1)).Nodup ∧ l.length ≤ 15 ∧ rPk l (fun kvs δ1 => rk δ1 (kLook kvs Q)) δ) := rfl
theorem ev_pk0 : rPk [] QK δ = QK [] δ := rfl
theorem ev_pk1 : rPk ((x, r) :: l) QK δ = r δ (kPk fun d δ1 => rPk l (fun kvs δ2 => QK ((x, d) :: kvs) δ2) δ1) := rfl
theorem ev_kpk : kPk f (.val d) δ = f d δ := rfl
theorem ev_klook : kLook kvs Q (.val (.str x)) δ = ∃ d, lookS kvs x = some d ∧ Q (.val d) δ := rfl
end
def trsOf (K : PySem.W.Frag) (l : List (Str × DV)) : List (TE × TE) := l.map fun p => (liftV K (rC (.str p.1)), liftV K p.2)
abbrev PairS (K : PySem.W.Frag) (F : Hp) : List (Str × D) → List (Str × V) → Prop := Paired fun p q => p.1 = q.1 ∧ Rep K F p.2 q.2
theorem pairS_mono {K : PySem.W.Frag} {F F' : Hp} (e : Same F F') {kvs : List (Str × D)} {ws : List (Str × V)} (h : PairS K F kvs ws) : PairS K F' kvs ws := by
  induction h with
  | nil => exact .nil
  | cons p _ ih => exact .cons ⟨p.1, Rep.mono e _ _ p.2⟩ ih
theorem pk_sound {K : PySem.W.Frag} : ∀ (l : List (Str × DV)) {c : Ct} {F : Hp} {σ : L2.St} {H : Hp} {δ : DS} {P : List (Str × D) → DS → Prop} {Q : List (V × V) → Hp → Prop}, StOk K c F σ H δ → rPk l P δ →
    (∀ kvs δ', P kvs δ' → kvs.map (·.1) = l.map (·.1) → ∀ ws F' H', Same F F' → StOk K c F' σ H' δ' → PairS K F' kvs ws → Q (ws.map fun kv => (.str kv.1, kv.2)) H') → tPairs (trsOf K l) σ H Q
  | [], c, F, σ, H, δ, P, Q, S, h, k => k [] δ h rfl [] F H (Same.refl _) S .nil
  | (x, r) :: l, c, F, σ, H, δ, P, Q, S, h, k => by
    refine ⟨c, F, δ, fun w δ1 => w = .val (.str x) ∧ δ1 = δ, S, ⟨rfl, rfl⟩, fun w δ1 ⟨ew, eδ⟩ v F1 H1 e1 S1 r1 => ?_⟩
    subst ew eδ
    have ev : v = .str x := by simpa only [VwRel, Rep] using r1
    subst ev
    refine ⟨c, F1, δ1, _, S1, h, fun w2 δ2 h2 v2 F2 H2 e2 S2 r2 => ?_⟩
    cases w2 with
    | slot j => exact h2.elim
    | val d =>
      refine pk_sound l S2 (show rPk l (fun kvs δ2 => P ((x, d) :: kvs) δ2) δ2 from h2) fun kvs δ3 h3 hk ws F3 H3 e3 S3 r3 => ?_
      exact k ((x, d) :: kvs) δ3 h3 (by rw [List.map_cons, List.map_cons, hk]) ((x, v2) :: ws) F3 H3 ((e1.trans e2).trans e3) S3 (.cons ⟨rfl, Rep.mono e3 _ _ r2⟩ r3)
theorem valV_none {ws : List (Key × V)} {k : Key} (h : k ∉ ws.map (·.1)) : valV ws k = none := by
  induction ws with
  | nil => rfl
  | cons p ws ih =>
    rw [List.map_cons, List.mem_cons] at h
    rw [valV_neg fun e => h (.inl e.symm)]
    exact ih fun z => h (.inr z)
theorem merge_val {k : Key} : ∀ (more base : List (Key × V)), (more.map (·.1)).Nodup → valV (mergeK base more) k = (valV more k).or (valV base k)
  | [], base, _ => by
    rw [valV_nil]
    rfl
  | p :: r, base, h => by
    rw [List.map_cons, List.nodup_cons] at h
    show valV (mergeK (putK base p.1 p.2) r) k = _
    rw [merge_val r _ h.2, valV_put]
    by_cases e : p.1 = k
    · rw [valV_pos e, if_pos e.symm, valV_none (by rw [← e]; exact h.1)]
      rfl
    · rw [valV_neg e, if_neg fun z => e z.symm]
theorem pairS_look {K : PySem.W.Frag} {F : Hp} {kvs : List (Str × D)} {ws : List (Str × V)} {x : Str} {d : D} (h : PairS K F kvs ws) (e : lookS kvs x = some d) : ∃ v, valV (ws.map fun kv => (Sum.inr kv.1, kv.2)) (.inr x : Key) = some v ∧ Rep K F d v := by
  induction h with
  | nil => cases e
  | @cons a b as bs p _ ih =>
    by_cases g : a.1 = x
    · refine ⟨b.2, ?_, ?_⟩
      · rw [List.map_cons]
        exact valV_pos (by show (Sum.inr b.1 : Key) = .inr x; rw [← p.1, g])
      · unfold lookS at e
        rw [List.find?_cons, decide_eq_true g] at e
        cases e
        exact p.2
    · have e1 : lookS (a :: as) x = lookS as x := by
        unfold lookS
        rw [List.find?_cons, decide_eq_false g]
      rw [e1] at e
      obtain ⟨v, h1, h2⟩ := ih e
      refine ⟨v, ?_, h2⟩
      rw [List.map_cons, valV_neg fun z => g (by rw [p.1]; exact Sum.inr.inj z)]
      exact h1
theorem dspI_sound {K : PySem.W.Frag} {l : List (Str × DV)} {rk : DV} : ∀ σ H Q, liftV K (rDspI l rk) σ H Q → tDGet (tDisp (trsOf K l)) (liftV K rk) σ H Q := fun σ H Q ⟨c, F, δ, P, S, ⟨nd, few, h⟩, kk⟩ p hp => by
  obtain ⟨S1, f1⟩ := S.fresh (o := .dK []) hp
  have hz := f1.z
  refine pk_sound l (S1.guard f1 upd_same) h fun kvs δ1 h1 hk ws F1 H1 e1 S2 r1 => ?_
  obtain ⟨S3, f3, h3⟩ := S2.unguard hz
  have lw : ws.map (·.1) = kvs.map (·.1) := by
    clear h1 hk
    induction r1 with
    | nil => rfl
    | cons q _ ih => rw [List.map_cons, List.map_cons, ih, q.1]
  have ll : ws.length = l.length := by
    have := congrArg List.length (lw.trans hk)
    simpa using this
  have nw : ((ws.map fun kv => ((Sum.inr kv.1 : Key), kv.2)).map (·.1)).Nodup := by
    rw [List.map_map, show ((fun x : Key × V => x.1) ∘ fun kv : Str × V => ((Sum.inr kv.1 : Key), kv.2)) = Sum.inr ∘ fun kv : Str × V => kv.1 from rfl, ← List.map_map, lw, hk]
    exact List.Pairwise.map _ (fun a b z q => z (Sum.inr.inj q)) nd
  refine ⟨h3, ws.map fun kv => ((Sum.inr kv.1 : Key), kv.2), by rw [List.map_map]; rfl, by rw [List.length_map, ll]; exact few, ?_⟩
  have S4 := S3.updFree (o := .dK (mergeK [] (ws.map fun kv => ((Sum.inr kv.1 : Key), kv.2)))) f3 h3
  have f4 : Free c F1 σ δ1 p := f3
  refine ⟨c.with p _, F1, δ1, _, S4.guard f4 upd_same, h1, fun wk δ2 h2 y F2 H2 e2 S5 r2 => ?_⟩
  obtain ⟨S6, f6, h6⟩ := S5.unguard hz
  cases wk with
  | slot j => exact h2.elim
  | val dk =>
    cases dk with
    | str x =>
      have ey : y = .str x := by simpa only [VwRel, Rep] using r2
      subst ey
      obtain ⟨d, look, hq⟩ := h2
      obtain ⟨v, g1, g2⟩ := pairS_look r1 look
      refine ⟨p, v, rfl, ?_, kk _ _ hq v F2 H2 (e1.trans e2) S6 (Rep.mono e2 _ _ g2)⟩
      have := DGet.k (k := .inr x) h6
      rw [merge_val _ _ nw, g1] at this
      exact this
    | _ => exact h2.elim
end Dl

/-! Dl: x.remove(k), x a list of ints of one's own that holds k. -/
namespace Dl
open PySem L2
def remIn (o : Option (List Int)) (i : Nat) (io : Bool) (k : Int) (δ : DS) {E : DE} (_ : BoxDE E) : Prop := match o with
  | some ns => k ∈ ns ∧ E.nx (ss δ i (.own io (.lst ((ns.erase k).map D.int))))
  | none => False
def remGo (s : Sl) (i : Nat) (k : Int) (δ : DS) {E : DE} (_ : BoxDE E) : Prop := match s with
  | .own io (.lst ds) => remIn (intsD ds) i io k δ (BoxDE.mk : BoxDE E)
  | _ => False
def kRem (i : Nat) (E : DE) : Vw → DS → Prop := fun w δ => match w with
  | .val (.int k) => remGo (sg δ i) i k δ (BoxDE.mk : BoxDE E)
  | _ => False
def isLstS : Sl → Prop
  | .own _ (.lst _) => True
  | _ => False
def sRem (i : Nat) (r : DV) : DSt := fun E δ => isLstS (sg δ i) ∧ r δ (kRem i E)
section
variable {i : Nat} {r : DV} {E : DE} {δ : DS} {k : Int} {io : Bool} {ds : List D} {ns : List Int}
theorem ev_rem : sRem i r E δ = (isLstS (sg δ i) ∧ r δ (kRem i E)) := rfl
theorem ev_isLst : isLstS (.own io (.lst ds)) = True := rfl
theorem ev_krem : kRem i E (.val (.int k)) δ = remGo (sg δ i) i k δ (BoxDE.mk : BoxDE E) := rfl
theorem ev_remGo {z : BoxDE E} : remGo (.own io (.lst ds)) i k δ z = remIn (intsD ds) i io k δ (BoxDE.mk : BoxDE E) := rfl
theorem ev_remIn {z : BoxDE E} : remIn (some ns) i io k δ z = (k ∈ ns ∧ E.nx (ss δ i (.own io (.lst ((ns.erase k).map D.int))))) := rfl
end
theorem rem_sound {K : PySem.W.Frag} {W : WX} {i : Nat} {r : DV} : ∀ D σ H, liftS K (sRem i r) D σ H → tDrop (tRemX K W (tVar i) (liftV K r)) D σ H := fun D σ H ⟨c, F, δ, E, S, ⟨hd, h⟩, L⟩ => by
  cases q0 : sg δ i with
  | no => rw [q0] at hd; exact hd.elim
  | frz _ => rw [q0] at hd; exact hd.elim
  | own io0 x0 =>
    rw [q0] at hd
    cases x0 with
    | dic _ => exact hd.elim
    | dicT _ => exact hd.elim
    | lst ds0 =>
      obtain ⟨l, ho, k1, k2, k3, k4, us0, rfl, k5⟩ := S.own (sg_at q0 (by intro z; cases z))
      refine ⟨_, k1, Or.inl ⟨rfl, us0, SqL.of k4⟩, c, F, δ, _, S, h, fun w δ1 h1 y F1 H1 e1 S1 r1 => ?_⟩
      cases w with
      | slot j => exact h1.elim
      | val d =>
        cases d with
        | int k =>
          have ey : y = .int k := by simpa only [VwRel, Rep] using r1
          subst ey
          replace h1 : remGo (sg δ1 i) i k δ1 (BoxDE.mk : BoxDE E) := h1
          cases q1 : sg δ1 i with
          | no => rw [q1] at h1; exact h1.elim
          | frz _ => rw [q1] at h1; exact h1.elim
          | own io1 x1 =>
            rw [q1] at h1
            cases x1 with
            | dic _ => exact h1.elim
            | dicT _ => exact h1.elim
            | lst ds =>
              have at1 := sg_at q1 (by intro z; cases z)
              obtain ⟨l1, ho1, m1, m2, m3, m4, us, rfl, m5⟩ := S1.own at1
              rw [k1] at m1
              cases m1
              replace h1 : remIn (intsD ds) i io1 k δ1 (BoxDE.mk : BoxDE E) := h1
              cases q2 : intsD ds with
              | none => rw [q2] at h1; exact h1.elim
              | some ns =>
                rw [q2] at h1
                obtain ⟨hk, h1⟩ := h1
                have ed := intsD_eq q2
                subst ed
                have eu := m5.ints
                subst eu
                rw [ss_eq] at h1
                exact ⟨l, ns, k, rfl, rfl, m4, fun _ => L.nx _ h1 σ F1 _ e1 (S1.put at1 k1 ⟨_, rfl, Reps.of_ints _⟩), fun z => absurd hk z⟩
        | _ => exact h1.elim
theorem takes_no {X : Cx} : Takes X (fun _ _ _ _ => False) := fun _ _ ⟨_, _, _, _, _, _, _, _, _, _, _, _, _, _, _, _, w⟩ => w.elim
end Dl

/-! Dl: equality of data with texts. -/
namespace Dl
open PySem L2
/-- data of ints, texts, tuples and lists of a depth -/
def Pt : Nat → D → Prop
  | _, .non => True
  | _, .bl _ => True
  | _, .int _ => True
  | _, .str x => PyData.strOk x = true
  | n + 1, .tup ds => ∀ d ∈ ds, Pt n d
  | n + 1, .lst ds => ∀ d ∈ ds, Pt n d
  | _, _ => False
theorem pt_go {n : Nat} (ih : ∀ d, Pt n d → (toPy d).canLay0 = true ∧ (toPy d).depth ≤ n) : ∀ ds : List D, (∀ d ∈ ds, Pt n d) → PyData.canLayAll0 (toPys ds) = true ∧ PyData.depthAll (toPys ds) ≤ n
  | [], _ => by simp [toPys, PyData.canLayAll0, PyData.depthAll]
  | d :: ds, h => by
    obtain ⟨i1, i2⟩ := pt_go ih ds fun x hx => h x (List.mem_cons_of_mem _ hx)
    obtain ⟨j1, j2⟩ := ih d (h d List.mem_cons_self)
    simp only [toPys, PyData.canLayAll0, PyData.depthAll, i1, j1, Bool.and_self, true_and]
    omega
theorem pt_canLay : ∀ (n : Nat) (d : D), Pt n d → (toPy d).canLay0 = true ∧ (toPy d).depth ≤ n
  | n, .non, _ => by cases n <;> simp [toPy, PyData.canLay0, PyData.depth]
  | n, .bl _, _ => by cases n <;> simp [toPy, PyData.canLay0, PyData.depth]
  | n, .int _, _ => by cases n <;> simp [toPy, PyData.canLay0, PyData.depth]
  | n, .str x, h => by
    have h2 : PyData.strOk x = true := by cases n <;> exact h
    simp [toPy, PyData.canLay0, PyData.depth, h2]
  | 0, .rol _, h => h.elim
  | n + 1, .rol _, h => h.elim
  | 0, .tup _, h => h.elim
  | 0, .lst _, h => h.elim
  | n + 1, .tup ds, h => by
    obtain ⟨i1, i2⟩ := pt_go (pt_canLay n) ds h
    simp only [toPy, PyData.canLay0, PyData.depth, i1, true_and]
    omega
  | n + 1, .lst ds, h => by
    obtain ⟨i1, i2⟩ := pt_go (pt_canLay n) ds h
    simp only [toPy, PyData.canLay0, PyData.depth, i1, true_and]
    omega
theorem pt_sh {n : Nat} {d : D} (h : Pt n d) (hn : n ≤ 64) : shP d = true := by
  obtain ⟨h1, h2⟩ := pt_canLay n d h
  unfold shP SeqAt.shaped
  rw [h1, Bool.true_and, decide_eq_true_eq]
  omega
theorem strOk_ofL {l : List Nat} (h : ∀ c ∈ l, c < 1114112) : PyData.strOk (ofL l) = true := by
  unfold PyData.strOk
  rw [Array.all_eq_true']
  intro c hc
  exact decide_eq_true (h c (by simpa [ofL] using hc))
theorem strOk_fs {l : List Nat} (h : Fs l) : PyData.strOk (ofL l) = true := strOk_ofL fun c hc => by
  rcases h c hc with rfl | rfl | rfl <;> decide
theorem eqP_lnil (ds : List D) : eqP (.lst ds) (.lst []) = ds.isEmpty := by
  cases ds with
  | nil => rfl
  | cons d ds =>
    unfold eqP
    simp only [toPy, toPys, PyData.eqv, PyData.eqvAll, List.isEmpty_cons]
theorem eqP_tnil (ds : List D) : eqP (.tup ds) (.tup []) = ds.isEmpty := by
  cases ds with
  | nil => rfl
  | cons d ds =>
    unfold eqP
    simp only [toPy, toPys, PyData.eqv, PyData.eqvAll, List.isEmpty_cons]
end Dl

/-! Dl: zip(text, text). -/
namespace Dl
open PySem L2 PySem.Spec PyProof.Rows
/-- two texts' signs, each two in a new pair -/
def ItZT (x y : Str) : It :=
  ⟨fun i _ => ∃ (c d : Nat), x.cps[i]? = some c ∧ y.cps[i]? = some d,
   fun i H v H' => ∃ T c d, v = .ref T ∧ H T = none ∧ H' = upd H T (.tup [.str ⟨#[c]⟩, .str ⟨#[d]⟩]) ∧ x.cps[i]? = some c ∧ y.cps[i]? = some d,
   fun i _ => x.cps.size ≤ i ∨ y.cps.size ≤ i⟩
theorem turn_zipT {P : Program} {w : World} {K : PySem.W.Frag} {elts : List Expr} {kk : Nat} {tpos : Pos} {z TI TO i1 i2 : Addr} {x y : Str} {t t2 : Tok} (D : ZipSep2 z TI TO i1 i2 [i1] [i2]) :
    Turn P w K (.Tuple elts kk tpos) (ItZT x y) [z, TI, TO, i1, i2] z (fun i h => IsZip h z TI TO .none ∧ IsTupOf2 h TI (.ref i1) (.ref i2) ∧ (∃ u v, IsTupOf2 h TO u v) ∧ (h.IsStrIter i1 (strIterType x) x t i ∨ (x.cps.size < i ∧ False)) ∧ h.IsStrIter i2 (strIterType y) y t2 i ∧ i ≤ x.cps.size ∧ i ≤ y.cps.size) where
  mem := List.mem_cons_self
  obj := fun i h q b hb => by
    obtain ⟨h1, h2, ⟨u, v, h3⟩, h4, ⟨o5, e5, _, d5⟩, _⟩ := q
    obtain ⟨o4, e4, _, d4⟩ := h4.resolve_right fun z => z.2
    simp only [List.mem_cons, List.not_mem_nil, or_false] at hb
    rcases hb with rfl | rfl | rfl | rfl | rfl
    · exact ⟨_, h1, nofun⟩
    · exact ⟨_, h2, nofun⟩
    · exact ⟨_, h3, nofun⟩
    · exact ⟨_, e4, fun v z => by rw [d4] at z; cases z⟩
    · exact ⟨_, e5, fun v z => by rw [d5] at z; cases z⟩
  keep := fun i h h' q k => by
    obtain ⟨h1, h2, ⟨u, v, h3⟩, h4, ⟨o5, e5, r5⟩, h6⟩ := q
    obtain ⟨o4, e4, r4⟩ := h4.resolve_right fun z => z.2
    exact ⟨k z (by simp) _ h1, k TI (by simp) _ h2, ⟨u, v, k TO (by simp) _ h3⟩, .inl ⟨o4, k i1 (by simp) o4 e4, r4⟩, ⟨o5, k i2 (by simp) o5 e5, r5⟩, h6⟩
  item := by
    rintro X rfl rfl rfl hc i pins s σ H E I hf ⟨hz, hTI, ⟨u0, v0, hTO⟩, h1, h2, h3, h4⟩ ⟨c, d, hx, hy⟩
    replace h1 := h1.resolve_right fun z => z.2
    have hzl : z < s.heap.objs.size := Heap.lt_size hz
    have hi1 : i < x.cps.size := by
      rcases Nat.lt_or_ge i x.cps.size with g | g
      · exact g
      · rw [Array.getElem?_eq_none g] at hx
        cases hx
    have hi2 : i < y.cps.size := by
      rcases Nat.lt_or_ge i y.cps.size with g | g
      · exact g
      · rw [Array.getElem?_eq_none g] at hy
        cases hy
    refine wpAny_pyNext_zipD2_item D (Draws.text (A := X.A.in1) (I.ok.hd hc) i1 x t) (Draws.text (A := X.A.in1) (I.ok.hd hc) i2 y t2) hz hTI hTO h1 h2 hi1 hi2 fun x1 x2 h' tk g1 g2 z' TO' st1 st2 hT hsz hk => ?_
    obtain ⟨c1, t3, hc1, rfl⟩ := g1
    rw [hx] at hc1
    obtain rfl := Option.some.inj hc1
    obtain ⟨c2, t4, hc2, rfl⟩ := g2
    rw [hy] at hc2
    obtain rfl := Option.some.inj hc2
    refine ⟨_, rfl, wpAny_letOwnedTupleGo_zip (s := { s with heap := h', toks := tk }) z' fun h2' z2 sb => ?_⟩
    have hT2 : h2'.get? s.heap.objs.size = some { cls := .type "tuple", data := .seq #[.str ⟨#[c]⟩ t3, .str ⟨#[d]⟩ t4] } := (sb.2 _ (Nat.ne_of_gt hzl)).trans hT
    have new : ObjOk X.prog X.w (upd H s.heap.objs.size (.tup [.str ⟨#[c]⟩, .str ⟨#[d]⟩])) h2' s.heap.objs.size (.tup [.str ⟨#[c]⟩, .str ⟨#[d]⟩]) :=
      ⟨(show 2 ≤ sizeLine by decide), [.str ⟨#[c]⟩ t3, .str ⟨#[d]⟩ t4], .cons ⟨_, rfl⟩ (.cons ⟨_, rfl⟩ .nil), ⟨_, hT2, rfl, _, rfl⟩⟩
    have ch : ∀ b ob, b ∉ [z, TI, TO, i1, i2] → s.heap.get? b = some ob → h2'.get? b = some ob := fun b ob hb q => (sb.2 b fun q' => hb (by simp [q'])).trans (hk b ob (fun q' => hb (by simp [q'])) (fun q' => hb (by simp [q'])) (fun q' => hb (by simp [q'])) (fun q' => hb (by simp [q'])) q)
    have I1 : Inv X pins σ (upd H s.heap.objs.size (.tup [.str ⟨#[c]⟩, .str ⟨#[d]⟩])) { s with heap := h2', toks := tk } := I.turnedNew ch hf (Nat.le_refl _) new
    refine ⟨.ref s.heap.objs.size, _, I1, rfl, ⟨_, c, d, rfl, I.hok.fresh (Nat.le_refl _), rfl, hx, hy⟩, ⟨z2, ?_, ⟨_, _, (sb.2 _ D.TOz).trans TO'⟩, .inl ?_, ?_, hi1, hi2⟩, fun b hb => ?_⟩
    · exact (sb.2 _ D.TIz).trans (hk _ _ D.TIz D.TITO D.TIi1 D.TIi2 hTI)
    · obtain ⟨o5, e5, r5⟩ := st1
      exact ⟨o5, (sb.2 _ (Ne.symm D.zi1)).trans e5, r5⟩
    · obtain ⟨o5, e5, r5⟩ := st2
      exact ⟨o5, (sb.2 _ (Ne.symm D.zi2)).trans e5, r5⟩
    · have hlt : b < s.heap.objs.size := by
        simp only [List.mem_cons, List.not_mem_nil, or_false] at hb
        rcases hb with rfl | rfl | rfl | rfl | rfl
        · exact hzl
        · exact Heap.lt_size hTI
        · exact Heap.lt_size hTO
        · obtain ⟨_, e1, _⟩ := h1
          exact Heap.lt_size e1
        · obtain ⟨_, e1, _⟩ := h2
          exact Heap.lt_size e1
      rw [upd_ne (Nat.ne_of_lt hlt)]
      exact (hf b hb).1
  done := by
    rintro X rfl rfl rfl hc i pins s σ H E I hf ⟨hz, hTI, ⟨u0, v0, hTO⟩, h1, h2, h3, h4⟩ hend
    replace h1 := h1.resolve_right fun z => z.2
    replace hend : x.cps.size ≤ i ∨ y.cps.size ≤ i := hend
    have fin : ∀ h' tk, (∀ b ob, b ≠ z → b ≠ TO → b ≠ i1 → b ≠ i2 → s.heap.get? b = some ob → h'.get? b = some ob) → (none : Option Value) = none ∧ Inv X pins σ H { s with heap := h', toks := tk } := fun h' tk hk =>
      ⟨rfl, I.turnedL (ch := [z, TI, TO, i1, i2]) (fun b ob hb q => hk b ob (fun q' => hb (by simp [q'])) (fun q' => hb (by simp [q'])) (fun q' => hb (by simp [q'])) (fun q' => hb (by simp [q'])) q) hf⟩
    exact wpAny_pyNext_zipD2_end D (Draws.text (A := X.A.in1) (I.ok.hd hc) i1 x t) (Draws.text (A := X.A.in1) (I.ok.hd hc) i2 y t2) hz hTI hTO h1 h2 h3 h4 (by omega) fin
  self := fun A i s Q E q h => wpAny_pyIter_zip q.1 h
theorem sep_newT (n : Nat) : ZipSep2 (n + 4) (n + 2) (n + 3) n (n + 1) [n] [n + 1] where
  TIz := adr_ne (by omega)
  TOz := adr_ne (by omega)
  TITO := adr_ne (by omega)
  TIi1 := adr_ne (by omega)
  mem1 := List.mem_cons_self
  zf1 := adr_one (by omega)
  Tf1 := adr_one (by omega)
  TIi2 := adr_ne (by omega)
  mem2 := List.mem_cons_self
  zf2 := adr_one (by omega)
  Tf2 := adr_one (by omega)
  sep1_2 := adr_one (by omega)
  sep2_1 := adr_one (by omega)
def iZipT (ta : TA) : TI := fun σ H R => ta σ H fun vs H1 => ∃ x y, vs = [.str x, .str y] ∧ R (ItZT x y) H1
theorem pi_zipT {X : Cx} {e e2 : Expr} {ta : TA} {p pos tpos : Pos} {elts : List Expr} {kk : Nat} (hg : Gl X "zip") (hm : X.mg "zip" = none) (ha : PA X [e, e2] ta)
    (hs : starEach [e, e2] X.env = (false, eval e X.env) :: starEach [e2] X.env := by rfl) (hpl : (backTo pos (starEach [e2] X.env)).any (·.1) = false := by rfl) :
    PI X (.Tuple elts kk tpos) (.Call (.Name "zip" p) [e, e2] [] pos) (iZipT ta) := ⟨fun pins s σ H R I hyp => by
  refine Call_ (ld_blt I hg hm PyProof.Rows.boot_zip (PyProof.Rows.callWith_type1 (thn (ha.run pos pins s σ H _ I hyp) fun us s1 res => ?_) hs hpl))
  obtain ⟨vs, H1, I1, r1, x, y, rfl, go⟩ := res
  obtain ⟨u, u', rfl, ⟨t, rfl⟩, ⟨t2, rfl⟩⟩ := vals2 r1
  refine zip_begins2 (begins_text x t) (begins_text y t2) trivial trivial fun h' hz hTI hTO g1 g2 hsz hk => wpAny_pyIter_zip hz ?_
  refine ⟨s1.heap.objs.size + 4, [s1.heap.objs.size + 4, s1.heap.objs.size + 2, s1.heap.objs.size + 3, s1.heap.objs.size, s1.heap.objs.size + 1], _, _, H1, rfl, I1.kept (t' := s1.toks) hk, turn_zipT (t := t) (t2 := t2) (sep_newT _), ⟨hz, hTI, ⟨_, _, hTO⟩, .inl ⟨_, g1, rfl, rfl⟩, ⟨_, g2, rfl, rfl⟩, Nat.zero_le _, Nat.zero_le _⟩, fun b hb => ?_, go⟩
  have hle : s1.heap.objs.size ≤ b := new_le hb
  exact I1.fpOk hle (I1.hok.fresh hle)⟩
def zipTD (cs ds : List Nat) : List D := List.zipWith (fun c d => .tup [.str ⟨#[c]⟩, .str ⟨#[d]⟩]) cs ds
theorem src_zipT {K : PySem.W.Frag} {c : Ct} {x y : Str} {F0 : Hp} : SrcOk K c (ItZT x y) F0 (zipTD x.cps.toList y.cps.toList) := by
  have ln : (zipTD x.cps.toList y.cps.toList).length = min x.cps.toList.length y.cps.toList.length := List.length_zipWith
  have sx : x.cps.size = x.cps.toList.length := rfl
  have sy : y.cps.size = y.cps.toList.length := rfl
  refine ⟨fun F σ H δ e S => ?_, fun i F σ H δ hi e S => ?_, fun i d F σ H δ y0 H' hi e S y => ?_⟩
  · show x.cps.size ≤ _ ∨ y.cps.size ≤ _
    rw [ln]
    omega
  · rw [ln] at hi
    exact ⟨_, _, Array.getElem?_eq_getElem (by omega), Array.getElem?_eq_getElem (by omega)⟩
  · obtain ⟨T, c0, d0, rfl, hT, rfl, hc0, hd0⟩ := y
    have ed : d = .tup [.str ⟨#[c0]⟩, .str ⟨#[d0]⟩] := by
      unfold zipTD at hi
      rw [List.getElem?_zipWith, Array.getElem?_toList, Array.getElem?_toList, hc0, hd0] at hi
      exact (Option.some.inj hi).symm
    subst ed
    obtain ⟨sF, S2⟩ := S.alloc (o := .tup [.str ⟨#[c0]⟩, .str ⟨#[d0]⟩]) hT
    refine ⟨_, sF, S2, ?_, fun p o f hp => ?_⟩
    · simp only [Rep]
      refine ⟨T, _, rfl, SqT.of upd_same, ?_⟩
      simp only [Reps]
      exact ⟨_, _, rfl, by simp only [Rep], _, _, rfl, by simp only [Rep], rfl⟩
    · have ne : p ≠ T := fun z => by
        rw [z, hT] at hp
        cases hp
      refine ⟨⟨?_, f.z, f.o⟩, ?_⟩
      · rw [upd_ne ne]
        exact f.f
      · rw [upd_ne ne]
        exact hp
def kZipT (Q : List D → DS → Prop) : List Vw → DS → Prop := fun ws δ1 => match ws with
  | [.val (.str x), .val (.str y)] => Q (zipTD x.cps.toList y.cps.toList) δ1
  | _ => False
def iZipTD (r : DA) : DI := fun δ Q => r δ (kZipT Q)
theorem i_zipT {X : Cx} {e e2 : Expr} {rs : DA} {p pos tpos : Pos} {elts : List Expr} {kk : Nat} (hg : Gl X "zip") (hm : X.mg "zip" = none) (ha : PA X [e, e2] (liftA X.K rs))
    (hs : starEach [e, e2] X.env = (false, eval e X.env) :: starEach [e2] X.env := by rfl) (hpl : (backTo pos (starEach [e2] X.env)).any (·.1) = false := by rfl) :
    PI X (.Tuple elts kk tpos) (.Call (.Name "zip" p) [e, e2] [] pos) (liftI X.K (iZipTD rs)) := pi_wk (pi_zipT hg hm ha hs hpl) fun σ H R ⟨c, F, δ, P, S, h, k⟩ => ⟨c, F, δ, _, S, h, fun ws δ1 h1 vs F1 H1 e1 S1 r1 => by
  match ws, h1, r1 with
  | [.val (.str x), .val (.str y)], h1, r1 =>
    obtain ⟨v, us, rfl, g1, v2, us2, rfl, g2, g3⟩ := r1
    have e2 : us2 = [] := g3
    subst e2
    have r : Rep X.K F1 (.str x) v := g1
    have r2 : Rep X.K F1 (.str y) v2 := g2
    simp only [Rep] at r r2
    subst r r2
    exact ⟨x, y, rfl, k _ _ h1 _ F1 H1 e1 S1 src_zipT⟩⟩
theorem ev_zipT {r : DA} {δ : DS} {Q : List D → DS → Prop} : iZipTD r δ Q = r δ (kZipT Q) := rfl
theorem ev_kzipT {a b : List Nat} {δ : DS} {Q : List D → DS → Prop} : kZipT Q [.val (.str (ofL a)), .val (.str (ofL b))] δ = Q (zipTD a b) δ := rfl
theorem zipTD_eq (a b : List Nat) : zipTD a b = (a.zip b).map fun p => .tup [.str (sgS p.1), .str (sgS p.2)] := by
  unfold zipTD
  rw [List.zip_eq_zipWith, List.map_zipWith]
  rfl
/-! a statement that is not reached -/
def sDead : DSt := fun _ _ => False
theorem ev_dead {E : DE} {δ : DS} : sDead E δ = False := rfl
theorem s_dead {X : Cx} {st : Stmt} : PS X st (liftS X.K sDead) := ⟨fun pins s σ H D I h => by
  obtain ⟨_, _, _, _, _, h, _⟩ := h
  exact h.elim⟩
end Dl

/-! Dl: packings. -/
namespace Dl
open PySem L2
/-- a member of a packing -/
abbrev Pk := List Nat × Option Int
def pkD (p : Pk) : D := .tup [.str (ofL p.1), cD p.2]
def pkOk (m : Nat) (p : Pk) : Prop := Fs p.1 ∧ p.1.length = m
def totP (ps : List Pk) : Option Int := (ps.map (·.2)).foldl plusO (some 0)
def restP (p : Pk) (ps : List Pk) (w : Option Int) : List Pk := match p.2, w with
  | none, _ => p :: ps
  | some x, some y => if x = y then ps else (p.1, some (x - y)) :: ps
  | some x, none => p :: ps
def smW (a b : Option Int) : Option Int := if lsO b a then b else a
def cmbL (a b : List Nat) : List Nat := (a.zip b).map fun p => if p.1 = 63 then p.2 else p.1
def mrgF : Nat → List Pk → List Pk → List Pk
  | n + 1, p :: L, q :: R => (cmbL p.1 q.1, smW p.2 q.2) :: (if smW p.2 q.2 = none then [] else mrgF n (restP p L (smW p.2 q.2)) (restP q R (smW p.2 q.2)))
  | _, _, _ => []
def mrg (L R : List Pk) : List Pk := mrgF (L.length + R.length) L R
def nzP (L : List Pk) : List Pk := L.filter fun p => !decide (p.2 = some 0)
theorem plusO_S80 (a b : Option Int) : plusO a b = pluS a b := by rcases a with _ | a <;> rcases b with _ | b <;> rfl
theorem mrgF_nil {n : Nat} {R : List Pk} : mrgF n [] R = [] := by cases n <;> rfl
theorem mrgF_nil2 {n : Nat} {L : List Pk} : mrgF n L [] = [] := by cases n <;> cases L <;> rfl
theorem rest_len {p : Pk} {L : List Pk} {w : Option Int} : (restP p L w).length ≤ L.length + 1 := by
  unfold restP
  split
  · exact Nat.le_refl _
  · split
    · omega
    · exact Nat.le_refl _
  · exact Nat.le_refl _
theorem rest_two {p q : Pk} {L R : List Pk} (h : smW p.2 q.2 ≠ none) : (restP p L (smW p.2 q.2)).length + (restP q R (smW p.2 q.2)).length ≤ L.length + R.length + 1 := by
  have h1 := rest_len (p := p) (L := L) (w := smW p.2 q.2)
  have h2 := rest_len (p := q) (L := R) (w := smW p.2 q.2)
  obtain ⟨p1, p2⟩ := p
  obtain ⟨q1, q2⟩ := q
  rcases p2 with _ | x
  · rcases q2 with _ | y
    · exact absurd rfl h
    · have e : smW none (some y) = some y := rfl
      dsimp only at h1 h2 ⊢
      rw [e] at h1 h2 ⊢
      have : restP (q1, some y) R (some y) = R := if_pos rfl
      rw [this]
      omega
  · rcases q2 with _ | y
    · have e : smW (some x) none = some x := rfl
      dsimp only at h1 h2 ⊢
      rw [e] at h1 h2 ⊢
      have : restP (p1, some x) L (some x) = L := if_pos rfl
      rw [this]
      omega
    · dsimp only at h1 h2 ⊢
      by_cases g : y < x
      · have e : smW (some x) (some y) = some y := if_pos (decide_eq_true g)
        rw [e] at h1 h2 ⊢
        have : restP (q1, some y) R (some y) = R := if_pos rfl
        rw [this]
        omega
      · have e : smW (some x) (some y) = some x := if_neg (fun z => g (of_decide_eq_true z))
        rw [e] at h1 h2 ⊢
        have : restP (p1, some x) L (some x) = L := if_pos rfl
        rw [this]
        omega
theorem mrgF_more : ∀ {n m : Nat} {L R : List Pk}, L.length + R.length ≤ n → L.length + R.length ≤ m → mrgF n L R = mrgF m L R
  | _, _, [], R, _, _ => by rw [mrgF_nil, mrgF_nil]
  | _, _, _ :: _, [], _, _ => by rw [mrgF_nil2, mrgF_nil2]
  | n + 1, m + 1, p :: L, q :: R, h1, h2 => by
    rw [mrgF, mrgF]
    by_cases g : smW p.2 q.2 = none
    · rw [if_pos g, if_pos g]
    · rw [if_neg g, if_neg g]
      rw [List.length_cons, List.length_cons] at h1 h2
      have := rest_two (L := L) (R := R) g
      rw [mrgF_more (n := n) (m := m) (by omega) (by omega)]
  | 0, _, _ :: _, _ :: _, h, _ => by simp at h
  | _ + 1, 0, _ :: _, _ :: _, _, h => by simp at h
theorem mrg_nil {R : List Pk} : mrg [] R = [] := mrgF_nil
theorem mrg_nil2 {L : List Pk} : mrg L [] = [] := mrgF_nil2
theorem mrg_cons {p q : Pk} {L R : List Pk} : mrg (p :: L) (q :: R) = (cmbL p.1 q.1, smW p.2 q.2) :: (if smW p.2 q.2 = none then [] else mrg (restP p L (smW p.2 q.2)) (restP q R (smW p.2 q.2))) := by
  unfold mrg
  rw [List.length_cons, List.length_cons, show L.length + 1 + (R.length + 1) = (L.length + R.length + 1) + 1 by omega, mrgF]
  by_cases g : smW p.2 q.2 = none
  · rw [if_pos g, if_pos g]
  · rw [if_neg g, if_neg g, mrgF_more (rest_two g) (Nat.le_refl _)]
/-- weights above 0 -/
def posW (o : Option Int) : Prop := ∀ x, o = some x → 0 < x
theorem sm_pos {a b : Option Int} (ha : posW a) (hb : posW b) : posW (smW a b) := by
  unfold smW
  split
  · exact hb
  · exact ha
/-- what is left has weights above 0 -/
theorem rest_pos {p : Pk} {L : List Pk} {w : Option Int} (h : ∀ x ∈ p :: L, posW x.2) (hw : lsO p.2 w = false) : ∀ x ∈ restP p L w, posW x.2 := by
  obtain ⟨p1, p2⟩ := p
  unfold restP
  rcases p2 with _ | x
  · exact h
  · rcases w with _ | y
    · exact h
    · dsimp only
      by_cases g : x = y
      · rw [if_pos g]
        exact fun z hz => h z (List.mem_cons_of_mem _ hz)
      · rw [if_neg g]
        intro z hz
        rcases List.mem_cons.mp hz with rfl | hz
        · intro v hv
          cases hv
          have : ¬ x < y := of_decide_eq_false hw
          omega
        · exact h z (List.mem_cons_of_mem _ hz)
theorem sm_le {a b : Option Int} : lsO a (smW a b) = false ∧ lsO b (smW a b) = false := by
  rcases a with _ | x
  · rcases b with _ | y
    · exact ⟨rfl, rfl⟩
    · exact ⟨rfl, by show lsO (some y) (some y) = false; exact decide_eq_false (by omega)⟩
  · rcases b with _ | y
    · exact ⟨by show lsO (some x) (some x) = false; exact decide_eq_false (by omega), rfl⟩
    · unfold smW
      by_cases g : lsO (some y) (some x) = true
      · rw [if_pos g]
        have : y < x := of_decide_eq_true g
        exact ⟨decide_eq_false (by omega), decide_eq_false (by omega)⟩
      · rw [if_neg g]
        have : ¬ y < x := fun z => g (decide_eq_true z)
        exact ⟨decide_eq_false (by omega), decide_eq_false (by omega)⟩
end Dl

namespace Dl
open PySem L2
local macro_rules | `(tactic| walk_at "ev") => `(tactic| try simp -implicitDefEqProofs only [↓ev_m1, ↓ev_km1, ↓ev_km1b, ↓ev_join, ↓ev_joinT, ev_elimJ, ↓ev_count, ↓ev_sindex, ev_elimX, ↓ev_b1, ↓ev_kb1, ev_selB1, ↓ev_kb1b, ↓ev_lcount, ev_elimCnt, ↓ev_lindex, ev_elimIx, ↓ev_strI, ↓ev_isB, ↓ev_isBN, ↓ev_isnB, ↓ev_minL, ↓ev_maxL, ev_elimMn, ev_elimMx, strsD_map, ↓ev_minD, ev_elimMnD, ↓ev_lcountF, strsD_sgn, ↓ev_list2S, ↓ev_list2L, ↓ev_list2R, ↓ev_list2T, ↓ev_sortP, ↓ev_starA, ↓ev_kstA, ev_selStarT, ev_selStarL, ↓ev_kstar, valsOf_star, valsOf_star1, Option.map_some, cut_t1, cut_t2, cut_t3, cut_t4, cut_t5, cut_t6, cut_t7, cut_t8, cut_d2, cut_d3, cut_d4, emp_last, List.map_nil, ofStr_eq, String.reduceEq, ↓ev_kbody, ↓ev_lnx, ↓ev_lct, ↓ev_lbk, ↓ev_lrt, ↓ev_repS, ↓ev_repT, ↓ev_minOl, ↓ev_minOr, ↓ev_minOt, ↓ev_sortOl, ↓ev_sortOr, ↓ev_inDl, ev_inDr, ↓ev_par, ev_kpar, ↓ev_compO, ev_selOwn, ↓ev_sortS, ev_ksetS, ↓ev_zipL, ev_kzipL, ↓ev_zipT, ev_kzipT, ev_dead, ↓ev_dic, ev_isDic, ↓ev_dput, ev_kdp1, ev_kdp2, ev_putGo, ↓ev_dix, ev_kdi, ↓ev_dget, ev_kdg1, ev_kdg2, ev_getGo, ↓ev_sortDI, ev_keysGo, ↓ev_dspI, ev_pk0, ↓ev_pk1, ev_kpk, ev_klook, ↓ev_rem, ev_isLst, ev_krem, ev_remGo, ev_remIn, ev_ord, ↓ev_sortLam, ↓ev_lstRg, ↓ev_klstRg, ↓ev_augI, ↓ev_kaug1, ↓ev_augGo, ↓ev_kaug2, ↓ev_kaug3, ↓ev_kaugPut, ↓ev_popI, ↓ev_kpop, ↓ev_popGo, ↓ev_kpopD, ↓ev_seq, ↓ev_nx, ↓ev_rt, ↓ev_bk, ↓ev_ct, ↓ev_next, ↓ev_break, ↓ev_cont, ↓ev_never, ↓ev_retN, ↓ev_drop, ↓ev_kdrop, ↓ev_ret, ↓ev_kret, ↓ev_retF, ↓ev_kretF, ↓ev_retM, ↓ev_selM, ↓ev_if, ↓ev_kif, ↓ev_asg, ↓ev_kasg, ↓ev_asgF, ↓ev_kasgF, ↓ev_app, ↓ev_kapp, ↓ev_set, ↓ev_kset1, ↓ev_kset2, ↓ev_aug, ↓ev_kaug, ↓ev_kaugD, ↓ev_tgt, ↓ev_ktgt, ↓ev_for, ↓ev_kfor, ↓ev_while, ↓ev_dname, ↓ev_dtup, ↓ev_dcons, ↓ev_kdc, ↓ev_dnil, ↓ev_name, ↓ev_c, ↓ev_val, ↓ev_kval, ↓ev_kvalS, ↓ev_fz, ↓ev_kfz, ↓ev_kD, ↓ev_kL, ↓ev_op, ↓ev_kop1, ↓ev_kop2, ↓ev_opF, ↓ev_kopF1, ↓ev_kopF2, ↓ev_un, ↓ev_kun, ↓ev_nilA, ↓ev_consA, ↓ev_kca1, ↓ev_kca2, ↓ev_cb, ↓ev_kcb, ↓ev_cbF, ↓ev_kcbF, ↓ev_tup, ↓ev_ktup, ↓ev_lst, ↓ev_klst, ↓ev_test, ↓ev_ktest, ↓ev_tru, ↓ev_ktru, ↓ev_kB, ↓ev_tru_n, ↓ev_tru_b, ↓ev_tru_i, ↓ev_tru_s, ↓ev_tru_t, ↓ev_tru_l, ↓ev_tru_r, ↓ev_and, ↓ev_or, ↓ev_not, ↓ev_kand, ↓ev_kor, ↓ev_knot, ↓ev_andV, ↓ev_orV, ↓ev_notV, ↓ev_kandV, ↓ev_korV, ↓ev_knotV, ↓ev_notT, ↓ev_knotTt, ↓ev_ifE, ↓ev_kifE, ↓ev_chain, ↓ev_kch1, ↓ev_kch2, ↓ev_kchD, ↓ev_isi, ↓ev_kisi, ↓ev_iseq, ↓ev_kseqL, ↓ev_kseqR, ↓ev_kseqT, ↓ev_kseqS, ↓ev_enu, ↓ev_kenu, ↓ev_rng1, ↓ev_kr1, ↓ev_rng2, ↓ev_kr2, ↓ev_call, ↓ev_kcall, ↓ev_callF, ↓ev_kcallF, ↓ev_kresV, ↓ev_kresF, ↓ev_kresFF, ↓ev_comp, ↓ev_kcomp, ↓ev_kfin, ↓ev_yes, ↓ev_oN, ↓ev_oS, ↓ev_kO, ↓ev_sl, ↓ev_ksl1, ↓ev_ksl2, ↓ev_ksl3, ↓ev_sf, ↓ev_ksf1, ↓ev_ksf2, ↓ev_ksf3, ↓ev_add, ↓ev_sub, ↓ev_mul, ↓ev_div, ↓ev_mod, ↓ev_pow, ↓ev_iadd, ↓ev_cmp, ↓ev_adds, ↓ev_addt, ↓ev_iadds, ↓ev_isN, ↓ev_isnN, ↓ev_neg, ↓ev_eq_i, ↓ev_eq_s, ↓ev_eq_b, ↓ev_eq_nn, ↓ev_eq_ni, ↓ev_eq_in, ↓ev_eq_ns, ↓ev_eq_sn, ↓ev_eq_nb, ↓ev_eq_bn, ↓ev_eq_tt, ↓ev_eq_ll, ↓ev_eq_nt, ↓ev_eq_tn, ↓ev_ne_i, ↓ev_ne_s, ↓ev_ne_b, ↓ev_ne_nn, ↓ev_ne_ni, ↓ev_ne_in, ↓ev_ne_ns, ↓ev_ne_sn, ↓ev_ne_nb, ↓ev_ne_bn, ↓ev_ne_tt, ↓ev_ne_ll, ↓ev_ne_nt, ↓ev_ne_tn, ↓ev_ix_lst, ↓ev_ix_rol, ↓ev_ix_tup, ↓ev_ix_str, ↓ev_in_lst, ↓ev_in_rol, ↓ev_in_tup, ↓ev_len_lst, ↓ev_len_rol, ↓ev_len_tup, ↓ev_len_s, ↓ev_abs, ↓ev_int, ↓ev_intb, ↓ev_booli, ↓ev_boolb, ↓ev_max2, ↓ev_min2, ↓ev_list_lst, ↓ev_tuple_lst, ↓ev_list_rol, ↓ev_tuple_rol, ↓ev_list_tup, ↓ev_tuple_tup, ↓ev_sum, ↓ev_sumT, ↓ev_cat, ↓ev_rep, ↓ev_slt, ↓ev_sls, ↓ev_sfl, ↓ev_sfr, ↓ev_isNon_non, ↓ev_isNon_bl, ↓ev_isNon_int, ↓ev_isNon_str, ↓ev_isNon_tup, ↓ev_isNon_lst, ↓ev_isNon_rol, ↓ev_step, ↓ev_ks1, ↓ev_ks2, ↓ev_kE, ↓ev_kW, ev_app0, ev_selApp, ev_selSet1, ev_selSet, ev_selSetJ, ev_selAug, ev_selAug2, ev_selF, ev_selO, ev_selVal, ev_elim2, ev_elim2F, ev_elim1, ev_elimN, ev_elimNF, ev_elimT, ev_elimL, ev_elimTru, ev_elimIs, ev_elimC, ev_elimCF, ev_elimSl, ev_elimSf, ev_elimSum, brD_true, brD_false, optD_some, sg, ss, vget, vgets, valsOf, okSet, okS_no, okS_frz, okS_own, okS_io, arsOf, slotsOf, putCn, putOuts, noDup, outsOf, startD, List.replicate, okWipe, dWipe, isiD, tyD, flatD, true_and, and_true, if_true, if_false, Bool.false_eq_true, decide_eq_true_eq, Bool.not_eq_true', decide_eq_false_iff_not, List.contains_nil, List.contains_cons, Bool.not_false, Bool.not_true, Bool.and_self, Bool.and_true, Bool.true_and, Bool.or_false, Bool.false_or, Bool.and_false, Bool.or_true, Bool.true_or, Bool.false_and, List.length_cons, List.length_nil, List.cons_append, List.nil_append, Nat.reduceAdd, Nat.reduceLeDiff, Nat.reduceSub, Nat.reduceEqDiff, Nat.reduceBEq, reduceCtorEq, atI_c0, atI_c1, atI_c2, atI_c3, atI_c4, atI_c5, atI_c6, atI_c7, atI_c8, List.set_cons_zero, List.set_cons_succ, ixN_c0, ixN_c1, ixN_c2, ixN_c3, ixN_c4, List.all_cons, List.all_nil, String.reduceBEq, List.length_map, Int.reduceLT, Int.reducePow, Int.reduceToNat, Int.reduceNeg, Int.reduceLE, Int.reduceMul, or_true, true_or, Nat.reducePow, Nat.reduceLT, Nat.reduceGT, natAbs10, natAbs10b, not_true_eq_false, not_false_eq_true, ne_eq, decide_true, decide_false, Int.natCast_eq_zero, List.isEmpty_nil, List.isEmpty_cons, intsD_map, List.append_nil, Bool.not_not, decide_not, flat_nats, flat_ints, inF_nats, inF_ints, atI_last, cut_take, cut_drop, cut_drop1, nI_eq])
local macro_rules | `(tactic| walk_at "sc") => `(tactic| ((repeat' refine And.intro ?_ ?_) <;> first | assumption | decide | omega | skip))
local macro_rules | `(tactic| walk_at "items") => `(tactic| (repeat' (first | exact all_nil | refine all_cons ⟨_, rfl, (by omega), (by omega)⟩ ?_ | refine all_cons ⟨_, rfl, (by omega)⟩ ?_)))
local macro_rules | `(tactic| walk_at "st") => `(tactic| first | rw [brD_pos (by first | assumption | omega)] | rw [brD_neg (by first | assumption | omega)] | (with_reducible refine And.intro ?_ ?_; first | assumption | decide | omega))
local macro_rules | `(tactic| walk_at "go") => `(tactic| (walk_at "ev"; repeat (walk_at "st"; walk_at "ev")))

def r_law_same (S_law_same : DSp) : DSt :=
 (sSeq (sIf (rTest (rOp isNR (rName 1) (rC .non)))
 (sRet (rOp isNR (rName 0) (rC .non)))
 sNext)
 (sSeq (sIf (rTru (rIsiD "tuple" (rName 1)))
 (sSeq (sIf (rOr (rNot (rTru (rIsiD "tuple" (rName 0)))) (rTest (rOp neR (rCB lenR (rConsA (rName 0) rNilA)) (rCB lenR (rConsA (rName 1) rNilA)))))
 (sRet (rC (.bl false)))
 sNext)
 (sRet (rOp eqR (rCB lenR (rConsA (rFz (rComp [2] (iRng1D (rConsA (rCB lenR (rConsA (rName 1) rNilA)) rNilA)) (dName 2) (rNot (rTru (rCall 2 S_law_same (rConsA (rOp ixR (rName 0) (rName 2)) (rConsA (rOp ixR (rName 1) (rName 2)) rNilA))))) (rVal (rName 2)))) rNilA)) (rC (.int 0)))))
 sNext)
 (sSeq (sIf (rTru (rIsiD "str" (rName 1)))
 (sRet (rAndV (rIsiD "str" (rName 0)) (rOp eqR (rName 0) (rName 1))))
 sNext)
 (sRet (rAndV (rIsiD "int" (rName 0)) (rAndV (rOp eqR (rIsiD "bool" (rName 0)) (rIsiD "bool" (rName 1))) (rOp eqR (rName 0) (rName 1))))))))

/-- plain data, so many tuples deep -/
def Pl : Nat → D → Prop
  | _, .non => True
  | _, .bl _ => True
  | _, .int _ => True
  | _, .str _ => True
  | n + 1, .tup ds => ds.length ≤ 1000000 ∧ ∀ d ∈ ds, Pl n d
  | _, _ => False
mutual
/-- the same plain data -/
def sameD : D → D → Bool
  | .non, .non => true
  | .bl a, .bl b => decide (a = b)
  | .int a, .int b => decide (a = b)
  | .str a, .str b => decide (a = b)
  | .tup xs, .tup ys => sameDs xs ys
  | _, _ => false
def sameDs : List D → List D → Bool
  | [], [] => true
  | x :: xs, y :: ys => sameD x y && sameDs xs ys
  | _, _ => false
end
theorem sameDs_len : ∀ {xs ys : List D}, sameDs xs ys = true → xs.length = ys.length
  | [], [], _ => rfl
  | x :: xs, y :: ys, h => by
    unfold sameDs at h
    rw [Bool.and_eq_true] at h
    rw [List.length_cons, List.length_cons, sameDs_len h.2]
  | [], y :: ys, h => by unfold sameDs at h; cases h
  | x :: xs, [], h => by unfold sameDs at h; cases h
theorem sameDs_at : ∀ {xs ys : List D}, xs.length = ys.length → (sameDs xs ys = true ↔ ∀ (i : Nat) (x y : D), xs[i]? = some x → ys[i]? = some y → sameD x y = true)
  | [], [], _ => ⟨fun _ i x y h => by simp at h, fun _ => by unfold sameDs; rfl⟩
  | x :: xs, y :: ys, hl => by
    have ih := sameDs_at (xs := xs) (ys := ys) (Nat.succ.inj hl)
    unfold sameDs
    rw [Bool.and_eq_true, ih]
    constructor
    · rintro ⟨h1, h2⟩ i u v hu hv
      cases i with
      | zero =>
        simp at hu hv
        subst hu hv
        exact h1
      | succ i => exact h2 i u v (by simpa using hu) (by simpa using hv)
    · intro h
      exact ⟨h 0 x y rfl rfl, fun i u v hu hv => h (i + 1) u v (by simpa using hu) (by simpa using hv)⟩
  | [], y :: ys, h => by cases h
  | x :: xs, [], h => by cases h
theorem sameD_refl : ∀ {n : Nat} {d : D}, Pl n d → sameD d d = true
  | n, .non, _ => by unfold sameD; rfl
  | n, .bl b, _ => by unfold sameD; exact decide_eq_true rfl
  | n, .int b, _ => by unfold sameD; exact decide_eq_true rfl
  | n, .str b, _ => by unfold sameD; exact decide_eq_true rfl
  | 0, .tup ds, h => h.elim
  | n + 1, .tup ds, h => by
    unfold sameD
    refine (sameDs_at rfl).mpr fun i x y hx hy => ?_
    rw [hx] at hy
    cases hy
    exact sameD_refl (h.2 x (List.mem_of_getElem? hx))
  | 0, .lst ds, h => h.elim
  | n + 1, .lst ds, h => h.elim
  | 0, .rol ds, h => h.elim
  | n + 1, .rol ds, h => h.elim
@[irreducible] def Sn_law_same : Nat → DSp
  | 0 => fun _ _ => False
  | n + 1 => fun as P => ∃ (a b : D), as = [.val a, .val b] ∧ (Pl n a) ∧ (Pl n b) ∧ (P (.v (.bl (sameD a b))) [])
abbrev S_law_same : DSp := Sn_law_same 6
theorem use_law_same {n : Nat} {a b : D} {kk : Ret → List Cn → Prop} {bb : BoxK kk} (h1 : Pl n a) (h2 : Pl n b) (hk : kk (.v (.bl (sameD a b))) []) : callD (Sn_law_same (n + 1)) [.val a, .val b] bb := by
  show Sn_law_same (n + 1) _ _
  unfold Sn_law_same
  exact ⟨a, b, rfl, h1, h2, hk⟩
/-- the same data twice: the same -/
theorem use_same {n : Nat} {d : D} {k : Ret → List Cn → Prop} {b : BoxK k} (h : Pl n d) (hk : k (.v (.bl true)) []) : callD (Sn_law_same (n + 1)) [.val d, .val d] b := use_law_same h h (by rw [sameD_refl h]; exact hk)
def r_reduced : DSt :=
 (sSeq (sTgt (rOp ixR (rName 0) (rC (.int 0))) (dTup 2 (dCons (dName 2) (dCons (dName 3) dNil))))
 (sSeq (sIf (rTest (rOp isNR (rName 3) (rC .non)))
 (sRet (rVal (rName 0)))
 sNext)
 (sSeq (sIf (rTest (rOp eqR (rName 3) (rName 1)))
 (sRet (rFz (rSlF (rName 0) (oSome (rC (.int 1))) oNone)))
 sNext)
 (sRet (rFz (rLst (rConsA (rTup (rConsA (rVal (rName 2)) (rConsA (rOp subR (rName 3) (rName 1)) rNilA))) (rStarA (rFz (rSlF (rName 0) (oSome (rC (.int 1))) oNone)) rNilA))))))))

@[irreducible] def S_reduced : DSp := fun as P => ∃ (p : Pk) (ps : List Pk) (w : Option Int), as = [.val (.lst ((p :: ps).map pkD)), .val (cD w)] ∧ (p.2 ≠ none → w ≠ none) ∧ (ps.length ≤ 3000) ∧ (P (.v (.lst ((restP p ps w).map pkD))) [])
theorem use_reduced {p : Pk} {ps : List Pk} {w : Option Int} {kk : Ret → List Cn → Prop} {bb : BoxK kk} (hw : p.2 ≠ none → w ≠ none) (hl : ps.length ≤ 3000) (hk : kk (.v (.lst ((restP p ps w).map pkD))) []) : callD S_reduced [.val (.lst ((p :: ps).map pkD)), .val (cD w)] bb := by
  show S_reduced _ _
  unfold S_reduced
  exact ⟨p, ps, w, rfl, hw, hl, hk⟩
def r_combined : DSt :=
 (sRet (rM1 joinR (rC (.str "")) (rFz (rComp [2, 3] (iZipTD (rConsA (rVal (rName 0)) (rConsA (rVal (rName 1)) rNilA))) (dTup 2 (dCons (dName 2) (dCons (dName 3) dNil))) rYes (rVal (rIfE (rTest (rOp eqR (rName 2) (rC (.str "?")))) (rName 3) (rName 2)))))))

@[irreducible] def S_combined : DSp := fun as P => ∃ (a b : List Nat), as = [.val (.str (ofL a)), .val (.str (ofL b))] ∧ (a.length ≤ 1000) ∧ (P (.v (.str (ofL (cmbL a b)))) [])
theorem use_combined {a b : List Nat} {kk : Ret → List Cn → Prop} {bb : BoxK kk} (hl : a.length ≤ 1000) (hk : kk (.v (.str (ofL (cmbL a b)))) []) : callD S_combined [.val (.str (ofL a)), .val (.str (ofL b))] bb := by
  show S_combined _ _
  unfold S_combined
  exact ⟨a, b, rfl, hl, hk⟩
def r_is_less : DSt :=
 (sSeq (sIf (rTest (rOp isNR (rName 0) (rC .non)))
 (sRet (rC (.bl false)))
 sNext)
 (sRet (rOrV (rOp isNR (rName 1) (rC .non)) (rOp ltR (rName 0) (rName 1)))))

def lessO : Option Int → Option Int → Bool
  | none, _ => false
  | some _, none => true
  | some x, some y => decide (x < y)
@[irreducible] def S_is_less : DSp := fun as P => ∃ a b : Option Int, as = [.val (cD a), .val (cD b)] ∧ P (.v (.bl (lessO a b))) []
theorem use_less {a b : Option Int} {kk : Ret → List Cn → Prop} {bb : BoxK kk} (hk : kk (.v (.bl (lessO a b))) []) : callD S_is_less [.val (cD a), .val (cD b)] bb := by
  show S_is_less _ _
  unfold S_is_less
  exact ⟨a, b, rfl, hk⟩

def r_smaller : DSt :=
 (sSeq (sIf (rTru (rCall 2 S_is_less (rConsA (rVal (rName 1)) (rConsA (rVal (rName 0)) rNilA))))
 (sRet (rVal (rName 1)))
 sNext)
 (sRet (rVal (rName 0))))

def smallO (a b : Option Int) : Option Int := if lessO b a then b else a
@[irreducible] def S_smaller : DSp := fun as P => ∃ (a b : Option Int), as = [.val (cD a), .val (cD b)] ∧ (P (.v (cD (smallO a b))) [])
theorem use_smaller {a b : Option Int} {kk : Ret → List Cn → Prop} {bb : BoxK kk} (hk : kk (.v (cD (smallO a b))) []) : callD S_smaller [.val (cD a), .val (cD b)] bb := by
  show S_smaller _ _
  unfold S_smaller
  exact ⟨a, b, rfl, hk⟩
def r_merged : DSt :=
 (sSeq (sAsgF 2 (rComp [6] (iSeqD (rVal (rName 0))) (dName 6) (rTest (rOp neR (rOp ixR (rName 6) (rC (.int 1))) (rC (.int 0)))) (rVal (rName 6))))
 (sSeq (sAsgF 3 (rComp [6] (iSeqD (rVal (rName 1))) (dName 6) (rTest (rOp neR (rOp ixR (rName 6) (rC (.int 1))) (rC (.int 0)))) (rVal (rName 6))))
 (sSeq (sAsgF 4 (rLst rNilA))
 (sSeq (sWhile (rAnd (rTru (rName 2)) (rTru (rName 3)))
 (sSeq (sAsg 5 (rCall 2 S_smaller (rConsA (rOp ixR (rOp ixR (rName 2) (rC (.int 0))) (rC (.int 1))) (rConsA (rOp ixR (rOp ixR (rName 3) (rC (.int 0))) (rC (.int 1))) rNilA))))
 (sSeq (sApp 4 (rTup (rConsA (rCall 2 S_combined (rConsA (rOp ixR (rOp ixR (rName 2) (rC (.int 0))) (rC (.int 0))) (rConsA (rOp ixR (rOp ixR (rName 3) (rC (.int 0))) (rC (.int 0))) rNilA))) (rConsA (rVal (rName 5)) rNilA))))
 (sSeq (sIf (rTest (rOp isNR (rName 5) (rC .non)))
 (sRet (rCB tupleR (rConsA (rName 4) rNilA)))
 sNext)
 (sSeq (sAsg 2 (rCall 2 S_reduced (rConsA (rVal (rName 2)) (rConsA (rVal (rName 5)) rNilA))))
 (sAsg 3 (rCall 2 S_reduced (rConsA (rVal (rName 3)) (rConsA (rVal (rName 5)) rNilA)))))))))
 (sRet (rCB tupleR (rConsA (rName 4) rNilA)))))))

theorem smW_O (a b : Option Int) : smallO a b = smW a b := by
  unfold smallO smW
  rw [show lessO b a = lsO b a by rcases a with _ | a <;> rcases b with _ | b <;> rfl]
theorem nz_map (L : List Pk) : (L.filter fun p : Pk => !decide (p.2 = some 0)) = nzP L := rfl
@[irreducible] def S_merged : DSp := fun as P => ∃ (L R : List Pk) (a b : D), as = [.val a, .val b] ∧ (a = .tup (L.map pkD) ∨ a = .lst (L.map pkD)) ∧ (b = .tup (R.map pkD) ∨ b = .lst (R.map pkD)) ∧ (L.length ≤ 1000 ∧ R.length ≤ 1000 ∧ (∀ p ∈ L, p.1.length ≤ 1000) ∧ (∀ p ∈ R, p.1.length ≤ 1000)) ∧ (P (.v (.tup ((mrg (nzP L) (nzP R)).map pkD))) [])
theorem use_merged {L R : List Pk} {a b : D} {kk : Ret → List Cn → Prop} {bb : BoxK kk} (ha : a = .tup (L.map pkD) ∨ a = .lst (L.map pkD)) (hb : b = .tup (R.map pkD) ∨ b = .lst (R.map pkD)) (hl : L.length ≤ 1000 ∧ R.length ≤ 1000 ∧ (∀ p ∈ L, p.1.length ≤ 1000) ∧ (∀ p ∈ R, p.1.length ≤ 1000)) (hk : kk (.v (.tup ((mrg (nzP L) (nzP R)).map pkD))) []) : callD S_merged [.val a, .val b] bb := by
  show S_merged _ _
  unfold S_merged
  exact ⟨L, R, a, b, rfl, ha, hb, hl, hk⟩
def r_law_less_v2 : DSt :=
 (sSeq (sIf (rTest (rOp isNR (rName 0) (rC .non)))
 (sRet (rC (.bl false)))
 sNext)
 (sRet (rOrV (rOp isNR (rName 1) (rC .non)) (rOp ltR (rName 0) (rName 1)))))

@[irreducible] def S_law_less_v2 : DSp := fun as P => ∃ (a b : Option Int), as = [.val (cD a), .val (cD b)] ∧ (P (.v (.bl (lessO a b))) [])
theorem use_law_less_v2 {a b : Option Int} {kk : Ret → List Cn → Prop} {bb : BoxK kk} (hk : kk (.v (.bl (lessO a b))) []) : callD S_law_less_v2 [.val (cD a), .val (cD b)] bb := by
  show S_law_less_v2 _ _
  unfold S_law_less_v2
  exact ⟨a, b, rfl, hk⟩
def r_law_at_v2 : DSt :=
 (sSeq (sFor (iSeqD (rVal (rName 0))) (dName 2)
 (sIf (rTru (rCall 2 S_law_less_v2 (rConsA (rVal (rName 1)) (rConsA (rOp ixR (rName 2) (rC (.int 1))) rNilA))))
 (sRet (rOp ixR (rName 2) (rC (.int 0))))
 sNext))
 (sRet (rC .non)))

def atP (rows : List Pk) (low : Int) : Option (List Nat) := (rows.find? fun p => lsO (some low) p.2).map (·.1)
def tD : Option (List Nat) → D
  | none => .non
  | some r => .str (ofL r)
@[irreducible] def S_law_at_v2 : DSp := fun as P => ∃ (rows : List Pk) (low : Int), as = [.val (.lst (rows.map pkD)), .val (.int low)] ∧ (P (.v (tD (atP rows low))) [])
theorem use_law_at_v2 {rows : List Pk} {low : Int} {kk : Ret → List Cn → Prop} {bb : BoxK kk} (hk : kk (.v (tD (atP rows low))) []) : callD S_law_at_v2 [.val (.lst (rows.map pkD)), .val (.int low)] bb := by
  show S_law_at_v2 _ _
  unfold S_law_at_v2
  exact ⟨rows, low, rfl, hk⟩
def r_law_sum : DSt :=
 (sSeq (sIf (rOr (rTest (rOp isNR (rName 0) (rC .non))) (rTest (rOp isNR (rName 1) (rC .non))))
 (sRet (rC .non))
 sNext)
 (sRet (rOp addR (rName 0) (rName 1))))

@[irreducible] def S_law_sum : DSp := fun as P => ∃ a b : Option Int, as = [.val (cD a), .val (cD b)] ∧ P (.v (cD (plusO a b))) []
theorem use_lsum {a b : Option Int} {kk : Ret → List Cn → Prop} {bb : BoxK kk} (hk : kk (.v (cD (plusO a b))) []) : callD S_law_sum [.val (cD a), .val (cD b)] bb := by
  show S_law_sum _ _
  unfold S_law_sum
  exact ⟨a, b, rfl, hk⟩

def r_law_sums : DSt :=
 (sSeq (sAsgF 1 (rLst rNilA))
 (sSeq (sAsg 2 (rC (.int 0)))
 (sSeq (sFor (iSeqD (rVal (rName 0))) (dName 3)
 (sIf (rTest (rOp neR (rOp ixR (rName 3) (rC (.int 1))) (rC (.int 0))))
 (sSeq (sAsg 2 (rCall 2 S_law_sum (rConsA (rVal (rName 2)) (rConsA (rOp ixR (rName 3) (rC (.int 1))) rNilA))))
 (sApp 1 (rTup (rConsA (rOp ixR (rName 3) (rC (.int 0))) (rConsA (rVal (rName 2)) rNilA)))))
 sNext))
 (sRet (rVal (rName 1))))))

def sumsP : Option Int → List Pk → List Pk
  | _, [] => []
  | t, p :: L => if p.2 = some 0 then sumsP t L else (p.1, pluS t p.2) :: sumsP (pluS t p.2) L
theorem sumsP_len : ∀ (t : Option Int) (L : List Pk), (sumsP t L).length ≤ L.length
  | _, [] => Nat.le_refl _
  | t, p :: L => by
    rw [sumsP]
    split
    · have := sumsP_len t L
      rw [List.length_cons]
      omega
    · have := sumsP_len (pluS t p.2) L
      rw [List.length_cons, List.length_cons]
      omega
@[irreducible] def S_law_sums : DSp := fun as P => ∃ (L : List Pk), as = [.val (.tup (L.map pkD))] ∧ (L.length ≤ 1000) ∧ (P (.v (.lst ((sumsP (some 0) L).map pkD))) [])
theorem use_law_sums {L : List Pk} {kk : Ret → List Cn → Prop} {bb : BoxK kk} (hl : L.length ≤ 1000) (hk : kk (.v (.lst ((sumsP (some 0) L).map pkD))) []) : callD S_law_sums [.val (.tup (L.map pkD))] bb := by
  show S_law_sums _ _
  unfold S_law_sums
  exact ⟨L, rfl, hl, hk⟩
def r_law_draw : DSt :=
 (sSeq (sIf (rTest (rOp eqR (rOp ixR (rName 0) (rC (.int 2))) (rC (.int 0))))
 (sSeq (sAsg 3 (rOp ixR (rName 0) (rC (.int 1))))
 (sSeq (sAsg 2 (rC (.int 0)))
 (sSeq (sIf (rTest (rOp ltR (rName 3) (rCB lenR (rConsA (rOp ixR (rName 0) (rC (.int 0))) rNilA))))
 (sAsg 2 (rCB absR (rConsA (rCB intR (rConsA (rOp ixR (rOp ixR (rName 0) (rC (.int 0))) (rName 3)) rNilA)) rNilA)))
 (sSeq (sSetI 0 (rOp modR (rCB intR (rConsA (rOp addR (rOp addR (rOp mulR (rOp ixR (rName 0) (rC (.int 3))) (rC (.int 48271))) (rName 3)) (rC (.int 1))) rNilA)) (rC (.int 2147483647))) (rC (.int 3)))
 (sAsg 2 (rOp ixR (rName 0) (rC (.int 3))))))
 (sSeq (sSetI 0 (rOp addR (rName 3) (rC (.int 1))) (rC (.int 1)))
 (sSeq (sIf (rTest (rOp ltR (rName 2) (rOp powR (rC (.int 10)) (rC (.int 18)))))
 (sSeq (sAsg 2 (rOp modR (rCB intR (rConsA (rOp addR (rOp addR (rOp mulR (rName 2) (rC (.int 48271))) (rOp mulR (rName 3) (rC (.int 69621)))) (rC (.int 5))) rNilA)) (rC (.int 2147483647))))
 (sSeq (sAsg 2 (rOp modR (rCB intR (rConsA (rOp mulR (rName 2) (rC (.int 69621))) rNilA)) (rC (.int 2147483629))))
 (sRet (rOp modR (rCB intR (rConsA (rName 2) rNilA)) (rCB max2R (rConsA (rName 1) (rConsA (rC (.int 1)) rNilA)))))))
 sNext)
 (sSetI 0 (rVal (rName 2)) (rC (.int 2))))))))
 sNext)
 (sSeq (sAsg 2 (rOp ixR (rName 0) (rC (.int 2))))
 (sSeq (sSetI 0 (rOp divR (rName 2) (rCB max2R (rConsA (rName 1) (rConsA (rC (.int 2)) rNilA)))) (rC (.int 2)))
 (sRet (rOp modR (rCB intR (rConsA (rName 2) rNilA)) (rCB max2R (rConsA (rName 1) (rConsA (rC (.int 1)) rNilA))))))))

/-- the tape: the script, the next place, what is left of a great number, the seed -/
def tapeC (ns : List Int) (i n t : Int) : Cn := .lst [.lst (ns.map D.int), .int i, .int n, .int t]
def IsTape (c : Cn) : Prop := ∃ ns i n t, c = tapeC ns i n t ∧ 0 ≤ i
@[irreducible] def S_law_draw : DSp := fun as P => ∃ (c : Cn) (many : Int), as = [.io c, .val (.int many)] ∧ IsTape c ∧ many < 1073741824 ∧ ∀ k c', IsTape c' → 0 ≤ k → (1 ≤ many → k < many) → P (.v (.int k)) [c']
theorem isTape {ns : List Int} {i n t : Int} (h : 0 ≤ i) : IsTape (.lst [.lst (ns.map D.int), .int i, .int n, .int t]) := ⟨ns, i, n, t, rfl, h⟩
theorem use_draw {c : Cn} {many : Int} {k : Ret → List Cn → Prop} {b : BoxK k} (hc : IsTape c) (hm : many < 1073741824) (hk : ∀ r c', IsTape c' → 0 ≤ r → (1 ≤ many → r < many) → k (.v (.int r)) [c']) : callD S_law_draw [.io c, .val (.int many)] b := by
  show S_law_draw _ _
  unfold S_law_draw
  exact ⟨c, many, rfl, hc, hm, hk⟩

def r_law_size_v2 : DSt :=
 (sSeq (sAsg 3 (rCall 2 S_law_draw (rConsA (rName 0) (rConsA (rOp addR (rName 1) (rC (.int 1))) rNilA))))
 (sRet (rOp ixR (rFz (rLst (rConsA (rVal (rName 3)) (rConsA (rVal (rName 2)) rNilA)))) (rCB intR (rConsA (rOp eqR (rCall 2 S_law_draw (rConsA (rName 0) (rConsA (rC (.int 8)) rNilA))) (rC (.int 0))) rNilA)))))

@[irreducible] def S_law_size_v2 : DSp := fun as P => ∃ (c : Cn) (u m : Int), as = [.io c, .val (.int u), .val (.int m)] ∧ (IsTape c) ∧ (0 ≤ u ∧ u ≤ 1000 ∧ 0 ≤ m ∧ m ≤ 1000) ∧ (∀ (k : Nat) c', IsTape c' → (k : Int) ≤ u ∨ (k : Int) = m → P (.v (.int (k : Int))) [c'])
theorem use_law_size_v2 {c : Cn} {u m : Int} {kk : Ret → List Cn → Prop} {bb : BoxK kk} (hc : IsTape c) (hu : 0 ≤ u ∧ u ≤ 1000 ∧ 0 ≤ m ∧ m ≤ 1000) (hk : ∀ (k : Nat) c', IsTape c' → (k : Int) ≤ u ∨ (k : Int) = m → kk (.v (.int (k : Int))) [c']) : callD S_law_size_v2 [.io c, .val (.int u), .val (.int m)] bb := by
  show S_law_size_v2 _ _
  unfold S_law_size_v2
  exact ⟨c, u, m, rfl, hc, hu, hk⟩
def r_law_weights_v2 : DSt :=
 (sSeq (sAsg 3 (rTup rNilA))
 (sSeq (sFor (iRng1D (rConsA (rCall 3 S_law_size_v2 (rConsA (rName 0) (rConsA (rC (.int 6)) (rConsA (rC (.int 12)) rNilA)))) rNilA)) (dName 4)
 (sSeq (sAsg 5 (rM1 joinR (rC (.str "")) (rFz (rComp [7] (iSeqD (rVal (rName 1))) (dName 7) rYes (rOp ixR (rFz (rLst (rConsA (rC (.str "?")) (rConsA (rOp ixR (rC (.str "10?")) (rCall 2 S_law_draw (rConsA (rName 0) (rConsA (rC (.int 3)) rNilA)))) rNilA)))) (rCB intR (rConsA (rName 7) rNilA)))))))
 (sSeq (sAsg 6 (rOp ixR (rFz (rLst (rConsA (rC (.int 0)) (rConsA (rC (.int 1)) (rConsA (rC (.int 2)) (rConsA (rC (.int 3)) (rConsA (rC .non) (rConsA (rC (.int 1000)) (rConsA (rCall 2 S_law_draw (rConsA (rName 0) (rConsA (rC (.int 1001)) rNilA))) rNilA))))))))) (rCall 2 S_law_draw (rConsA (rName 0) (rConsA (rOp ixR (rFz (rLst (rConsA (rC (.int 7)) (rConsA (rC (.int 4)) rNilA)))) (rCB intR (rConsA (rName 2) rNilA))) rNilA)))))
 (sAsg 3 (rOp addR (rName 3) (rTup (rConsA (rTup (rConsA (rVal (rName 5)) (rConsA (rVal (rName 6)) rNilA))) rNilA)))))))
 (sRet (rVal (rName 3)))))

/-- rows over the issues of one part: a sign elsewhere is no constraint -/
def partP (part : List Bool) (p : Pk) : Prop := Fs p.1 ∧ p.1.length = part.length ∧ (∀ k : Nat, part[k]? = some false → p.1[k]? = some 63) ∧ ∀ x, p.2 = some x → 0 ≤ x
@[irreducible] def S_law_weights_v2 : DSp := fun as P => ∃ (c : Cn) (part : List Bool) (few : Bool), as = [.io c, .val (.lst (part.map D.bl)), .val (.bl few)] ∧ (IsTape c) ∧ (part.length ≤ 8) ∧ (∀ (ps : List Pk) c', IsTape c' → (∀ p ∈ ps, partP part p) → ps.length ≤ 12 → P (.v (.tup (ps.map pkD))) [c'])
theorem use_law_weights_v2 {c : Cn} {part : List Bool} {few : Bool} {kk : Ret → List Cn → Prop} {bb : BoxK kk} (hc : IsTape c) (hp : part.length ≤ 8) (hk : ∀ (ps : List Pk) c', IsTape c' → (∀ p ∈ ps, partP part p) → ps.length ≤ 12 → kk (.v (.tup (ps.map pkD))) [c']) : callD S_law_weights_v2 [.io c, .val (.lst (part.map D.bl)), .val (.bl few)] bb := by
  show S_law_weights_v2 _ _
  unfold S_law_weights_v2
  exact ⟨c, part, few, rfl, hc, hp, hk⟩
def r_law_due_v5 : DSt :=
 (sSeq (sAsg 3 (rCall 1 S_law_sums (rConsA (rVal (rName 0)) rNilA)))
 (sSeq (sAsg 4 (rCall 1 S_law_sums (rConsA (rVal (rName 1)) rNilA)))
 (sSeq (sAsgF 5 (rLst rNilA))
 (sSeq (sFor (iSeqD (rFz (rOpF catR (rName 3) (rName 4)))) (dName 6)
 (sIf (rAnd (rTest (rOp isnNR (rOp ixR (rName 6) (rC (.int 1))) (rC .non))) (rTest (rOp (inR true) (rOp ixR (rName 6) (rC (.int 1))) (rName 5))))
 (sApp 5 (rOp ixR (rName 6) (rC (.int 1))))
 sNext))
 (sSeq (sAsg 7 (rTup rNilA))
 (sSeq (sAsg 8 (rC (.int 0)))
 (sSeq (sFor (iSeqD (rFz (rOpF catR (rFz (rCBF sortedR (rConsA (rName 5) rNilA))) (rFz (rLst (rConsA (rC .non) rNilA)))))) (dName 9)
 (sSeq (sAsg 10 (rCall 2 S_law_at_v2 (rConsA (rVal (rName 3)) (rConsA (rVal (rName 8)) rNilA))))
 (sSeq (sAsg 11 (rCall 2 S_law_at_v2 (rConsA (rVal (rName 4)) (rConsA (rVal (rName 8)) rNilA))))
 (sSeq (sIf (rOr (rTest (rOp isNR (rName 10) (rC .non))) (rTest (rOp isNR (rName 11) (rC .non))))
 sBreak
 sNext)
 (sSeq (sAsg 12 (rM1 joinR (rC (.str "")) (rFz (rComp [13] (iRng1D (rConsA (rCB lenR (rConsA (rName 2) rNilA)) rNilA)) (dName 13) rYes (rOp ixR (rFz (rLst (rConsA (rOp ixR (rName 11) (rName 13)) (rConsA (rOp ixR (rName 10) (rName 13)) rNilA)))) (rCB intR (rConsA (rOp ixR (rName 2) (rName 13)) rNilA)))))))
 (sIf (rTest (rOp isNR (rName 9) (rC .non)))
 (sAsg 7 (rOp addR (rName 7) (rTup (rConsA (rTup (rConsA (rVal (rName 12)) (rConsA (rC .non) rNilA))) rNilA))))
 (sSeq (sAsg 7 (rOp addR (rName 7) (rTup (rConsA (rTup (rConsA (rVal (rName 12)) (rConsA (rOp subR (rName 9) (rName 8)) rNilA))) rNilA))))
 (sAsg 8 (rVal (rName 9))))))))))
 (sRet (rVal (rName 7))))))))))

@[irreducible] def S_law_due_v5 : DSp := fun as P => ∃ (L R : List Pk) (part : List Bool), as = [.val (.tup (L.map pkD)), .val (.tup (R.map pkD)), .val (.lst (part.map D.bl))] ∧ (∀ p ∈ L, partP part p) ∧ (∀ p ∈ R, partP (part.map not) p) ∧ (L.length ≤ 12 ∧ R.length ≤ 12 ∧ part.length ≤ 8) ∧ (P (.v (.tup ((mrg (nzP L) (nzP R)).map pkD))) [])
theorem use_law_due_v5 {L R : List Pk} {part : List Bool} {kk : Ret → List Cn → Prop} {bb : BoxK kk} (hL : ∀ p ∈ L, partP part p) (hR : ∀ p ∈ R, partP (part.map not) p) (hl : L.length ≤ 12 ∧ R.length ≤ 12 ∧ part.length ≤ 8) (hk : kk (.v (.tup ((mrg (nzP L) (nzP R)).map pkD))) []) : callD S_law_due_v5 [.val (.tup (L.map pkD)), .val (.tup (R.map pkD)), .val (.lst (part.map D.bl))] bb := by
  show S_law_due_v5 _ _
  unfold S_law_due_v5
  exact ⟨L, R, part, rfl, hL, hR, hl, hk⟩
def r_law_tape : DSt :=
 (sSeq (sAsg 1 (rC (.int 7)))
 (sSeq (sFor (iSeqD (rVal (rName 0))) (dName 2)
 (sAsg 1 (rOp modR (rCB intR (rConsA (rOp addR (rOp mulR (rName 1) (rC (.int 31))) (rCB absR (rConsA (rCB intR (rConsA (rName 2) rNilA)) rNilA))) rNilA)) (rC (.int 2147483647)))))
 (sRetF (rLst (rConsA (rFz (rCBF listR2 (rConsA (rName 0) rNilA))) (rConsA (rC (.int 0)) (rConsA (rC (.int 0)) (rConsA (rVal (rName 1)) rNilA))))))))

@[irreducible] def S_law_tape : DSp := fun as P => ∃ ns : List Int, as = [.val (.rol (ns.map D.int))] ∧ ns.length ≤ 63 ∧ ∀ t : Int, P (.f [.lst (ns.map D.int), .int 0, .int 0, .int t]) []
theorem use_tape {ns : List Int} {k : Ret → List Cn → Prop} {b : BoxK k} (h : ns.length ≤ 63) (hk : ∀ c, IsTape (.lst c) → k (.f c) []) : callD S_law_tape [.val (.rol (ns.map D.int))] b := by
  show S_law_tape _ _
  unfold S_law_tape
  exact ⟨ns, rfl, h, fun t => hk _ (isTape (by decide))⟩

def r_law_k76 : DSt :=
 (sSeq (sAsgF 1 (rCallF 1 S_law_tape (rConsA (rVal (rName 0)) rNilA)))
 (sSeq (sAsgF 2 (rComp [9] (iRng1D (rConsA (rOp addR (rC (.int 1)) (rCall 2 S_law_draw (rConsA (rName 1) (rConsA (rC (.int 8)) rNilA)))) rNilA)) (dName 9) rYes (rOp eqR (rCall 2 S_law_draw (rConsA (rName 1) (rConsA (rC (.int 2)) rNilA))) (rC (.int 1)))))
 (sSeq (sAsgF 3 (rComp [10] (iSeqD (rVal (rName 2))) (dName 10) rYes (rNotV (rName 10))))
 (sSeq (sAsg 4 (rOp eqR (rCall 2 S_law_draw (rConsA (rName 1) (rConsA (rC (.int 2)) rNilA))) (rC (.int 0))))
 (sSeq (sAsgF 5 (rLst (rConsA (rCall 3 S_law_weights_v2 (rConsA (rName 1) (rConsA (rVal (rName 2)) (rConsA (rVal (rName 4)) rNilA)))) (rConsA (rCall 3 S_law_weights_v2 (rConsA (rName 1) (rConsA (rVal (rName 2)) (rConsA (rVal (rName 4)) rNilA)))) rNilA))))
 (sSeq (sAsgF 6 (rLst (rConsA (rCall 3 S_law_weights_v2 (rConsA (rName 1) (rConsA (rVal (rName 3)) (rConsA (rVal (rName 4)) rNilA)))) (rConsA (rCall 3 S_law_weights_v2 (rConsA (rName 1) (rConsA (rVal (rName 3)) (rConsA (rVal (rName 4)) rNilA)))) rNilA))))
 (sSeq (sFor (iSeqD (rFz (rLst (rConsA (rOp ixR (rName 5) (rC (.int 0))) (rConsA (rOp ixR (rName 5) (rC (.int 1))) (rConsA (rOp ixR (rName 5) (rC (.int 0))) rNilA)))))) (dName 7)
 (sFor (iSeqD (rVal (rName 6))) (dName 8)
 (sIf (rNot (rTru (rCall 2 S_law_same (rConsA (rCall 2 S_merged (rConsA (rVal (rName 7)) (rConsA (rVal (rName 8)) rNilA))) (rConsA (rCall 3 S_law_due_v5 (rConsA (rVal (rName 7)) (rConsA (rVal (rName 8)) (rConsA (rVal (rName 2)) rNilA)))) rNilA)))))
 (sRet (rC (.bl false)))
 sNext)))
 (sRet (rC (.bl true))))))))))



theorem ok_law_same : ∀ n as P, as.length = 2 → Sn_law_same (n + 1) as P → r_law_same (Sn_law_same n) { nx := fun δ => P (.v .non) (outsOf 0 as δ), rt := fun rt δ => P rt (outsOf 0 as δ) } (startD 3 as) := by
  intro n as P _ h
  unfold Sn_law_same at h
  obtain ⟨a, b, rfl, h1, h2, hP⟩ := h
  unfold r_law_same
  cases b with
  | non =>
    unfold sameD at hP
    cases a <;> walk_at "go"
    all_goals first | exact hP | (cases n <;> exact h1.elim)
  | bl b =>
    unfold sameD at hP
    cases a <;> walk_at "go"
    all_goals first | exact hP | (cases n <;> exact h1.elim)
  | int b =>
    unfold sameD at hP
    cases a <;> walk_at "go"
    all_goals first | exact hP | (cases n <;> exact h1.elim)
  | str b =>
    unfold sameD at hP
    cases a <;> walk_at "go"
    all_goals first | exact hP | (cases n <;> exact h1.elim)
  | lst ds => cases n <;> exact h2.elim
  | rol ds => cases n <;> exact h2.elim
  | tup ys =>
    cases n with
    | zero => exact h2.elim
    | succ n =>
      obtain ⟨hl, hp⟩ := h2
      cases a with
      | tup xs =>
        obtain ⟨hl1, hp1⟩ := h1
        unfold sameD at hP
        walk_at "go"
        refine br_i (fun g => ?_) (fun g => ?_) <;> walk_at "go"
        · have hf : sameDs xs ys = false := by
            rw [← Bool.not_eq_true]
            intro z
            have := sameDs_len z
            omega
          rw [hf] at hP
          exact hP
        · have hxy : xs.length = ys.length := by omega
          rw [rngD_nats]
          refine comp_of (p := fun i => !sameD (xs.getD i .non) (ys.getD i .non)) (f := nI) (fun i hi K1 K2 y1 y2 => ?_) (by rw [List.length_range]; omega) ?_
          · have hi := List.mem_range.mp hi
            have hix : i < xs.length := by omega
            unfold nI
            walk_at "go"
            rw [atI_at hix, optD_some]
            walk_at "go"
            rw [atI_at hi, optD_some]
            walk_at "go"
            have e1 : xs.getD i .non = xs[i] := by rw [List.getD_eq_getElem?_getD, List.getElem?_eq_getElem hix]; rfl
            have e2 : ys.getD i .non = ys[i] := by rw [List.getD_eq_getElem?_getD, List.getElem?_eq_getElem hi]; rfl
            rw [e1, e2] at y1 y2
            refine use_law_same (hp1 _ (List.getElem_mem hix)) (hp _ (List.getElem_mem hi)) ?_
            walk_at "go"
            refine br_i (fun w => ?_) (fun w => ?_) <;> walk_at "go"
            · exact y1 (by simp [w]) _ rfl rfl
            · exact y2 (by simpa using w) _ rfl rfl
          · walk_at "go"
            have key : sameDs xs ys = decide (((List.range ys.length).filter fun i => !sameD (xs.getD i .non) (ys.getD i .non)).length = 0) := by
              rw [Bool.eq_iff_iff, sameDs_at hxy, decide_eq_true_eq]
              constructor
              · intro h
                have : ((List.range ys.length).filter fun i => !sameD (xs.getD i .non) (ys.getD i .non)) = [] := List.filter_eq_nil_iff.mpr fun i hi => by
                  have hi := List.mem_range.mp hi
                  have hix : i < xs.length := by omega
                  rw [List.getD_eq_getElem?_getD, List.getD_eq_getElem?_getD, List.getElem?_eq_getElem hix, List.getElem?_eq_getElem hi]
                  simp only [Option.getD_some]
                  rw [h i _ _ (List.getElem?_eq_getElem hix) (List.getElem?_eq_getElem hi)]
                  decide
                rw [this]
                rfl
              · intro h i x y hx hy
                have h : ((List.range ys.length).filter fun i => !sameD (xs.getD i .non) (ys.getD i .non)) = [] := List.length_eq_zero_iff.mp h
                have hi := (List.getElem?_eq_some_iff.mp hy).1
                have := List.filter_eq_nil_iff.mp h i (List.mem_range.mpr hi)
                rw [List.getD_eq_getElem?_getD, List.getD_eq_getElem?_getD, hx, hy] at this
                simpa using this
            rw [key] at hP
            exact hP
      | non =>
        unfold sameD at hP
        walk_at "go"
        exact hP
      | bl a =>
        unfold sameD at hP
        walk_at "go"
        exact hP
      | int a =>
        unfold sameD at hP
        walk_at "go"
        exact hP
      | str a =>
        unfold sameD at hP
        walk_at "go"
        exact hP
      | lst _ => exact h1.elim
      | rol _ => exact h1.elim


theorem ok_reduced : ∀ as P, as.length = 2 → S_reduced as P → r_reduced { nx := fun δ => P (.v .non) (outsOf 0 as δ), rt := fun rt δ => P rt (outsOf 0 as δ) } (startD 4 as) := by
  intro as P _ h
  unfold S_reduced at h
  obtain ⟨p, ps, w, rfl, hw, hl, hP⟩ := h
  unfold r_reduced
  obtain ⟨r, x⟩ := p
  rw [List.map_cons]
  cases x with
  | none =>
    rw [show restP (r, none) ps w = (r, none) :: ps from rfl, List.map_cons, show pkD (r, none) = .tup [.str (ofL r), .non] from rfl] at hP
    rw [show pkD (r, none) = .tup [.str (ofL r), .non] from rfl]
    walk_at "go"
    exact hP
  | some x =>
    cases w with
    | none => exact absurd rfl (hw nofun)
    | some y =>
      rw [show restP (r, some x) ps (some y) = if x = y then ps else (r, some (x - y)) :: ps from rfl] at hP
      rw [show pkD (r, some x) = .tup [.str (ofL r), .int x] from rfl, show cD (some y) = .int y from rfl]
      walk_at "go"
      refine br_i (fun g => ?_) (fun g => ?_) <;> walk_at "go"
      · rw [if_pos g] at hP
        exact hP
      · rw [if_neg g, List.map_cons] at hP
        exact hP


theorem ok_combined : ∀ as P, as.length = 2 → S_combined as P → r_combined { nx := fun δ => P (.v .non) (outsOf 0 as δ), rt := fun rt δ => P rt (outsOf 0 as δ) } (startD 4 as) := by
  intro as P _ h
  unfold S_combined at h
  obtain ⟨a, b, rfl, hl, hP⟩ := h
  unfold r_combined
  have lz : (a.zip b).length ≤ 1000 := by rw [List.length_zip]; omega
  walk_at "go"
  rw [zipTD_eq]
  refine comp_map (β := Nat × Nat) (f := fun p => D.str (sgS (if p.1 = 63 then p.2 else p.1))) (fun p hp K1 K2 y1 => ?_) (by omega) ?_
  · walk_at "go"
    rw [q_sg]
    by_cases g : p.1 = 63
    · rw [if_pos g] at y1
      rw [brD_pos (by rw [g])]
      walk_at "go"
      exact y1 _ rfl rfl
    · rw [if_neg g] at y1
      rw [brD_neg (fun z => g (sgS_inj.mp z))]
      walk_at "go"
      exact y1 _ rfl rfl
  rw [show ((a.zip b).map fun p => D.str (sgS (if p.1 = 63 then p.2 else p.1))) = ((cmbL a b).map sgS).map D.str by unfold cmbL; rw [List.map_map, List.map_map]; rfl]
  walk_at "go"
  rw [join_sgs, sgs_len]
  refine ⟨?_, hP⟩
  have : (cmbL a b).length = (a.zip b).length := List.length_map _
  show (cmbL a b).length + (cmbL a b).length * 0 ≤ _
  omega

theorem ok_is_less : ∀ as P, as.length = 2 → S_is_less as P → r_is_less { nx := fun δ => P (.v .non) (outsOf 0 as δ), rt := fun rt δ => P rt (outsOf 0 as δ) } (startD 2 as) := by
  intro as P _ h
  unfold S_is_less at h
  obtain ⟨a, b, rfl, hP⟩ := h
  unfold r_is_less
  cases a <;> cases b <;> unfold cD lessO at * <;> walk_at "go" <;> exact hP


theorem ok_smaller : ∀ as P, as.length = 2 → S_smaller as P → r_smaller { nx := fun δ => P (.v .non) (outsOf 0 as δ), rt := fun rt δ => P rt (outsOf 0 as δ) } (startD 2 as) := by
  intro as P _ h
  unfold S_smaller at h
  obtain ⟨a, b, rfl, hP⟩ := h
  unfold r_smaller
  unfold smallO at hP
  walk_at "go"
  refine use_less ?_
  walk_at "go"
  refine br_i (fun g => ?_) (fun g => ?_) <;> walk_at "go"
  · rw [if_pos g] at hP
    exact hP
  · rw [if_neg g] at hP
    exact hP


theorem ok_merged : ∀ as P, as.length = 2 → S_merged as P → r_merged { nx := fun δ => P (.v .non) (outsOf 0 as δ), rt := fun rt δ => P rt (outsOf 0 as δ) } (startD 7 as) := by
  intro as P _ h
  unfold S_merged at h
  obtain ⟨L, R, a, b, rfl, ha, hb, hl, hP⟩ := h
  unfold r_merged
  have c0_ne : ∀ {o : Option Int} {P : D → Prop}, neR (cD o) (.int 0) P = P (.bl (!decide (o = some 0))) := fun {o P} => by
    cases o with
    | none => rfl
    | some x =>
      show P (.bl (!decide (x = 0))) = _
      rw [show decide (x = 0) = decide (some x = some 0) from decide_eq_decide.mpr (by simp)]
  generalize hT : sSeq (sAsgF 3 _) _ = T
  have two : ∀ (E : DE) (a : D), (E.rt = fun rt δ => P rt []) → T E [.frz a, .frz b, .own false (.lst ((nzP L).map pkD)), .no, .no, .no, .no] := fun E a hE => by
    subst hT
    generalize hT2 : sSeq (sAsgF 4 _) _ = T2
    have three : ∀ (E : DE) (a b : D), (E.rt = fun rt δ => P rt []) → T2 E [.frz a, .frz b, .own false (.lst ((nzP L).map pkD)), .own false (.lst ((nzP R).map pkD)), .no, .no, .no] := fun E a b hE => by
      subst hT2
      walk_at "go"
      have h0 : (∀ p ∈ nzP L, p.1.length ≤ 1000) ∧ (∀ p ∈ nzP R, p.1.length ≤ 1000) := ⟨fun p hp => hl.2.2.1 p (List.mem_filter.mp hp).1, fun p hp => hl.2.2.2 p (List.mem_filter.mp hp).1⟩
      have l0 : (nzP L).length ≤ 1000 ∧ (nzP R).length ≤ 1000 := ⟨Nat.le_trans (List.length_filter_le _ _) hl.1, Nat.le_trans (List.length_filter_le _ _) hl.2.1⟩
      have rl : ∀ {p : Pk} {X : List Pk} {w : Option Int}, (∀ q ∈ p :: X, q.1.length ≤ 1000) → ∀ q ∈ restP p X w, q.1.length ≤ 1000 := fun {p X w} h q hq => by
        unfold restP at hq
        split at hq
        · exact h q hq
        · split at hq
          · exact h q (List.mem_cons_of_mem _ hq)
          · rcases List.mem_cons.mp hq with rfl | hq
            · exact h p List.mem_cons_self
            · exact h q (List.mem_cons_of_mem _ hq)
        · exact h q hq
      generalize nzP L = L0 at *
      generalize nzP R = R0 at *
      refine while_by (fun n δ => ∃ (L R acc : List Pk) (s2 s3 s5 : Sl), n = L.length + R.length ∧ (s2 = .own false (.lst (L.map pkD)) ∨ s2 = .frz (.lst (L.map pkD))) ∧ (s3 = .own false (.lst (R.map pkD)) ∨ s3 = .frz (.lst (R.map pkD))) ∧ okS s5 = true ∧ acc ++ mrg L R = mrg L0 R0 ∧ acc.length + L.length + R.length ≤ 2000 ∧ (∀ p ∈ L, p.1.length ≤ 1000) ∧ (∀ p ∈ R, p.1.length ≤ 1000) ∧ δ = [.frz a, .frz b, s2, s3, .own false (.lst (acc.map pkD)), s5, .no]) (fun δ => ∃ s2 s3 s5 : Sl, okS s2 = true ∧ okS s3 = true ∧ okS s5 = true ∧ δ = [.frz a, .frz b, s2, s3, .own false (.lst ((mrg L0 R0).map pkD)), s5, .no]) ⟨_, L0, R0, [], _, _, .no, rfl, .inl rfl, .inl rfl, rfl, rfl, by rw [List.length_nil]; omega, h0.1, h0.2, rfl⟩ ?_ ?_
      · rintro n δ ⟨L, R, acc, s2, s3, s5, hn, e2, e3, e5, hm, hlen, tl, tr, rfl⟩ K nx hK hB
        cases L with
        | nil =>
          rw [mrg_nil, List.append_nil] at hm
          subst hm
          rcases e2 with rfl | rfl <;> rcases e3 with rfl | rfl <;> walk_at "go" <;> exact hB _ ⟨_, _, _, rfl, rfl, e5, rfl⟩
        | cons p L =>
          cases R with
          | nil =>
            rw [mrg_nil2, List.append_nil] at hm
            subst hm
            rw [List.map_cons] at e2
            rcases e2 with rfl | rfl <;> rcases e3 with rfl | rfl <;> walk_at "go" <;> exact hB _ ⟨_, _, _, rfl, rfl, e5, rfl⟩
          | cons q R =>
            obtain ⟨p1, p2⟩ := p
            obtain ⟨q1, q2⟩ := q
            rw [mrg_cons] at hm
            rw [List.map_cons, show pkD (p1, p2) = .tup [.str (ofL p1), cD p2] from rfl] at e2
            rw [List.map_cons, show pkD (q1, q2) = .tup [.str (ofL q1), cD q2] from rfl] at e3
            have tp := tl _ List.mem_cons_self
            have ln : acc.length < 16777216 := by omega
            have r2 := rest_two (p := (p1, p2)) (q := (q1, q2)) (L := L) (R := R)
            have a1 := rl (w := smW p2 q2) tl
            have a2 := rl (w := smW p2 q2) tr
            have z1 : (p1, p2).2 ≠ none → smW p2 q2 ≠ none := by
              cases p2 <;> cases q2 <;> simp [smW, lsO] <;> split <;> simp
            have z2 : (q1, q2).2 ≠ none → smW p2 q2 ≠ none := by
              cases p2 <;> cases q2 <;> simp [smW, lsO] <;> split <;> simp
            rw [List.length_cons, List.length_cons] at hn hlen
            dsimp only at hm r2
            have cp : (.tup [.str (ofL (cmbL p1 q1)), cD (smW p2 q2)] : D) = pkD (cmbL p1 q1, smW p2 q2) := rfl
            generalize hw : smW p2 q2 = w at *
            rcases e2 with rfl | rfl <;> rcases e3 with rfl | rfl <;> walk_at "go"
            all_goals
              refine use_smaller ?_
              walk_at "go"
              rw [smW_O, hw]
              refine use_combined tp ?_
              walk_at "go"
              cases w with
              | none =>
                rw [if_pos rfl] at hm
                rw [brD_pos (by rfl)]
                walk_at "go"
                rw [hE, cp]
                have := hm ▸ hP
                rw [List.map_append] at this
                exact this
              | some w =>
                rw [if_neg nofun] at hm
                rw [brD_neg (by show ¬ (false = true); decide)]
                refine ⟨rfl, rfl, ?_⟩
                rw [show (.lst (.tup [.str (ofL p1), cD p2] :: L.map pkD) : D) = .lst (((p1, p2) :: L).map pkD) from rfl]
                refine use_reduced (w := some w) z1 (by omega) ?_
                walk_at "go"
                rw [show (.lst (.tup [.str (ofL q1), cD q2] :: R.map pkD) : D) = .lst (((q1, q2) :: R).map pkD) from rfl]
                refine use_reduced (w := some w) z2 (by omega) ?_
                walk_at "go"
                have r3 := r2 nofun
                refine hK _ _ ?_ ⟨_, _, acc ++ [(cmbL p1 q1, some w)], _, _, .frz (cD (some w)), rfl, .inr rfl, .inr rfl, rfl, ?_, ?_, a1, a2, ?_⟩
                · omega
                · rw [List.append_assoc]
                  exact hm
                · rw [List.length_append, List.length_singleton]
                  omega
                · rw [List.map_append]
                  rfl
      · rintro δ ⟨s2, s3, s5, e2, e3, e5, rfl⟩
        walk_at "go"
        rw [hE]
        exact hP
    rcases hb with rfl | rfl
    · walk_at "go"
      refine comp_of (p := fun p : Pk => !decide (p.2 = some 0)) (f := pkD) (enc := pkD) (fun p hp K1 K2 y1 y2 => ?_) (by omega) ?_
      · rw [show pkD p = .tup [.str (ofL p.1), cD p.2] from rfl] at y1 ⊢
        walk_at "go"
        rw [c0_ne]
        walk_at "go"
        refine br_i (fun g => ?_) (fun g => ?_) <;> walk_at "go"
        · exact y1 (by simpa using g) _ rfl rfl
        · exact y2 (by simpa using g) _ rfl rfl
      rw [nz_map]
      walk_at "go"
      exact three _ a _ hE
    · walk_at "go"
      refine comp_of (p := fun p : Pk => !decide (p.2 = some 0)) (f := pkD) (enc := pkD) (fun p hp K1 K2 y1 y2 => ?_) (by omega) ?_
      · rw [show pkD p = .tup [.str (ofL p.1), cD p.2] from rfl] at y1 ⊢
        walk_at "go"
        rw [c0_ne]
        walk_at "go"
        refine br_i (fun g => ?_) (fun g => ?_) <;> walk_at "go"
        · exact y1 (by simpa using g) _ rfl rfl
        · exact y2 (by simpa using g) _ rfl rfl
      rw [nz_map]
      walk_at "go"
      exact three _ a _ hE
  rcases ha with rfl | rfl
  · walk_at "go"
    refine comp_of (p := fun p : Pk => !decide (p.2 = some 0)) (f := pkD) (enc := pkD) (fun p hp K1 K2 y1 y2 => ?_) (by omega) ?_
    · rw [show pkD p = .tup [.str (ofL p.1), cD p.2] from rfl] at y1 ⊢
      walk_at "go"
      rw [c0_ne]
      walk_at "go"
      refine br_i (fun g => ?_) (fun g => ?_) <;> walk_at "go"
      · exact y1 (by simpa using g) _ rfl rfl
      · exact y2 (by simpa using g) _ rfl rfl
    rw [nz_map]
    walk_at "go"
    exact two _ _ rfl
  · walk_at "go"
    refine comp_of (p := fun p : Pk => !decide (p.2 = some 0)) (f := pkD) (enc := pkD) (fun p hp K1 K2 y1 y2 => ?_) (by omega) ?_
    · rw [show pkD p = .tup [.str (ofL p.1), cD p.2] from rfl] at y1 ⊢
      walk_at "go"
      rw [c0_ne]
      walk_at "go"
      refine br_i (fun g => ?_) (fun g => ?_) <;> walk_at "go"
      · exact y1 (by simpa using g) _ rfl rfl
      · exact y2 (by simpa using g) _ rfl rfl
    rw [nz_map]
    walk_at "go"
    exact two _ _ rfl


theorem ok_law_less_v2 : ∀ as P, as.length = 2 → S_law_less_v2 as P → r_law_less_v2 { nx := fun δ => P (.v .non) (outsOf 0 as δ), rt := fun rt δ => P rt (outsOf 0 as δ) } (startD 2 as) := by
  intro as P _ h
  unfold S_law_less_v2 at h
  obtain ⟨a, b, rfl, hP⟩ := h
  unfold r_law_less_v2
  cases a <;> cases b <;> unfold cD lessO at * <;> walk_at "go" <;> exact hP


theorem ok_law_at_v2 : ∀ as P, as.length = 2 → S_law_at_v2 as P → r_law_at_v2 { nx := fun δ => P (.v .non) (outsOf 0 as δ), rt := fun rt δ => P rt (outsOf 0 as δ) } (startD 3 as) := by
  intro as P _ h
  unfold S_law_at_v2 at h
  obtain ⟨rows, low, rfl, hP⟩ := h
  unfold r_law_at_v2
  walk_at "go"
  refine loop_by (enc := pkD) (fun rest δ => ∃ s2 : Sl, okS s2 = true ∧ atP rest low = atP rows low ∧ δ = [.frz (.lst (rows.map pkD)), .frz (.int low), s2]) ⟨.no, rfl, rfl, rfl⟩ ?_ ?_
  · rintro ⟨p1, p2⟩ rest δ ⟨s2, e2, h, rfl⟩ K bk hK
    rw [show pkD (p1, p2) = .tup [.str (ofL p1), cD p2] from rfl]
    walk_at "go"
    refine use_law_less_v2 (a := some low) ?_
    walk_at "go"
    rw [show lessO (some low) p2 = lsO (some low) p2 by cases p2 <;> rfl]
    refine br_i (fun g => ?_) (fun g => ?_) <;> walk_at "go"
    · have : atP ((p1, p2) :: rest) low = some p1 := by
        unfold atP
        rw [List.find?_cons, g]
        rfl
      rw [← h, this] at hP
      exact hP
    · refine hK _ ⟨_, rfl, ?_, rfl⟩
      rw [← h]
      unfold atP
      rw [List.find?_cons, Bool.eq_false_iff.mpr g]
  · rintro δ ⟨s2, e2, h, rfl⟩
    walk_at "go"
    rw [← h] at hP
    exact hP

theorem ok_law_sum : ∀ as P, as.length = 2 → S_law_sum as P → r_law_sum { nx := fun δ => P (.v .non) (outsOf 0 as δ), rt := fun rt δ => P rt (outsOf 0 as δ) } (startD 2 as) := by
  intro as P _ h
  unfold S_law_sum at h
  obtain ⟨a, b, rfl, hP⟩ := h
  unfold r_law_sum
  cases a <;> cases b <;> unfold cD plusO at * <;> walk_at "go" <;> exact hP


theorem ok_law_sums : ∀ as P, as.length = 1 → S_law_sums as P → r_law_sums { nx := fun δ => P (.v .non) (outsOf 0 as δ), rt := fun rt δ => P rt (outsOf 0 as δ) } (startD 4 as) := by
  intro as P _ h
  unfold S_law_sums at h
  obtain ⟨L, rfl, hl, hP⟩ := h
  unfold r_law_sums
  have c0_ne : ∀ {o : Option Int} {P : D → Prop}, neR (cD o) (.int 0) P = P (.bl (!decide (o = some 0))) := fun {o P} => by
    cases o with
    | none => rfl
    | some x =>
      show P (.bl (!decide (x = 0))) = _
      rw [show decide (x = 0) = decide (some x = some 0) from decide_eq_decide.mpr (by simp)]
  walk_at "go"
  refine loop_by (enc := pkD) (fun rest δ => ∃ (acc pre : List Pk) (t : Option Int) (s3 : Sl), okS s3 = true ∧ acc.length = pre.length ∧ acc.length + rest.length ≤ 1000 ∧ acc ++ sumsP t rest = sumsP (some 0) L ∧ δ = [.frz (.tup (L.map pkD)), .own false (.lst (acc.map pkD)), .frz (cD t), s3]) ⟨[], [], some 0, .no, rfl, rfl, by rw [List.length_nil]; omega, rfl, rfl⟩ ?_ ?_
  · rintro ⟨p1, p2⟩ rest δ ⟨acc, pre, t, s3, e3, hp, hn, h, rfl⟩ K bk hK
    rw [List.length_cons] at hn
    rw [sumsP] at h
    rw [show pkD (p1, p2) = .tup [.str (ofL p1), cD p2] from rfl]
    walk_at "go"
    rw [c0_ne]
    walk_at "go"
    refine br_i (fun g => ?_) (fun g => ?_) <;> walk_at "go"
    · refine use_lsum ?_
      walk_at "go"
      rw [plusO_S80]
      rw [if_neg (by simpa using g)] at h
      exact hK _ ⟨acc ++ [(p1, pluS t p2)], pre ++ [(p1, p2)], _, _, rfl, by rw [List.length_append, List.length_append, hp]; rfl, by rw [List.length_append, List.length_singleton]; omega, by rw [List.append_assoc]; exact h, by rw [List.map_append]; rfl⟩
    · rw [if_pos (by simpa using g)] at h
      exact hK _ ⟨acc, pre, t, _, rfl, hp, by omega, h, rfl⟩
  · rintro δ ⟨acc, pre, t, s3, e3, hp, hn, h, rfl⟩
    walk_at "go"
    rw [show sumsP t [] = [] from rfl, List.append_nil] at h
    rw [← h] at hP
    exact hP

/-- strictly ascending lists with the same members are the same -/
theorem asc_uniq76 : ∀ {a b : List Int}, a.Pairwise (· < ·) → b.Pairwise (· < ·) → (∀ k, k ∈ a ↔ k ∈ b) → a = b
  | [], [], _, _, _ => rfl
  | [], y :: b, _, _, h => by cases (h y).mpr List.mem_cons_self
  | x :: a, [], _, _, h => by cases (h x).mp List.mem_cons_self
  | x :: a, y :: b, ha, hb, h => by
    rw [List.pairwise_cons] at ha hb
    have e : x = y := by
      rcases List.mem_cons.mp ((h x).mp List.mem_cons_self) with q | q
      · exact q
      rcases List.mem_cons.mp ((h y).mpr List.mem_cons_self) with p | p
      · exact p.symm
      have := ha.1 _ p
      have := hb.1 _ q
      omega
    subst e
    rw [asc_uniq76 ha.2 hb.2 fun k => by
      have hk := h k
      rw [List.mem_cons, List.mem_cons] at hk
      constructor
      · intro q
        rcases hk.mp (.inr q) with z | z
        · have := ha.1 _ q
          omega
        · exact z
      · intro q
        rcases hk.mpr (.inr q) with z | z
        · have := hb.1 _ q
          omega
        · exact z]
theorem sums_nz : ∀ (t : Option Int) (L : List Pk), sumsP t L = sumsP t (nzP L)
  | _, [] => rfl
  | t, p :: L => by
    rw [sumsP]
    unfold nzP
    rw [List.filter_cons]
    by_cases g : p.2 = some 0
    · rw [if_pos g, if_neg (by simp [g]), sums_nz t L]
      rfl
    · rw [if_neg g, if_pos (by simp [g]), sumsP, if_neg g, sums_nz (pluS t p.2) L]
      rfl
theorem pos_ne {o : Option Int} (h : posW o) : o ≠ some 0 := fun e => by
  have := h 0 e
  omega
theorem sums_none : ∀ (L : List Pk), (∀ p ∈ sumsP none L, p.2 = none)
  | [], p, h => by cases h
  | q :: L, p, h => by
    rw [sumsP] at h
    split at h
    · exact sums_none L p h
    · rcases List.mem_cons.mp h with rfl | h
      · rfl
      · exact sums_none L p h
/-- all sums behind a place are greater -/
theorem sums_gt : ∀ (L : List Pk) (lo : Int), (∀ p ∈ L, posW p.2) → ∀ p ∈ sumsP (some lo) L, lsO (some lo) p.2 = true
  | [], lo, _, p, h => by cases h
  | q :: L, lo, hq, p, h => by
    obtain ⟨q1, q2⟩ := q
    have hp := hq _ List.mem_cons_self
    rw [sumsP, if_neg (pos_ne hp)] at h
    rcases q2 with _ | x
    · rcases List.mem_cons.mp h with rfl | h
      · rfl
      · rw [sums_none L p h]
        rfl
    · have hx := hp x rfl
      rcases List.mem_cons.mp h with rfl | h
      · exact decide_eq_true (show lo < lo + x by omega)
      · have := sums_gt L (lo + x) (fun p hp => hq p (List.mem_cons_of_mem _ hp)) p h
        rcases p with ⟨p1, _ | y⟩
        · rfl
        · have : lo + x < y := of_decide_eq_true this
          exact decide_eq_true (show lo < y by omega)
/-- the sums behind a later place -/
theorem sums_step {p : Pk} {L : List Pk} {lo v : Int} (hp : ∀ q ∈ p :: L, posW q.2) (hv : 0 < v) (h : lsO p.2 (some v) = false) : (sumsP (some lo) (p :: L)).filter (fun q => lsO (some (lo + v)) q.2) = sumsP (some (lo + v)) (restP p L (some v)) := by
  obtain ⟨p1, p2⟩ := p
  have h0 := hp _ List.mem_cons_self
  rcases p2 with _ | x
  · have e : restP (p1, none) L (some v) = (p1, none) :: L := rfl
    rw [e, sumsP, if_neg nofun, sumsP, if_neg nofun]
    show List.filter _ ((p1, none) :: sumsP none L) = (p1, none) :: sumsP none L
    rw [List.filter_eq_self]
    intro q hq
    rcases List.mem_cons.mp hq with rfl | hq
    · rfl
    · rw [sums_none L q hq]
      rfl
  · have hxv : ¬ x < v := of_decide_eq_false h
    have hx := h0 x rfl
    have e : restP (p1, some x) L (some v) = if x = v then L else (p1, some (x - v)) :: L := rfl
    rw [e, sumsP, if_neg (pos_ne h0)]
    show List.filter _ ((p1, some (lo + x)) :: sumsP (some (lo + x)) L) = _
    have tail : ∀ q ∈ sumsP (some (lo + x)) L, lsO (some (lo + v)) q.2 = true := fun q hq => by
      have := sums_gt L (lo + x) (fun q hq => hp q (List.mem_cons_of_mem _ hq)) q hq
      rcases q with ⟨q1, _ | y⟩
      · rfl
      · have : lo + x < y := of_decide_eq_true this
        exact decide_eq_true (show lo + v < y by omega)
    by_cases g : x = v
    · subst g
      rw [if_pos rfl, List.filter_cons, if_neg (by
        show ¬ decide (lo + x < lo + x) = true
        simp), List.filter_eq_self.mpr tail]
    · rw [if_neg g, List.filter_cons, if_pos (show lsO (some (lo + v)) (some (lo + x)) = true from decide_eq_true (by omega)), List.filter_eq_self.mpr tail]
      rw [sumsP, if_neg (fun z => by have := Option.some.inj z; omega)]
      show _ = (p1, some (lo + v + (x - v))) :: sumsP (some (lo + v + (x - v))) L
      rw [show lo + v + (x - v) = lo + x by omega]
/-- what the weights of two packings, laid one behind another, have from a place on -/
structure AtPk (SL SR : List Pk) (low : Int) (L R : List Pk) : Prop where
  pl : ∀ p ∈ L, posW p.2
  pr : ∀ p ∈ R, posW p.2
  sl : SL.filter (fun q => lsO (some low) q.2) = sumsP (some low) L
  sr : SR.filter (fun q => lsO (some low) q.2) = sumsP (some low) R
def PtsOf (S : List Pk) (low t : Int) : Prop := ∃ p ∈ S, p.2 = some t ∧ low < t
theorem pts_iff {S : List Pk} {low t : Int} : PtsOf S low t ↔ ∃ p ∈ S.filter (fun q => lsO (some low) q.2), p.2 = some t := by
  constructor
  · rintro ⟨p, h1, h2, h3⟩
    exact ⟨p, List.mem_filter.mpr ⟨h1, by rw [h2]; exact decide_eq_true h3⟩, h2⟩
  · rintro ⟨p, h1, h2⟩
    obtain ⟨h3, h4⟩ := List.mem_filter.mp h1
    rw [h2] at h4
    exact ⟨p, h3, h2, of_decide_eq_true h4⟩
theorem at_head {S : List Pk} {low : Int} {p : Pk} {L : List Pk} (hp : posW p.2) (h : S.filter (fun q => lsO (some low) q.2) = sumsP (some low) (p :: L)) : atP S low = some p.1 := by
  unfold atP
  rw [← List.head?_filter, h, sumsP, if_neg (pos_ne hp)]
  rfl
theorem at_none {S : List Pk} {low : Int} (h : S.filter (fun q => lsO (some low) q.2) = sumsP (some low) []) : atP S low = none := by
  unfold atP
  rw [← List.head?_filter, h]
  rfl
theorem filt_two {S : List Pk} {lo hi : Int} (h : lo ≤ hi) : (S.filter (fun q => lsO (some lo) q.2)).filter (fun q => lsO (some hi) q.2) = S.filter (fun q => lsO (some hi) q.2) := by
  rw [List.filter_filter]
  refine List.filter_congr fun q _ => ?_
  rcases q with ⟨q1, _ | y⟩
  · rfl
  · show (decide (hi < y) && decide (lo < y)) = decide (hi < y)
    by_cases g : hi < y
    · rw [decide_eq_true g, decide_eq_true (show lo < y by omega)]
      rfl
    · rw [decide_eq_false g]
      rfl
theorem AtPk.step {SL SR : List Pk} {low v : Int} {p q : Pk} {L R : List Pk} (a : AtPk SL SR low (p :: L) (q :: R)) (h : smW p.2 q.2 = some v) : AtPk SL SR (low + v) (restP p L (some v)) (restP q R (some v)) := by
  have hv : 0 < v := sm_pos (a.pl _ List.mem_cons_self) (a.pr _ List.mem_cons_self) v h
  have l1 := (sm_le (a := p.2) (b := q.2)).1
  have l2 := (sm_le (a := p.2) (b := q.2)).2
  rw [h] at l1 l2
  refine ⟨rest_pos a.pl l1, rest_pos a.pr l2, ?_, ?_⟩
  · rw [← filt_two (show low ≤ low + v by omega), a.sl]
    exact sums_step a.pl hv l1
  · rw [← filt_two (show low ≤ low + v by omega), a.sr]
    exact sums_step a.pr hv l2
/-- the next point -/
theorem AtPk.next {SL SR : List Pk} {low v : Int} {p q : Pk} {L R : List Pk} (a : AtPk SL SR low (p :: L) (q :: R)) (h : smW p.2 q.2 = some v) : (PtsOf SL low (low + v) ∨ PtsOf SR low (low + v)) ∧ ∀ t, PtsOf SL low t ∨ PtsOf SR low t → low + v ≤ t := by
  have l1 := (sm_le (a := p.2) (b := q.2)).1
  have l2 := (sm_le (a := p.2) (b := q.2)).2
  rw [h] at l1 l2
  have first : ∀ {S : List Pk} {p : Pk} {L : List Pk}, posW p.2 → S.filter (fun q => lsO (some low) q.2) = sumsP (some low) (p :: L) → p.2 = some v → PtsOf S low (low + v) := fun {S p L} hp hs e => by
    refine pts_iff.mpr ⟨(p.1, some (low + v)), ?_, rfl⟩
    rw [hs, sumsP, if_neg (pos_ne hp), e]
    exact List.mem_cons_self
  have least : ∀ {S : List Pk} {p : Pk} {L : List Pk}, (∀ x ∈ p :: L, posW x.2) → S.filter (fun q => lsO (some low) q.2) = sumsP (some low) (p :: L) → lsO p.2 (some v) = false → ∀ t, PtsOf S low t → low + v ≤ t := fun {S p L} hp hs hl t ht => by
    obtain ⟨z, hz, e⟩ := pts_iff.mp ht
    rw [hs, sumsP, if_neg (pos_ne (hp _ List.mem_cons_self))] at hz
    obtain ⟨p1, p2⟩ := p
    rcases p2 with _ | x
    · rcases List.mem_cons.mp hz with rfl | hz
      · cases e
      · rw [sums_none L z hz] at e
        cases e
    · have hxv : ¬ x < v := of_decide_eq_false hl
      rcases List.mem_cons.mp hz with rfl | hz
      · have : low + x = t := Option.some.inj e
        omega
      · have := sums_gt L (low + x) (fun x hx => hp x (List.mem_cons_of_mem _ hx)) z hz
        rw [e] at this
        have : low + x < t := of_decide_eq_true this
        omega
  refine ⟨?_, fun t ht => ht.elim (least a.pl a.sl l1 t) (least a.pr a.sr l2 t)⟩
  have : p.2 = some v ∨ q.2 = some v := by
    unfold smW at h
    split at h
    · exact .inr h
    · exact .inl h
  rcases this with e | e
  · exact .inl (first (a.pl _ List.mem_cons_self) a.sl e)
  · exact .inr (first (a.pr _ List.mem_cons_self) a.sr e)
theorem AtPk.last {SL SR : List Pk} {low : Int} {p q : Pk} {L R : List Pk} (a : AtPk SL SR low (p :: L) (q :: R)) (h : smW p.2 q.2 = none) : ∀ t, ¬ (PtsOf SL low t ∨ PtsOf SR low t) := by
  obtain ⟨p1, p2⟩ := p
  obtain ⟨q1, q2⟩ := q
  have e : p2 = none ∧ q2 = none := by
    rcases p2 with _ | x <;> rcases q2 with _ | y
    · exact ⟨rfl, rfl⟩
    · cases h
    · cases h
    · unfold smW at h
      split at h <;> cases h
  obtain ⟨rfl, rfl⟩ := e
  have no : ∀ {S : List Pk} {r : List Nat} {L : List Pk}, S.filter (fun q => lsO (some low) q.2) = sumsP (some low) ((r, none) :: L) → ∀ t, ¬ PtsOf S low t := fun {S r L} hs t ht => by
    obtain ⟨z, hz, e⟩ := pts_iff.mp ht
    rw [hs, sumsP, if_neg nofun] at hz
    rcases List.mem_cons.mp hz with rfl | hz
    · cases e
    · rw [sums_none L z hz] at e
      cases e
  exact fun t ht => ht.elim (no a.sl t) (no a.sr t)
def mk (part : List Bool) (r : List Nat) : Prop := Fs r ∧ r.length = part.length ∧ ∀ k : Nat, part[k]? = some false → r[k]? = some 63
theorem rest_mk {part : List Bool} {p : Pk} {L : List Pk} {w : Option Int} (h : ∀ q ∈ p :: L, mk part q.1) : ∀ q ∈ restP p L w, mk part q.1 := fun q hq => by
  unfold restP at hq
  split at hq
  · exact h q hq
  · split at hq
    · exact h q (List.mem_cons_of_mem _ hq)
    · rcases List.mem_cons.mp hq with rfl | hq
      · exact h p List.mem_cons_self
      · exact h q (List.mem_cons_of_mem _ hq)
  · exact h q hq
theorem cmb_len {a b : List Nat} (h : a.length = b.length) : (cmbL a b).length = a.length := by
  unfold cmbL
  rw [List.length_map, List.length_zip]
  omega
theorem cmb_at {a b : List Nat} {k : Nat} (h : a.length = b.length) (hk : k < a.length) : (cmbL a b).getD k 63 = if a.getD k 63 = 63 then b.getD k 63 else a.getD k 63 := by
  have hb : k < b.length := by omega
  rw [List.getD_eq_getElem?_getD, List.getElem?_eq_getElem (by rw [cmb_len h]; exact hk), List.getD_eq_getElem?_getD, List.getElem?_eq_getElem hk, List.getD_eq_getElem?_getD, List.getElem?_eq_getElem hb]
  unfold cmbL
  rw [Option.getD_some, List.getElem_map, List.getElem_zip]
  rfl
theorem cmb_part {part : List Bool} {a b : List Nat} {k : Nat} (ha : mk part a) (hb : mk (part.map not) b) (hk : k < part.length) : (cmbL a b).getD k 63 = if part.getD k false then a.getD k 63 else b.getD k 63 := by
  have l1 := ha.2.1
  have l2 := hb.2.1
  rw [List.length_map] at l2
  rw [cmb_at (by omega) (by omega)]
  cases e : part.getD k false with
  | true =>
    simp only [if_true]
    have : b[k]? = some 63 := hb.2.2 k (by
      rw [List.getElem?_map]
      rw [List.getD_eq_getElem?_getD, List.getElem?_eq_getElem hk] at e
      rw [List.getElem?_eq_getElem hk]
      simp only [Option.getD_some] at e
      rw [e]
      rfl)
    rw [List.getD_eq_getElem?_getD (l := b), this]
    by_cases g : a.getD k 63 = 63
    · rw [if_pos g, g]
      rfl
    · rw [if_neg g]
  | false =>
    simp only [Bool.false_eq_true, if_false]
    have : a[k]? = some 63 := ha.2.2 k (by
      rw [List.getD_eq_getElem?_getD, List.getElem?_eq_getElem hk] at e
      rw [List.getElem?_eq_getElem hk]
      simp only [Option.getD_some] at e
      rw [e])
    rw [List.getD_eq_getElem?_getD (l := a), this]
    rfl
theorem ok_law_due_v5 : ∀ as P, as.length = 3 → S_law_due_v5 as P → r_law_due_v5 { nx := fun δ => P (.v .non) (outsOf 0 as δ), rt := fun rt δ => P rt (outsOf 0 as δ) } (startD 14 as) := by
  intro as P _ h
  unfold S_law_due_v5 at h
  obtain ⟨L, R, part, rfl, hL, hR, hl, hP⟩ := h
  unfold r_law_due_v5
  walk_at "go"
  refine use_law_sums (by omega) ?_
  walk_at "go"
  refine use_law_sums (by omega) ?_
  walk_at "go"
  have sl1 := sumsP_len (some 0) L
  have sr1 := sumsP_len (some 0) R
  refine ⟨by omega, ?_⟩
  rw [← List.map_append]
  have nn : ∀ p ∈ sumsP (some 0) L ++ sumsP (some 0) R, True := fun _ _ => trivial
  refine loop_by (enc := pkD) (fun rest δ => ∃ (pre : List Pk) (pts : List Int) (s6 : Sl), okS s6 = true ∧ sumsP (some 0) L ++ sumsP (some 0) R = pre ++ rest ∧ pts.Nodup ∧ pts.length ≤ pre.length ∧ (∀ t, t ∈ pts ↔ ∃ p ∈ pre, p.2 = some t) ∧ δ = [.frz (.tup (L.map pkD)), .frz (.tup (R.map pkD)), .frz (.lst (part.map D.bl)), .frz (.lst ((sumsP (some 0) L).map pkD)), .frz (.lst ((sumsP (some 0) R).map pkD)), .own false (.lst (pts.map D.int)), s6, .no, .no, .no, .no, .no, .no, .no]) ⟨[], [], .no, rfl, rfl, List.nodup_nil, Nat.le_refl _, fun t => ⟨nofun, fun ⟨p, hp, _⟩ => nomatch hp⟩, rfl⟩ ?_ ?_
  · rintro ⟨p1, p2⟩ rest δ ⟨pre, pts, s6, e6, hpre, hnd, hlen, hmem, rfl⟩ K bk hK
    have ll := congrArg List.length hpre
    rw [List.length_append, List.length_append, List.length_cons] at ll
    rw [show pkD (p1, p2) = .tup [.str (ofL p1), cD p2] from rfl]
    cases p2 with
    | none =>
      rw [show cD none = .non from rfl]
      walk_at "go"
      refine hK _ ⟨pre ++ [(p1, none)], pts, _, rfl, by rw [List.append_assoc]; exact hpre, hnd, by rw [List.length_append]; omega, fun t => ?_, rfl⟩
      rw [hmem]
      constructor
      · rintro ⟨p, h1, h2⟩
        exact ⟨p, List.mem_append_left _ h1, h2⟩
      · rintro ⟨p, h1, h2⟩
        rcases List.mem_append.mp h1 with h1 | h1
        · exact ⟨p, h1, h2⟩
        · rw [List.mem_singleton.mp h1] at h2
          cases h2
    | some x =>
      rw [show cD (some x) = .int x from rfl]
      walk_at "go"
      have up : ∀ t, (∃ p ∈ pre ++ [(p1, some x)], p.2 = some t) ↔ (∃ p ∈ pre, p.2 = some t) ∨ t = x := fun t => by
        constructor
        · rintro ⟨p, h1, h2⟩
          rcases List.mem_append.mp h1 with h1 | h1
          · exact .inl ⟨p, h1, h2⟩
          · rw [List.mem_singleton.mp h1] at h2
            exact .inr (Option.some.inj h2).symm
        · rintro (⟨p, h1, h2⟩ | rfl)
          · exact ⟨p, List.mem_append_left _ h1, h2⟩
          · exact ⟨_, List.mem_append_right _ List.mem_cons_self, rfl⟩
      refine br_i (fun g => ?_) (fun g => ?_) <;> walk_at "go"
      · refine hK _ ⟨pre ++ [(p1, some x)], pts ++ [x], _, rfl, by rw [List.append_assoc]; exact hpre, ?_, by simp only [List.length_append, List.length_singleton]; omega, fun t => ?_, by rw [List.map_append]; rfl⟩
        · rw [List.nodup_append]
          exact ⟨hnd, List.nodup_cons.mpr ⟨nofun, List.nodup_nil⟩, fun a ha b hb e => by
            rw [List.mem_singleton.mp hb] at e
            subst e
            exact g ha⟩
        · rw [up, ← hmem, List.mem_append, List.mem_singleton]
      · refine hK _ ⟨pre ++ [(p1, some x)], pts, _, rfl, by rw [List.append_assoc]; exact hpre, hnd, by rw [List.length_append]; omega, fun t => ?_, rfl⟩
        rw [up, ← hmem]
        exact ⟨.inl, fun z => z.elim id fun e => by rw [e]; exact Decidable.not_not.mp g⟩
  · rintro δ ⟨pre, pts, s6, e6, hpre, hnd, hlen, hmem, rfl⟩
    rw [List.append_nil] at hpre
    subst hpre
    walk_at "go"
    refine sorted_ints fun ps perm asc => ?_
    have asc2 : ps.Pairwise (· < ·) := by
      have nd := perm.nodup_iff.mpr hnd
      refine (asc.and nd).imp fun {a b} h => ?_
      have := h.1
      have := h.2
      omega
    have pmem : ∀ t, t ∈ ps ↔ PtsOf (sumsP (some 0) L) 0 t ∨ PtsOf (sumsP (some 0) R) 0 t := fun t => by
      rw [perm.mem_iff, hmem]
      have pos : ∀ (X : List Pk), (∀ p ∈ X, ∀ x, p.2 = some x → 0 ≤ x) → ∀ p ∈ sumsP (some 0) X, p.2 = some t → 0 < t := fun X hX p hp e => by
        rw [sums_nz] at hp
        have := sums_gt (nzP X) 0 (fun q hq x hx => by
          obtain ⟨h1, h2⟩ := List.mem_filter.mp hq
          have := hX q h1 x hx
          have : x ≠ 0 := fun z => by
            subst z
            rw [hx] at h2
            simp at h2
          omega) p hp
        rw [e] at this
        exact of_decide_eq_true this
      constructor
      · rintro ⟨p, h1, h2⟩
        rcases List.mem_append.mp h1 with h1 | h1
        · exact .inl ⟨p, h1, h2, pos L (fun p hp => (hL p hp).2.2.2) p h1 h2⟩
        · exact .inr ⟨p, h1, h2, pos R (fun p hp => (hR p hp).2.2.2) p h1 h2⟩
      · rintro (⟨p, h1, h2, _⟩ | ⟨p, h1, h2, _⟩)
        · exact ⟨p, List.mem_append_left _ h1, h2⟩
        · exact ⟨p, List.mem_append_right _ h1, h2⟩
    have posn : ∀ (X : List Pk), (∀ p ∈ X, ∀ x, p.2 = some x → 0 ≤ x) → ∀ p ∈ nzP X, posW p.2 := fun X hX q hq x hx => by
      obtain ⟨h1, h2⟩ := List.mem_filter.mp hq
      have := hX q h1 x hx
      have : x ≠ 0 := fun z => by
        subst z
        rw [hx] at h2
        simp at h2
      omega
    have self : ∀ (X : List Pk), (∀ p ∈ nzP X, posW p.2) → (sumsP (some 0) X).filter (fun q => lsO (some 0) q.2) = sumsP (some 0) (nzP X) := fun X hX => by
      rw [sums_nz (some 0) X]
      exact List.filter_eq_self.mpr (sums_gt _ 0 hX)
    have a0 : AtPk (sumsP (some 0) L) (sumsP (some 0) R) 0 (nzP L) (nzP R) := ⟨posn L fun p hp => (hL p hp).2.2.2, posn R fun p hp => (hR p hp).2.2.2, self L (posn L fun p hp => (hL p hp).2.2.2), self R (posn R fun p hp => (hR p hp).2.2.2)⟩
    have mkL : ∀ p ∈ nzP L, mk part p.1 := fun p hp => ⟨(hL p (List.mem_filter.mp hp).1).1, (hL p (List.mem_filter.mp hp).1).2.1, (hL p (List.mem_filter.mp hp).1).2.2.1⟩
    have mkR : ∀ p ∈ nzP R, mk (part.map not) p.1 := fun p hp => ⟨(hR p (List.mem_filter.mp hp).1).1, (hR p (List.mem_filter.mp hp).1).2.1, (hR p (List.mem_filter.mp hp).1).2.2.1⟩
    have lps : ps.length ≤ 24 := by
      have := perm.length_eq
      rw [List.length_append] at hlen
      omega
    walk_at "go"
    rw [show ps.map D.int ++ [D.non] = (ps.map some ++ [none]).map cD by rw [List.map_append, List.map_map]; rfl]
    generalize hSL : sumsP (some 0) L = SL at *
    generalize hSR : sumsP (some 0) R = SR at *
    generalize hM : mrg (nzP L) (nzP R) = M at *
    have h00 : [] ++ mrg (nzP L) (nzP R) = M := hM
    generalize nzP L = L0 at *
    generalize nzP R = R0 at *
    refine loop_byB (enc := cD) (fun rest δ => ∃ (due L' R' : List Pk) (low : Int) (s9 s10 s11 s12 : Sl), okS s9 = true ∧ okS s10 = true ∧ okS s11 = true ∧ okS s12 = true ∧ due.length + rest.length ≤ 25 ∧ (((∃ ps : List Int, rest = ps.map some ++ [none] ∧ ps.Pairwise (· < ·) ∧ ∀ t, t ∈ ps ↔ PtsOf SL low t ∨ PtsOf SR low t) ∧ AtPk SL SR low L' R' ∧ due ++ mrg L' R' = M ∧ (∀ p ∈ L', mk part p.1) ∧ ∀ p ∈ R', mk (part.map not) p.1) ∨ (rest = [] ∧ due = M)) ∧
      δ = [.frz (.tup (L.map pkD)), .frz (.tup (R.map pkD)), .frz (.lst (part.map D.bl)), .frz (.lst (SL.map pkD)), .frz (.lst (SR.map pkD)), .own false (.lst (pts.map D.int)), s6, .frz (.tup (due.map pkD)), .frz (.int low), s9, s10, s11, s12, .no]) (fun δ => ∃ (low : Int) (s9 s10 s11 s12 : Sl), okS s9 = true ∧ okS s10 = true ∧ okS s11 = true ∧ okS s12 = true ∧
      δ = [.frz (.tup (L.map pkD)), .frz (.tup (R.map pkD)), .frz (.lst (part.map D.bl)), .frz (.lst (SL.map pkD)), .frz (.lst (SR.map pkD)), .own false (.lst (pts.map D.int)), s6, .frz (.tup (M.map pkD)), .frz (.int low), s9, s10, s11, s12, .no]) ⟨[], L0, R0, 0, .no, .no, .no, .no, rfl, rfl, rfl, rfl, by rw [List.length_append, List.length_map, List.length_nil, List.length_singleton]; omega, .inl ⟨⟨ps, rfl, asc2, pmem⟩, a0, h00, mkL, mkR⟩, rfl⟩ ?_ ?_ ?_
    · rintro o rest δ ⟨due, L', R', low, s9, s10, s11, s12, e9, e10, e11, e12, hlen, hor, rfl⟩ K bk hK hB
      rcases hor with ⟨⟨ps, hrest, asc, pm⟩, hat, hdue, hl2, hr2⟩ | ⟨h, _⟩
      rotate_left
      · cases h
      rw [List.length_cons] at hlen
      have stop : due = M → ∀ (s9 s10 s11 s12 : Sl), okS s9 = true → okS s10 = true → okS s11 = true → okS s12 = true → bk [.frz (.tup (L.map pkD)), .frz (.tup (R.map pkD)), .frz (.lst (part.map D.bl)), .frz (.lst (SL.map pkD)), .frz (.lst (SR.map pkD)), .own false (.lst (pts.map D.int)), s6, .frz (.tup (due.map pkD)), .frz (.int low), s9, s10, s11, s12, .no] := fun e s9 s10 s11 s12 h9 h10 h11 h12 => by
        subst e
        exact hB _ ⟨low, s9, s10, s11, s12, h9, h10, h11, h12, rfl⟩
      walk_at "go"
      refine use_law_at_v2 ?_
      walk_at "go"
      refine use_law_at_v2 ?_
      cases L' with
      | nil =>
        rw [mrg_nil, List.append_nil] at hdue
        rw [at_none hat.sl, show tD none = .non from rfl]
        walk_at "go"
        exact stop hdue _ _ _ _ rfl rfl rfl e12
      | cons p L' =>
        rw [at_head (hat.pl _ List.mem_cons_self) hat.sl, show tD (some p.1) = .str (ofL p.1) from rfl]
        cases R' with
        | nil =>
          rw [mrg_nil2, List.append_nil] at hdue
          rw [at_none hat.sr, show tD none = .non from rfl]
          walk_at "go"
          exact stop hdue _ _ _ _ rfl rfl rfl e12
        | cons q R' =>
          rw [at_head (hat.pr _ List.mem_cons_self) hat.sr, show tD (some q.1) = .str (ofL q.1) from rfl]
          walk_at "go"
          have mp := hl2 _ List.mem_cons_self
          have mq := hr2 _ List.mem_cons_self
          have lq : q.1.length = part.length := by rw [mq.2.1, List.length_map]
          rw [rngD_nats]
          refine comp_map (f := fun k : Nat => D.str (sgS ((cmbL p.1 q.1).getD k 63))) (enc := nI) (fun k hk K1 K2 y1 => ?_) (by rw [List.length_range]; omega) ?_
          · have hk := List.mem_range.mp hk
            have c1 := cmb_part mp mq hk
            have a1 : atI (ofL p.1).cps.toList (k : Int) = some (p.1.getD k 63) := by
              rw [tl_ofL, atI_at (by rw [mp.2.1]; exact hk), List.getD_eq_getElem?_getD, List.getElem?_eq_getElem (by rw [mp.2.1]; exact hk)]
              rfl
            have a2 : atI (ofL q.1).cps.toList (k : Int) = some (q.1.getD k 63) := by
              rw [tl_ofL, atI_at (by rw [lq]; exact hk), List.getD_eq_getElem?_getD, List.getElem?_eq_getElem (by rw [lq]; exact hk)]
              rfl
            have a3 : atI (part.map D.bl) (k : Int) = some (.bl (part.getD k false)) := by
              rw [atI_map, atI_at hk, List.getD_eq_getElem?_getD, List.getElem?_eq_getElem hk]
              rfl
            rw [c1] at y1
            rw [nI_eq]
            walk_at "go"
            rw [a2]
            walk_at "go"
            refine ⟨by rw [ofL_len, lq]; omega, ?_⟩
            rw [a1]
            walk_at "go"
            refine ⟨by rw [ofL_len, mp.2.1]; omega, ?_⟩
            rw [a3, sgn1_eq, sgn1_eq]
            walk_at "go"
            generalize part.getD k false = pb at *
            cases pb with
            | true =>
              simp only [if_true] at y1 ⊢
              walk_at "go"
              refine y1 _ ?_ ?_ <;> rfl
            | false =>
              simp only [Bool.false_eq_true, if_false] at y1 ⊢
              walk_at "go"
              refine y1 _ ?_ ?_ <;> rfl
          rw [show ((List.range part.length).map fun k : Nat => D.str (sgS ((cmbL p.1 q.1).getD k 63))) = ((cmbL p.1 q.1).map sgS).map D.str by
            rw [List.map_map]
            have cl := cmb_len (a := p.1) (b := q.1) (by rw [mp.2.1, lq])
            refine List.ext_getElem (by rw [List.length_map, List.length_map, List.length_range, cl, mp.2.1]) fun k h1 h2 => ?_
            rw [List.getElem_map, List.getElem_map, List.getElem_range, List.getD_eq_getElem?_getD, List.getElem?_eq_getElem (by simpa using h2)]
            rfl]
          walk_at "go"
          rw [join_sgs, sgs_len]
          refine ⟨by
            have cl := cmb_len (a := p.1) (b := q.1) (by rw [mp.2.1, lq])
            show (cmbL p.1 q.1).length + (cmbL p.1 q.1).length * 0 ≤ _
            rw [cl, mp.2.1]
            omega, ?_⟩
          rw [mrg_cons] at hdue
          walk_at "go"
          cases hw : smW p.2 q.2 with
          | none =>
            rw [hw, if_pos rfl] at hdue
            have pnil : ps = [] := List.eq_nil_iff_forall_not_mem.mpr fun t ht => hat.last hw t ((pm t).mp ht)
            subst pnil
            obtain ⟨rfl, rfl⟩ : o = none ∧ rest = [] := by
              cases hrest
              exact ⟨rfl, rfl⟩
            rw [brD_pos (by rfl)]
            have := hK [.frz (.tup (L.map pkD)), .frz (.tup (R.map pkD)), .frz (.lst (part.map D.bl)), .frz (.lst (SL.map pkD)), .frz (.lst (SR.map pkD)), .own false (.lst (pts.map D.int)), s6, .frz (.tup ((due ++ [(cmbL p.1 q.1, none)]).map pkD)), .frz (.int low), .frz (cD none), .frz (.str (ofL p.1)), .frz (.str (ofL q.1)), .frz (.str (ofL (cmbL p.1 q.1))), .no] ⟨due ++ [(cmbL p.1 q.1, none)], [], [], low, _, _, _, _, rfl, rfl, rfl, rfl, by rw [List.length_append, List.length_singleton, List.length_nil]; omega, .inr ⟨rfl, hdue⟩, rfl⟩
            rw [List.map_append] at this
            exact ⟨by decide, by decide, by rw [List.length_map]; omega, rfl, this⟩
          | some v =>
            rw [hw, if_neg nofun] at hdue
            obtain ⟨n1, n2⟩ := hat.next hw
            obtain ⟨ps2, rfl⟩ : ∃ ps2, ps = (low + v) :: ps2 := by
              have hm := (pm _).mpr n1
              cases ps with
              | nil => cases hm
              | cons x ps2 =>
                rw [List.pairwise_cons] at asc
                rcases List.mem_cons.mp hm with e | hm
                · exact ⟨ps2, by rw [e]⟩
                · have h1 := asc.1 _ hm
                  have h2 := n2 x ((pm x).mp List.mem_cons_self)
                  omega
            obtain ⟨rfl, rfl⟩ : o = some (low + v) ∧ rest = ps2.map some ++ [none] := by
              cases hrest
              exact ⟨rfl, rfl⟩
            have hv : 0 < v := sm_pos (hat.pl _ List.mem_cons_self) (hat.pr _ List.mem_cons_self) v hw
            rw [List.pairwise_cons] at asc
            rw [brD_neg (by show ¬ (false = true); decide)]
            have nx := hK [.frz (.tup (L.map pkD)), .frz (.tup (R.map pkD)), .frz (.lst (part.map D.bl)), .frz (.lst (SL.map pkD)), .frz (.lst (SR.map pkD)), .own false (.lst (pts.map D.int)), s6, .frz (.tup ((due ++ [(cmbL p.1 q.1, some v)]).map pkD)), .frz (.int (low + v)), .frz (cD (some (low + v))), .frz (.str (ofL p.1)), .frz (.str (ofL q.1)), .frz (.str (ofL (cmbL p.1 q.1))), .no] ⟨due ++ [(cmbL p.1 q.1, some v)], restP p L' (some v), restP q R' (some v), low + v, _, _, _, _, rfl, rfl, rfl, rfl, by rw [List.length_append, List.length_singleton]; omega, .inl ⟨⟨ps2, rfl, asc.2, fun t => ?_⟩, hat.step hw, by rw [List.append_assoc]; exact hdue, rest_mk hl2, rest_mk hr2⟩, rfl⟩
            rw [List.map_append] at nx
            · rw [show cD (some (low + v)) = .int (low + v) from rfl] at *
              walk_at "go"
              rw [show low + v - low = v by omega]
              exact nx
            · have h1 := pm t
              rw [List.mem_cons] at h1
              have split : ∀ S, PtsOf S (low + v) t ↔ PtsOf S low t ∧ low + v < t := fun S => ⟨fun ⟨x, a, b, c⟩ => ⟨⟨x, a, b, by omega⟩, c⟩, fun ⟨⟨x, a, b, _⟩, c⟩ => ⟨x, a, b, c⟩⟩
              rw [split, split]
              constructor
              · intro h
                have h2 := asc.1 t h
                rcases h1.mp (.inr h) with z | z
                · exact .inl ⟨z, h2⟩
                · exact .inr ⟨z, h2⟩
              · intro h
                have h2 : low + v < t := h.elim (·.2) (·.2)
                rcases h1.mpr (h.elim (fun z => .inl z.1) fun z => .inr z.1) with z | z
                · omega
                · exact z
    · rintro δ ⟨due, L', R', low, s9, s10, s11, s12, e9, e10, e11, e12, hlen, hor, rfl⟩
      rcases hor with ⟨⟨ps, hrest, _⟩, _⟩ | ⟨_, h⟩
      · cases ps <;> cases hrest
      · subst h
        walk_at "go"
        exact hP
    · rintro δ ⟨low, s9, s10, s11, s12, e9, e10, e11, e12, rfl⟩
      walk_at "go"
      exact hP

theorem ok_law_draw : ∀ as P, as.length = 2 → S_law_draw as P → r_law_draw { nx := fun δ => P (.v .non) (outsOf 0 as δ), rt := fun rt δ => P rt (outsOf 0 as δ) } (startD 4 as) := by
  intro as P _ h
  unfold S_law_draw at h
  obtain ⟨c, many, rfl, ⟨ns, i, n, t, rfl, hi⟩, hm, hP⟩ := h
  have fin : ∀ (z : Int) (m : Int), 0 < m → (1 ≤ many → m ≤ many) → 0 ≤ z % m ∧ (1 ≤ many → z % m < many) := fun z m h0 h1 => ⟨Int.emod_nonneg _ (by omega), fun h => Int.lt_of_lt_of_le (Int.emod_lt_of_pos _ h0) (h1 h)⟩
  have tail : ∀ (z : Int) (j t : Int) (v : Sl), 0 ≤ j → (∀ c', IsTape c' → P (.v (.int (z % (if 1 > many then 1 else many)))) [c']) := fun z j t v hj c' hc => by
    obtain ⟨g1, g2⟩ := fin z (if 1 > many then 1 else many) (by split <;> omega) (by intro h; split <;> omega)
    exact hP _ c' hc g1 g2
  have rest : ∀ (z : Int) (j t : Int) (v : Sl), 0 ≤ j → P (.v (.int (z % (if 1 > many then 1 else many)))) [.lst [.lst (ns.map D.int), .int j, .int (z / (if 2 > many then 2 else many)), .int t]] := fun z j t v hj => tail z j t v hj _ (isTape hj)
  unfold r_law_draw tapeC
  walk_at "ev"
  have mn : ∀ m : Int, 0 < m → 0 < if m > many then m else many := fun m h => by split <;> omega
  refine br_i (fun h => ?_) (fun h => ?_)
  · walk_at "ev"
    refine br_i (fun h1 => ?_) (fun h1 => ?_)
    · obtain ⟨x, e1, e2⟩ := atI_in (xs := ns) hi (by simpa using h1)
      have e3 : atI (ns.map D.int) i = some (.int x) := by rw [atI_map, e1]; rfl
      walk_at "ev"
      simp only [e3]
      walk_at "ev"
      refine br_i (fun h2 => ?_) (fun h2 => ?_)
      · walk_at "ev"
        exact ⟨mn 1 (by decide), tail _ 0 0 .no (by omega) _ (isTape (by omega))⟩
      · walk_at "ev"
        exact ⟨⟨mn 2 (by decide), by split <;> omega⟩, mn 1 (by decide), rest _ _ _ .no (by omega)⟩
    · walk_at "ev"
      refine br_i (fun h2 => ?_) (fun h2 => ?_)
      · walk_at "ev"
        exact ⟨mn 1 (by decide), tail _ 0 0 .no (by omega) _ (isTape (by omega))⟩
      · walk_at "ev"
        exact ⟨⟨mn 2 (by decide), by split <;> omega⟩, mn 1 (by decide), rest _ _ _ .no (by omega)⟩
  · walk_at "ev"
    exact ⟨⟨mn 2 (by decide), by split <;> omega⟩, mn 1 (by decide), rest _ _ _ .no hi⟩


theorem ok_law_size_v2 : ∀ as P, as.length = 3 → S_law_size_v2 as P → r_law_size_v2 { nx := fun δ => P (.v .non) (outsOf 0 as δ), rt := fun rt δ => P rt (outsOf 0 as δ) } (startD 4 as) := by
  intro as P _ h
  unfold S_law_size_v2 at h
  obtain ⟨c, u, m, rfl, hc, hu, hP⟩ := h
  unfold r_law_size_v2
  walk_at "go"
  refine use_draw hc (by first | decide | omega) fun a c hc a1 a2 => ?_
  replace a2 := a2 (by first | decide | omega)
  walk_at "go"
  refine use_draw hc (by first | decide | omega) fun b c hc b1 b2 => ?_
  replace b2 := b2 (by first | decide | omega)
  walk_at "go"
  obtain ⟨a, rfl⟩ := Int.eq_ofNat_of_zero_le a1
  obtain ⟨m, rfl⟩ := Int.eq_ofNat_of_zero_le hu.2.2.1
  by_cases g : b = 0
  · rw [if_pos g]
    walk_at "go"
    exact hP m c hc (.inr rfl)
  · rw [if_neg g]
    walk_at "go"
    exact hP a c hc (.inl (by omega))


theorem ok_law_weights_v2 : ∀ as P, as.length = 3 → S_law_weights_v2 as P → r_law_weights_v2 { nx := fun δ => P (.v .non) (outsOf 0 as δ), rt := fun rt δ => P rt (outsOf 0 as δ) } (startD 8 as) := by
  intro as P _ h
  unfold S_law_weights_v2 at h
  obtain ⟨c, part, few, rfl, hc, hp, hP⟩ := h
  unfold r_law_weights_v2
  walk_at "go"
  refine use_law_size_v2 hc (by decide) fun n c hc hn => ?_
  walk_at "go"
  refine loop_rng (fun i δ => ∃ (c : Cn) (ps : List Pk) (s4 s5 s6 : Sl), IsTape c ∧ okS s4 = true ∧ okS s5 = true ∧ okS s6 = true ∧ (∀ p ∈ ps, partP part p) ∧ ps.length = i ∧ δ = [.own true c, .frz (.lst (part.map D.bl)), .frz (.bl few), .frz (.tup (ps.map pkD)), s4, s5, s6, .no]) ⟨c, [], .no, .no, .no, hc, rfl, rfl, rfl, nofun, rfl, rfl⟩ ?_ ?_
  · rintro i δ hi ⟨c, ps, s4, s5, s6, hc, e4, e5, e6, hps, hl, rfl⟩ K bk hK
    walk_at "go"
    refine comp_inv (enc := D.bl) (fun rest acc δ => ∃ (c : Cn) (pre : List Bool) (fs : List Nat), IsTape c ∧ part = pre ++ rest ∧ Fs fs ∧ fs.length = pre.length ∧ (∀ k : Nat, pre[k]? = some false → fs[k]? = some 63) ∧ acc = (fs.map sgS).map D.str ∧ δ = [.own true c, .frz (.lst (part.map D.bl)), .frz (.bl few), .frz (.tup (ps.map pkD)), .frz (.int (i : Int)), s5, s6, .no]) ⟨c, [], [], hc, rfl, nofun, rfl, nofun, rfl, rfl⟩ ?_ ?_
    · rintro b rest acc δ ⟨c, pre, fs, hc, hpart, hf, hl2, hm, rfl, rfl⟩ K1 K2 y1 y2
      have lp := congrArg List.length hpart
      rw [List.length_append, List.length_cons] at lp
      have hm2 : ∀ (x : Nat), (b = false → x = 63) → ∀ k : Nat, (pre ++ [b])[k]? = some false → (fs ++ [x])[k]? = some 63 := fun x hb k hk => by
        rcases Nat.lt_trichotomy k pre.length with h | h | h
        · rw [List.getElem?_append_left h] at hk
          rw [List.getElem?_append_left (by omega)]
          exact hm k hk
        · subst h
          rw [List.getElem?_append_right (Nat.le_refl _), Nat.sub_self] at hk
          rw [List.getElem?_append_right (by omega), hl2, Nat.sub_self]
          rw [hb (by simpa using hk)]
          rfl
        · rw [List.getElem?_eq_none (by rw [List.length_append, List.length_singleton]; omega)] at hk
          cases hk
      have hf2 : ∀ (x : Nat), (x = 48 ∨ x = 49 ∨ x = 63) → Fs (fs ++ [x]) := fun x hx y hy => by
        rcases List.mem_append.mp hy with hy | hy
        · exact hf y hy
        · rw [List.mem_singleton.mp hy]
          exact hx
      have fin : ∀ (x : Nat) (c : Cn), IsTape c → (x = 48 ∨ x = 49 ∨ x = 63) → (b = false → x = 63) → K1 (.str (sgS x)) [.own true c, .frz (.lst (part.map D.bl)), .frz (.bl few), .frz (.tup (ps.map pkD)), .frz (.int (i : Int)), s5, s6, .frz (.bl b)] := fun x c hc hx hb => y1 _ _ (by rw [List.length_map, List.length_map]; omega) rfl ⟨c, pre ++ [b], fs ++ [x], hc, by rw [List.append_assoc]; exact hpart, hf2 x hx, by rw [List.length_append, List.length_append, hl2]; rfl, hm2 x hb, by rw [List.map_append, List.map_append]; rfl, rfl⟩
      walk_at "go"
      refine use_draw hc (by first | decide | omega) fun x c hc x1 x2 => ?_
      replace x2 := x2 (by first | decide | omega)
      walk_at "go"
      obtain ⟨z, hz, hzz⟩ : ∃ z : Nat, atI (Str.ofString "10?").cps.toList x = some z ∧ (z = 48 ∨ z = 49 ∨ z = 63) := by
        rcases (by omega : x = 0 ∨ x = 1 ∨ x = 2) with rfl | rfl | rfl
        · exact ⟨49, rfl, .inr (.inl rfl)⟩
        · exact ⟨48, rfl, .inl rfl⟩
        · exact ⟨63, rfl, .inr (.inr rfl)⟩
      rw [hz]
      walk_at "go"
      rw [sgn1_eq]
      cases b with
      | false =>
        walk_at "go"
        exact fin 63 c hc (.inr (.inr rfl)) fun _ => rfl
      | true =>
        walk_at "go"
        exact fin z c hc hzz nofun
    · rintro acc δ ⟨c, pre, fs, hc, hpart, hf, hl2, hm, rfl, rfl⟩
      rw [List.append_nil] at hpart
      subst hpart
      walk_at "go"
      rw [join_sgs, sgs_len]
      refine ⟨by show fs.length + fs.length * 0 ≤ _; omega, ?_⟩
      walk_at "go"
      refine use_draw hc (by first | decide | omega) fun w c hc w1 w2 => ?_
      replace w2 := w2 (by first | decide | omega)
      walk_at "go"
      have pick7 : ∀ (v : Int) (c : Cn), IsTape c → 0 ≤ v → v < 7 → ∃ o : Option Int, atI [D.int 0, D.int 1, D.int 2, D.int 3, D.non, D.int 1000, D.int w] v = some (cD o) ∧ ∀ x, o = some x → 0 ≤ x := fun v c hc v1 v2 => by
        rcases (by omega : v = 0 ∨ v = 1 ∨ v = 2 ∨ v = 3 ∨ v = 4 ∨ v = 5 ∨ v = 6) with rfl | rfl | rfl | rfl | rfl | rfl | rfl
        · exact ⟨some 0, rfl, fun x h => by cases h; omega⟩
        · exact ⟨some 1, rfl, fun x h => by cases h; omega⟩
        · exact ⟨some 2, rfl, fun x h => by cases h; omega⟩
        · exact ⟨some 3, rfl, fun x h => by cases h; omega⟩
        · exact ⟨none, rfl, nofun⟩
        · exact ⟨some 1000, rfl, fun x h => by cases h; omega⟩
        · exact ⟨some w, rfl, fun x h => by cases h; omega⟩
      have fin : ∀ (o : Option Int) (c : Cn) (s6 : Sl), IsTape c → okS s6 = true → (∀ x, o = some x → 0 ≤ x) → K [.own true c, .frz (.lst (part.map D.bl)), .frz (.bl few), .frz (.tup (ps.map pkD ++ [.tup [.str (ofL fs), cD o]])), .frz (.int (i : Int)), .frz (.str (ofL fs)), s6, .no] := fun o c s6 hc e6 ho => hK _ ⟨c, ps ++ [(fs, o)], _, _, _, hc, rfl, rfl, e6, fun y hy => by
        rcases List.mem_append.mp hy with hy | hy
        · exact hps y hy
        · rw [List.mem_singleton.mp hy]
          exact ⟨hf, hl2, hm, ho⟩, by rw [List.length_append, hl]; rfl, by rw [List.map_append]; rfl⟩
      cases few <;> walk_at "go"
      all_goals
        refine use_draw hc (by first | decide | omega) fun v c hc v1 v2 => ?_
        replace v2 := v2 (by first | decide | omega)
        walk_at "go"
        obtain ⟨o, ho, hoo⟩ := pick7 v c hc v1 (by omega)
        rw [ho, optD_some]
        walk_at "go"
        exact fin o c _ hc rfl hoo
  · rintro δ ⟨c, ps, s4, s5, s6, hc, e4, e5, e6, hps, hl, rfl⟩
    walk_at "go"
    exact hP ps c hc hps (by omega)

theorem ok_law_tape : ∀ as P, as.length = 1 → S_law_tape as P → r_law_tape { nx := fun δ => P (.v .non) (outsOf 0 as δ), rt := fun rt δ => P rt (outsOf 0 as δ) } (startD 3 as) := by
  intro as P _ h
  unfold S_law_tape at h
  obtain ⟨ns, rfl, hl, hP⟩ := h
  unfold r_law_tape
  walk_at "ev"
  refine loop_by (fun _ δ => ∃ (t : Int) (s : Sl), okS s = true ∧ δ = [.frz (.rol (ns.map D.int)), .frz (.int t), s]) ⟨7, .no, rfl, rfl⟩ ?_ ?_
  · rintro m rest δ ⟨t, s, hs, rfl⟩ K bk hk
    walk_at "ev"
    exact ⟨hs, hk _ ⟨_, _, okS_frz, rfl⟩⟩
  · rintro δ ⟨t, s, hs, rfl⟩
    walk_at "ev"
    exact hP t

theorem pl_pk (l : List Pk) (h : l.length ≤ 1000) : Pl 5 (.tup (l.map pkD)) := by
  refine ⟨by rw [List.length_map]; omega, fun d hd => ?_⟩
  obtain ⟨x, _, rfl⟩ := List.mem_map.mp hd
  refine ⟨by show 2 ≤ 1000000; decide, fun e he => ?_⟩
  rcases List.mem_cons.mp he with rfl | he
  · trivial
  · rw [List.mem_singleton.mp he]
    rcases x.2 with _ | y <;> trivial
theorem ok_law_k76 : ∀ as P, as.length = ["script"].length → S_law as P → r_law_k76 { nx := fun δ => P (.v .non) (outsOf 0 as δ), rt := fun rt δ => P rt (outsOf 0 as δ) } (startD 11 as) := by
  intro as P _ h
  obtain ⟨ns, rfl, hl, hP⟩ := h
  unfold r_law_k76
  walk_at "go"
  refine use_tape hl fun c hc => ?_
  walk_at "go"
  refine use_draw hc (by first | decide | omega) fun a c hc a1 a2 => ?_
  replace a2 := a2 (by first | decide | omega)
  walk_at "go"
  obtain ⟨m, hm, m1, m2⟩ : ∃ m : Nat, 1 + a = (m : Int) ∧ 1 ≤ m ∧ m ≤ 8 := ⟨(1 + a).toNat, by omega, by omega, by omega⟩
  rw [hm, rngD_nats]
  refine comp_inv (fun rest acc δ => ∃ (c : Cn) (bs : List Bool), IsTape c ∧ acc = bs.map D.bl ∧ bs.length + rest.length = m ∧ δ = [.frz (.rol (ns.map D.int)), .own false c, .no, .no, .no, .no, .no, .no, .no, .no, .no]) ⟨c, [], hc, rfl, by rw [List.length_range]; exact Nat.zero_add m, rfl⟩ ?_ ?_
  · rintro k rest acc δ ⟨c, bs, hc, rfl, hl2, rfl⟩ K1 K2 y1 y2
    rw [List.length_cons] at hl2
    rw [nI_eq]
    walk_at "go"
    refine use_draw hc (by first | decide | omega) fun x c hc x1 x2 => ?_
    replace x2 := x2 (by first | decide | omega)
    walk_at "go"
    exact y1 _ _ (by rw [List.length_map]; omega) rfl ⟨c, bs ++ [decide (x = 1)], hc, by rw [List.map_append]; rfl, by rw [List.length_append, List.length_singleton]; omega, rfl⟩
  rintro acc δ ⟨c, part, hc, rfl, hl2, rfl⟩
  rw [List.length_nil] at hl2
  walk_at "go"
  refine comp_map (f := fun b : Bool => D.bl (!b)) (enc := D.bl) (fun b hb K1 K2 hK => ?_) (by omega) ?_
  · walk_at "go"
    exact hK _ rfl rfl
  rw [show (part.map fun b : Bool => D.bl (!b)) = (part.map not).map D.bl by rw [List.map_map]; rfl]
  walk_at "go"
  refine use_draw hc (by first | decide | omega) fun x c hc x1 x2 => ?_
  replace x2 := x2 (by first | decide | omega)
  walk_at "go"
  generalize decide (x = 0) = few
  have lp2 : (part.map not).length ≤ 8 := by rw [List.length_map]; omega
  refine use_law_weights_v2 hc (by omega) fun A1 c hc a1 l1 => ?_
  walk_at "go"
  refine use_law_weights_v2 hc (by omega) fun A2 c hc a2 l2 => ?_
  walk_at "go"
  refine use_law_weights_v2 hc lp2 fun B1 c hc b1 k1 => ?_
  walk_at "go"
  refine use_law_weights_v2 hc lp2 fun B2 c hc b2 k2 => ?_
  walk_at "go"
  have one : ∀ (L R : List Pk), (L = A1 ∨ L = A2) → (R = B1 ∨ R = B2) → (∀ p ∈ L, partP part p) ∧ (∀ p ∈ R, partP (part.map not) p) ∧ L.length ≤ 12 ∧ R.length ≤ 12 := fun L R hL hR => by
    rcases hL with rfl | rfl <;> rcases hR with rfl | rfl <;> refine ⟨by assumption, by assumption, by assumption, by assumption⟩
  rw [show [D.tup (A1.map pkD), D.tup (A2.map pkD), D.tup (A1.map pkD)] = [A1, A2, A1].map fun L => D.tup (L.map pkD) from rfl]
  refine loop_by (enc := fun L : List Pk => D.tup (L.map pkD)) (fun rest δ => (∀ L ∈ rest, L = A1 ∨ L = A2) ∧ ∃ s6 s7 s8 : Sl, (s6 = .own false (.lst [.tup (B1.map pkD), .tup (B2.map pkD)]) ∨ s6 = .frz (.lst [.tup (B1.map pkD), .tup (B2.map pkD)])) ∧ okS s7 = true ∧ okS s8 = true ∧ δ = [.frz (.rol (ns.map D.int)), .own false c, .frz (.lst (part.map D.bl)), .frz (.lst ((part.map not).map D.bl)), .frz (.bl few), .own false (.lst [.tup (A1.map pkD), .tup (A2.map pkD)]), s6, s7, s8, .no, .no]) ⟨by simp, _, .no, .no, .inl rfl, rfl, rfl, rfl⟩ ?_ ?_
  · rintro L rest δ ⟨hr, s6, s7, s8, e6, e7, e8, rfl⟩ K bk hK
    have hL := hr L List.mem_cons_self
    have inner : ∀ s8 : Sl, okS s8 = true → loopD [D.tup (B1.map pkD), D.tup (B2.map pkD)] [.frz (.rol (ns.map D.int)), .own false c, .frz (.lst (part.map D.bl)), .frz (.lst ((part.map not).map D.bl)), .frz (.bl few), .own false (.lst [.tup (A1.map pkD), .tup (A2.map pkD)]), .frz (.lst [.tup (B1.map pkD), .tup (B2.map pkD)]), .frz (.tup (L.map pkD)), s8, .no, .no] (BoxL.mk : BoxL (rLoop (dName 8) (sIf (rNot (rTru (rCall 2 S_law_same (rConsA (rCall 2 S_merged (rConsA (rVal (rName 7)) (rConsA (rVal (rName 8)) rNilA))) (rConsA (rCall 3 S_law_due_v5 (rConsA (rVal (rName 7)) (rConsA (rVal (rName 8)) (rConsA (rVal (rName 2)) rNilA)))) rNilA)))))
 (sRet (rC (.bl false)))
 sNext) { nx := K, rt := fun rt δ => P rt [], bk := bk, ct := K })) := fun s8 e8 => by
      rw [show [D.tup (B1.map pkD), D.tup (B2.map pkD)] = [B1, B2].map fun L => D.tup (L.map pkD) from rfl]
      refine loop_by (enc := fun L : List Pk => D.tup (L.map pkD)) (fun rest δ => (∀ R ∈ rest, R = B1 ∨ R = B2) ∧ ∃ s8 : Sl, okS s8 = true ∧ δ = [.frz (.rol (ns.map D.int)), .own false c, .frz (.lst (part.map D.bl)), .frz (.lst ((part.map not).map D.bl)), .frz (.bl few), .own false (.lst [.tup (A1.map pkD), .tup (A2.map pkD)]), .frz (.lst [.tup (B1.map pkD), .tup (B2.map pkD)]), .frz (.tup (L.map pkD)), s8, .no, .no]) ⟨by simp, s8, e8, rfl⟩ ?_ ?_
      · rintro R rest2 δ ⟨hr2, s8, e8, rfl⟩ K2 bk2 hK2
        obtain ⟨o1, o2, o3, o4⟩ := one L R hL (hr2 R List.mem_cons_self)
        have ml : (mrg (nzP L) (nzP R)).length ≤ 1000 := by
          have key : ∀ (n : Nat) (X Y : List Pk), (mrgF n X Y).length ≤ n := fun n => by
            induction n with
            | zero => exact fun X Y => Nat.le_refl _
            | succ n ih =>
              intro X Y
              cases X with
              | nil => rw [mrgF_nil]; exact Nat.zero_le _
              | cons p X =>
                cases Y with
                | nil => rw [mrgF_nil2]; exact Nat.zero_le _
                | cons q Y =>
                  rw [mrgF, List.length_cons]
                  split
                  · exact Nat.succ_le_succ (Nat.zero_le _)
                  · exact Nat.succ_le_succ (ih _ _)
          have := key ((nzP L).length + (nzP R).length) (nzP L) (nzP R)
          have h1 : (nzP L).length ≤ L.length := List.length_filter_le _ _
          have h2 : (nzP R).length ≤ R.length := List.length_filter_le _ _
          unfold mrg
          omega
        walk_at "go"
        refine use_merged (L := L) (R := R) (.inl rfl) (.inl rfl) ⟨by omega, by omega, fun p hp => by rw [(o1 p hp).2.1]; omega, fun p hp => by rw [(o2 p hp).2.1, List.length_map]; omega⟩ ?_
        walk_at "go"
        refine use_law_due_v5 o1 o2 ⟨o3, o4, by omega⟩ ?_
        walk_at "go"
        refine use_same (n := 5) (pl_pk _ ml) ?_
        walk_at "go"
        exact hK2 _ ⟨fun y hy => hr2 y (List.mem_cons_of_mem _ hy), _, rfl, rfl⟩
      · rintro δ ⟨hr2, s8, e8, rfl⟩
        exact hK _ ⟨fun y hy => hr y (List.mem_cons_of_mem _ hy), _, _, _, .inr rfl, rfl, e8, rfl⟩
    rcases e6 with rfl | rfl
    · walk_at "go"
      exact inner _ e8
    · walk_at "go"
      exact inner _ e8
  · rintro δ ⟨hr, s6, s7, s8, e6, e7, e8, rfl⟩
    walk_at "go"
    exact hP

end Dl
namespace Lk76
open PySem PySem.Spec PyProof.Rows L2 Dl
def top (i : Nat) : Stmt := PySem.Challenge.pw_overturn_k76_merged_packings.main.body.getD i (.Pass ⟨0, 0, 0, 0⟩)
abbrev st_law_same : Stmt := top 10
abbrev N_law_same : List Str := ["told", "due", "k"]
theorem sc_law_same : FnScope N_law_same ["told", "due"] (defScope st_law_same) := ⟨rfl, rfl, rfl, by decide +kernel, rfl, by decide +kernel, by decide +kernel⟩
abbrev st_reduced : Stmt := top 5
abbrev N_reduced : List Str := ["packing", "weight", "assignment", "old"]
theorem sc_reduced : FnScope N_reduced ["packing", "weight"] (defScope st_reduced) := ⟨rfl, rfl, rfl, by decide +kernel, rfl, by decide +kernel, by decide +kernel⟩
abbrev st_combined : Stmt := top 4
abbrev N_combined : List Str := ["first", "second", "one", "other"]
theorem sc_combined : FnScope N_combined ["first", "second"] (defScope st_combined) := ⟨rfl, rfl, rfl, by decide +kernel, rfl, by decide +kernel, by decide +kernel⟩
abbrev st_is_less : Stmt := top 1
abbrev N_is_less : List Str := ["first", "second"]
theorem sc_is_less : FnScope N_is_less ["first", "second"] (defScope st_is_less) := ⟨rfl, rfl, rfl, by decide +kernel, rfl, by decide +kernel, by decide +kernel⟩
abbrev st_smaller : Stmt := top 2
abbrev N_smaller : List Str := ["first", "second"]
theorem sc_smaller : FnScope N_smaller ["first", "second"] (defScope st_smaller) := ⟨rfl, rfl, rfl, by decide +kernel, rfl, by decide +kernel, by decide +kernel⟩
abbrev st_merged : Stmt := top 6
abbrev N_merged : List Str := ["first", "second", "left", "right", "found", "weight", "member"]
theorem sc_merged : FnScope N_merged ["first", "second"] (defScope st_merged) := ⟨rfl, rfl, rfl, by decide +kernel, rfl, by decide +kernel, by decide +kernel⟩
abbrev st_law_less_v2 : Stmt := top 13
abbrev N_law_less_v2 : List Str := ["first", "second"]
theorem sc_law_less_v2 : FnScope N_law_less_v2 ["first", "second"] (defScope st_law_less_v2) := ⟨rfl, rfl, rfl, by decide +kernel, rfl, by decide +kernel, by decide +kernel⟩
abbrev st_law_at_v2 : Stmt := top 15
abbrev N_law_at_v2 : List Str := ["rows", "low", "row"]
theorem sc_law_at_v2 : FnScope N_law_at_v2 ["rows", "low"] (defScope st_law_at_v2) := ⟨rfl, rfl, rfl, by decide +kernel, rfl, by decide +kernel, by decide +kernel⟩
abbrev st_law_sum : Stmt := top 12
abbrev N_law_sum : List Str := ["first", "second"]
theorem sc_law_sum : FnScope N_law_sum ["first", "second"] (defScope st_law_sum) := ⟨rfl, rfl, rfl, by decide +kernel, rfl, by decide +kernel, by decide +kernel⟩
abbrev st_law_sums : Stmt := top 14
abbrev N_law_sums : List Str := ["packing", "rows", "total", "pair"]
theorem sc_law_sums : FnScope N_law_sums ["packing"] (defScope st_law_sums) := ⟨rfl, rfl, rfl, by decide +kernel, rfl, by decide +kernel, by decide +kernel⟩
abbrev st_law_due_v5 : Stmt := top 17
abbrev N_law_due_v5 : List Str := ["first", "second", "part", "left", "right", "points", "row", "due", "low", "high", "one", "two", "both", "k"]
theorem sc_law_due_v5 : FnScope N_law_due_v5 ["first", "second", "part"] (defScope st_law_due_v5) := ⟨rfl, rfl, rfl, by decide +kernel, rfl, by decide +kernel, by decide +kernel⟩
abbrev st_law_draw : Stmt := top 9
abbrev N_law_draw : List Str := ["tape", "many", "number", "place"]
theorem sc_law_draw : FnScope N_law_draw ["tape", "many"] (defScope st_law_draw) := ⟨rfl, rfl, rfl, by decide +kernel, rfl, by decide +kernel, by decide +kernel⟩
abbrev st_law_size_v2 : Stmt := top 11
abbrev N_law_size_v2 : List Str := ["tape", "usual", "most", "many"]
theorem sc_law_size_v2 : FnScope N_law_size_v2 ["tape", "usual", "most"] (defScope st_law_size_v2) := ⟨rfl, rfl, rfl, by decide +kernel, rfl, by decide +kernel, by decide +kernel⟩
abbrev st_law_weights_v2 : Stmt := top 16
abbrev N_law_weights_v2 : List Str := ["tape", "sides", "few", "rows", "k", "row", "weight", "side"]
theorem sc_law_weights_v2 : FnScope N_law_weights_v2 ["tape", "sides", "few"] (defScope st_law_weights_v2) := ⟨rfl, rfl, rfl, by decide +kernel, rfl, by decide +kernel, by decide +kernel⟩
abbrev st_law_tape : Stmt := top 8
abbrev N_law_tape : List Str := ["script", "total", "cell"]
theorem sc_law_tape : FnScope N_law_tape ["script"] (defScope st_law_tape) := ⟨rfl, rfl, rfl, by decide +kernel, rfl, by decide +kernel, by decide +kernel⟩
abbrev st_law_k76 : Stmt := top 18
abbrev N_law_k76 : List Str := ["script", "tape", "part", "rest", "few", "firsts", "seconds", "first", "second", "k", "side"]
theorem sc_law_k76 : FnScope N_law_k76 ["script"] (defScope st_law_k76) := ⟨rfl, rfl, rfl, by decide +kernel, rfl, by decide +kernel, by decide +kernel⟩
structure Tx (K : PySem.W.Frag) (w : World) (mg : Str → Option Value) : Prop where
  no : True
section
variable {P : Program} {w : World} {K : PySem.W.Frag} {mg : Str → Option Value} {base : Heap} {h : Heap}
theorem calr_law_same (X : K.In h) (G : h.Ns mainGlobals mg) (B : Blt mg) (T : Tx K w mg) (d : Df K "_law_same" st_law_same)  : ∀ n : Nat, Cal P w K mg base (1 + n) "_law_same" ["told", "due"] (Sn_law_same n)
  | 0 => by unfold Sn_law_same; exact cal_none (ps := ["told", "due"]) X G d (fun _ _ _ _ _ _ us hl => match us, hl with | [_, _], _ => rfl)
  | m + 1 => by
    have C_law_same := calr_law_same X G B T d  m
    exact cal_mk (k := 1 + m) X G d sc_law_same (r_law_same (Sn_law_same m)) (fun _ _ _ _ _ _ us hl => match us, hl with | [_, _], _ => rfl) (fun f cdv A outer s H E hr => (b_cons (s_if (t_cmp op_isN os_isN (e_name 1 (pv 1)) e_non (nomark _))
 (b_one (s_ret (e_cmp op_isN os_isN (e_name 0 (pv 0)) e_non (nomark _))))
 b_nil)
 (b_cons (s_if (t_tru (e_isi (T := "tuple") (by simp) (by rfl) B.isinstance (e_name 1 (pv 1)) (pe_bltn (by rfl) B.tuple PyProof.Rows.boot_tuple rfl)))
 (b_cons (s_if (t_pw (w_or (t_not (t_tru (e_isi (T := "tuple") (by simp) (by rfl) B.isinstance (e_name 0 (pv 0)) (pe_bltn (by rfl) B.tuple PyProof.Rows.boot_tuple rfl)))) (w_or1 (t_cmp (op_ne.or (op_neD hr.units)) os_ne (pe_wk (pe_callB call_len (by rfl) B.len PySem.boot_len (a_cons (e_name 0 (pv 0)) a_nil)) (cb_sound cs_len)) (pe_wk (pe_callB call_len (by rfl) B.len PySem.boot_len (a_cons (e_name 1 (pv 1)) a_nil)) (cb_sound cs_len)) (nomark _)))))
 (b_one (s_ret e_bl))
 b_nil)
 (b_one (s_ret (e_cmp (op_eq.or (op_eqD hr.units)) os_eq (pe_wk (pe_callB call_len (by rfl) B.len PySem.boot_len (a_cons (e_fz (pe_wk (pe_lc (own := [("k", 2)]) rfl sc_law_same.nd (i_rng1 (by rfl) B.range (a_cons (pe_wk (pe_callB call_len (by rfl) B.len PySem.boot_len (a_cons (e_name 1 (pv 1)) a_nil)) (cb_sound cs_len)) a_nil)) (blkOk_by (N := N_law_same) (sc := defScope st_law_same) (by decide +kernel)) (fun _ _ _ _ _ => (g_name (pg_name (i := 2) sc_law_same.nd rfl (by first | exact Or.inl rfl | exact Or.inr rfl)))) (fun _ _ _ _ _ => (pts_one (t_not (t_tru (e_cal C_law_same hr (by first | decide | omega) (by rfl) (a_cons (e_ix ix_seq os_ix (e_name 0 (pv 0)) (e_name 2 (pv 2)) (fun _ _ => rfl)) (a_cons (e_ix ix_seq os_ix (e_name 1 (pv 1)) (e_name 2 (pv 2)) (fun _ _ => rfl)) a_nil))))))) (fun _ _ _ _ _ => (e_val (e_name 2 (pv 2))))) (comp_sound (by decide)))) a_nil)) (cb_sound cs_len)) e_int (nomark _)))))
 b_nil)
 (b_cons (s_if (t_tru (e_isi (T := "str") (by simp) (by rfl) B.isinstance (e_name 1 (pv 1)) (pe_bltn (by rfl) B.str (by decide +kernel) rfl)))
 (b_one (s_ret (e_and (e_isi (T := "str") (by simp) (by rfl) B.isinstance (e_name 0 (pv 0)) (pe_bltn (by rfl) B.str (by decide +kernel) rfl)) (e_one (e_cmp (op_eq.or (op_eqD hr.units)) os_eq (e_name 0 (pv 0)) (e_name 1 (pv 1)) (nomark _))))))
 b_nil)
 (b_one (s_ret (e_and (e_isi (T := "int") (by simp) (by rfl) B.isinstance (e_name 0 (pv 0)) (pe_bltn (by rfl) B.int PyProof.Rows.boot_int rfl)) (e_and (e_cmp (op_eq.or (op_eqD hr.units)) os_eq (e_isi (T := "bool") (by simp) (by rfl) B.isinstance (e_name 0 (pv 0)) (pe_bltn (by rfl) B.bool (by decide +kernel) rfl)) (e_isi (T := "bool") (by simp) (by rfl) B.isinstance (e_name 1 (pv 1)) (pe_bltn (by rfl) B.bool (by decide +kernel) rfl)) (nomark _)) (e_one (e_cmp (op_eq.or (op_eqD hr.units)) os_eq (e_name 0 (pv 0)) (e_name 1 (pv 1)) (nomark _))))))))))) (ok_law_same m)
theorem cal_law_same (X : K.In h) (G : h.Ns mainGlobals mg) (B : Blt mg) (T : Tx K w mg) (d : Df K "_law_same" st_law_same)  : Cal P w K mg base 7 "_law_same" ["told", "due"] S_law_same := calr_law_same X G B T d  6
theorem cal_reduced (X : K.In h) (G : h.Ns mainGlobals mg) (B : Blt mg) (T : Tx K w mg) (d : Df K "reduced" st_reduced)  : Cal P w K mg base 1 "reduced" ["packing", "weight"] S_reduced :=
  cal_mk X G d sc_reduced r_reduced (fun _ _ _ _ _ _ us hl => match us, hl with | [_, _], _ => rfl) (fun f cdv A outer s H E hr => (b_cons (ps_wk (ps_asg (e_ix ix_seq os_ix (e_name 0 (pv 0)) e_int (fun _ _ => rfl)) (g_tup rfl (g_cons (g_name (pg_name (i := 2) sc_reduced.nd rfl (by first | exact Or.inl rfl | exact Or.inr rfl))) (g_cons (g_name (pg_name (i := 3) sc_reduced.nd rfl (by first | exact Or.inl rfl | exact Or.inr rfl))) g_nil)))) tgt_sound)
 (b_cons (s_if (t_cmp op_isN os_isN (e_name 3 (pv 3)) e_non (nomark _))
 (b_one (s_ret (e_val (e_name 0 (pv 0)))))
 b_nil)
 (b_cons (s_if (t_cmp (op_eq.or (op_eqD hr.units)) os_eq (e_name 3 (pv 3)) (e_name 1 (pv 1)) (nomark _))
 (b_one (s_ret (e_fz (pe_wk (e_slF (e_name 0 (pv 0)) (o_some e_int) o_none) (fun _ _ _ h => h)))))
 b_nil)
 (b_one (s_ret (e_fz (pe_wk (e_lst (a_cons (e_tup (a_cons (e_val (e_name 2 (pv 2))) (a_cons (e_op op_sub os_sub (e_name 3 (pv 3)) (e_name 1 (pv 1))) a_nil))) (a_star (e_fz (pe_wk (e_slF (e_name 0 (pv 0)) (o_some e_int) o_none) (fun _ _ _ h => h))) a_nil))) (fun _ _ _ h => h))))))))) ok_reduced
theorem cal_combined (X : K.In h) (G : h.Ns mainGlobals mg) (B : Blt mg) (T : Tx K w mg) (d : Df K "combined" st_combined)  : Cal P w K mg base 1 "combined" ["first", "second"] S_combined :=
  cal_mk X G d sc_combined r_combined (fun _ _ _ _ _ _ us hl => match us, hl with | [_, _], _ => rfl) (fun f cdv A outer s H E hr => (b_one (s_ret (pe_wk (pe_join e_str (e_fz (pe_wk (pe_lc (own := [("one", 2), ("other", 3)]) rfl sc_combined.nd (i_zipT (by rfl) B.zip (a_cons (e_val (e_name 0 (pv 0))) (a_cons (e_val (e_name 1 (pv 1))) a_nil))) (blkOk_by (N := N_combined) (sc := defScope st_combined) (by decide +kernel)) (fun _ _ _ _ _ => (g_tup rfl (g_cons (g_name (pg_name (i := 2) sc_combined.nd rfl (by first | exact Or.inl rfl | exact Or.inr rfl))) (g_cons (g_name (pg_name (i := 3) sc_combined.nd rfl (by first | exact Or.inl rfl | exact Or.inr rfl))) g_nil)))) (fun _ _ _ _ _ => pts_yes) (fun _ _ _ _ _ => (e_val (e_ife (t_cmp (op_eq.or (op_eqD hr.units)) os_eq (e_name 2 (pv 2)) e_str (nomark _)) (e_name 3 (pv 3)) (e_name 2 (pv 2)))))) (comp_sound (by decide))))) (m1_sound ms_join))))) ok_combined
theorem cal_is_less (X : K.In h) (G : h.Ns mainGlobals mg) (B : Blt mg) (T : Tx K w mg) (d : Df K "is_less" st_is_less)  : Cal P w K mg base 1 "is_less" ["first", "second"] S_is_less :=
  cal_mk X G d sc_is_less r_is_less (fun _ _ _ _ _ _ us hl => match us, hl with | [_, _], _ => rfl) (fun f cdv A outer s H E hr => (b_cons (s_if (t_cmp op_isN os_isN (e_name 0 (pv 0)) e_non (nomark _))
 (b_one (s_ret e_bl))
 b_nil)
 (b_one (s_ret (e_or (e_cmp op_isN os_isN (e_name 1 (pv 1)) e_non (nomark _)) (e_one (e_cmp op_lt os_cmp (e_name 0 (pv 0)) (e_name 1 (pv 1)) (nomark _)))))))) ok_is_less
theorem cal_smaller (X : K.In h) (G : h.Ns mainGlobals mg) (B : Blt mg) (T : Tx K w mg) (d : Df K "smaller" st_smaller) (C_is_less : Cal P w K mg base 1 "is_less" ["first", "second"] S_is_less) : Cal P w K mg base 2 "smaller" ["first", "second"] S_smaller :=
  cal_mk X G d sc_smaller r_smaller (fun _ _ _ _ _ _ us hl => match us, hl with | [_, _], _ => rfl) (fun f cdv A outer s H E hr => (b_cons (s_if (t_tru (e_cal C_is_less hr (by decide) (by rfl) (a_cons (e_val (e_name 1 (pv 1))) (a_cons (e_val (e_name 0 (pv 0))) a_nil))))
 (b_one (s_ret (e_val (e_name 1 (pv 1)))))
 b_nil)
 (b_one (s_ret (e_val (e_name 0 (pv 0))))))) ok_smaller
theorem cal_merged (X : K.In h) (G : h.Ns mainGlobals mg) (B : Blt mg) (T : Tx K w mg) (d : Df K "merged" st_merged) (C_reduced : Cal P w K mg base 1 "reduced" ["packing", "weight"] S_reduced) (C_combined : Cal P w K mg base 1 "combined" ["first", "second"] S_combined) (C_smaller : Cal P w K mg base 2 "smaller" ["first", "second"] S_smaller) : Cal P w K mg base 3 "merged" ["first", "second"] S_merged :=
  cal_mk X G d sc_merged r_merged (fun _ _ _ _ _ _ us hl => match us, hl with | [_, _], _ => rfl) (fun f cdv A outer s H E hr => (b_cons (ps_wk (ps_setLc (i := 2) (own := [("member", 6)]) rfl sc_merged.nd rfl rfl (sw_true rfl rfl rfl (by decide +kernel)) (i_seq (e_val (e_name 0 (pv 0)))) (blkOk_by (N := N_merged) (sc := defScope st_merged) (by decide +kernel)) (fun _ _ _ _ _ => (g_name (pg_name (i := 6) sc_merged.nd rfl (by first | exact Or.inl rfl | exact Or.inr rfl)))) (fun _ _ _ _ _ => (pts_one (t_cmp (op_ne.or (op_neD hr.units)) os_ne (e_ix ix_seq os_ix (e_name 6 (pv 6)) e_int (fun _ _ => rfl)) e_int (nomark _)))) (fun _ _ _ _ _ => (e_val (e_name 6 (pv 6))))) (asgF_by (comp_sound (by decide))))
 (b_cons (ps_wk (ps_setLc (i := 3) (own := [("member", 6)]) rfl sc_merged.nd rfl rfl (sw_true rfl rfl rfl (by decide +kernel)) (i_seq (e_val (e_name 1 (pv 1)))) (blkOk_by (N := N_merged) (sc := defScope st_merged) (by decide +kernel)) (fun _ _ _ _ _ => (g_name (pg_name (i := 6) sc_merged.nd rfl (by first | exact Or.inl rfl | exact Or.inr rfl)))) (fun _ _ _ _ _ => (pts_one (t_cmp (op_ne.or (op_neD hr.units)) os_ne (e_ix ix_seq os_ix (e_name 6 (pv 6)) e_int (fun _ _ => rfl)) e_int (nomark _)))) (fun _ _ _ _ _ => (e_val (e_name 6 (pv 6))))) (asgF_by (comp_sound (by decide))))
 (b_cons (ps_wk (ps_set (i := 4) sc_merged.nd rfl (by first | exact Or.inl rfl | exact Or.inr rfl) (e_lst a_nil)) (asgF_by (fun _ _ _ h => h)))
 (b_cons (s_while PassesOwn.never (t_pw (w_and (t_tru (e_name 2 (pv 2))) (w_and1 (t_tru (e_name 3 (pv 3))))))
 (b_cons (ps_wk (ps_set (i := 5) sc_merged.nd rfl (by first | exact Or.inl rfl | exact Or.inr rfl) (e_cal C_smaller hr (by decide) (by rfl) (a_cons (e_ix ix_seq os_ix (e_ix ix_seq os_ix (e_name 2 (pv 2)) e_int (fun _ _ => rfl)) e_int (fun _ _ => rfl)) (a_cons (e_ix ix_seq os_ix (e_ix ix_seq os_ix (e_name 3 (pv 3)) e_int (fun _ _ => rfl)) e_int (fun _ _ => rfl)) a_nil)))) asg_sound)
 (b_cons (ps_wk (ps_expr (pe_bm PySem.F.plainAttrs_list PySem.F.slot_list_append PySem.F.type_list_append mt_append (pv 4) (pa_cons (e_tup (a_cons (e_cal C_combined hr (by decide) (by rfl) (a_cons (e_ix ix_seq os_ix (e_ix ix_seq os_ix (e_name 2 (pv 2)) e_int (fun _ _ => rfl)) e_int (fun _ _ => rfl)) (a_cons (e_ix ix_seq os_ix (e_ix ix_seq os_ix (e_name 3 (pv 3)) e_int (fun _ _ => rfl)) e_int (fun _ _ => rfl)) a_nil))) (a_cons (e_val (e_name 5 (pv 5))) a_nil))) pa_nil))) app_sound)
 (b_cons (s_if (t_cmp op_isN os_isN (e_name 5 (pv 5)) e_non (nomark _))
 (b_one (s_ret (pe_wk (pe_callTy call_tuple_of (by rfl) B.tuple PyProof.Rows.boot_tuple (a_cons (e_name 4 (pv 4)) a_nil)) (cb_sound cs_tuple))))
 b_nil)
 (b_cons (ps_wk (ps_set (i := 2) sc_merged.nd rfl (by first | exact Or.inl rfl | exact Or.inr rfl) (e_cal C_reduced hr (by decide) (by rfl) (a_cons (e_val (e_name 2 (pv 2))) (a_cons (e_val (e_name 5 (pv 5))) a_nil)))) asg_sound)
 (b_one (ps_wk (ps_set (i := 3) sc_merged.nd rfl (by first | exact Or.inl rfl | exact Or.inr rfl) (e_cal C_reduced hr (by decide) (by rfl) (a_cons (e_val (e_name 3 (pv 3))) (a_cons (e_val (e_name 5 (pv 5))) a_nil)))) asg_sound)))))))
 (b_one (s_ret (pe_wk (pe_callTy call_tuple_of (by rfl) B.tuple PyProof.Rows.boot_tuple (a_cons (e_name 4 (pv 4)) a_nil)) (cb_sound cs_tuple))))))))) ok_merged
theorem cal_law_less_v2 (X : K.In h) (G : h.Ns mainGlobals mg) (B : Blt mg) (T : Tx K w mg) (d : Df K "_law_less" st_law_less_v2)  : Cal P w K mg base 1 "_law_less" ["first", "second"] S_law_less_v2 :=
  cal_mk X G d sc_law_less_v2 r_law_less_v2 (fun _ _ _ _ _ _ us hl => match us, hl with | [_, _], _ => rfl) (fun f cdv A outer s H E hr => (b_cons (s_if (t_cmp op_isN os_isN (e_name 0 (pv 0)) e_non (nomark _))
 (b_one (s_ret e_bl))
 b_nil)
 (b_one (s_ret (e_or (e_cmp op_isN os_isN (e_name 1 (pv 1)) e_non (nomark _)) (e_one (e_cmp op_lt os_cmp (e_name 0 (pv 0)) (e_name 1 (pv 1)) (nomark _)))))))) ok_law_less_v2
theorem cal_law_at_v2 (X : K.In h) (G : h.Ns mainGlobals mg) (B : Blt mg) (T : Tx K w mg) (d : Df K "_law_at" st_law_at_v2) (C_law_less_v2 : Cal P w K mg base 1 "_law_less" ["first", "second"] S_law_less_v2) : Cal P w K mg base 2 "_law_at" ["rows", "low"] S_law_at_v2 :=
  cal_mk X G d sc_law_at_v2 r_law_at_v2 (fun _ _ _ _ _ _ us hl => match us, hl with | [_, _], _ => rfl) (fun f cdv A outer s H E hr => (b_cons (s_for PassesOwn.never rfl (i_seq (e_val (e_name 0 (pv 0)))) (g_name (pg_name (i := 2) sc_law_at_v2.nd rfl (by first | exact Or.inl rfl | exact Or.inr rfl)))
 (b_one (s_if (t_tru (e_cal C_law_less_v2 hr (by decide) (by rfl) (a_cons (e_val (e_name 1 (pv 1))) (a_cons (e_ix ix_seq os_ix (e_name 2 (pv 2)) e_int (fun _ _ => rfl)) a_nil))))
 (b_one (s_ret (e_ix ix_seq os_ix (e_name 2 (pv 2)) e_int (fun _ _ => rfl))))
 b_nil)))
 (b_one (s_ret e_non)))) ok_law_at_v2
theorem cal_law_sum (X : K.In h) (G : h.Ns mainGlobals mg) (B : Blt mg) (T : Tx K w mg) (d : Df K "_law_sum" st_law_sum)  : Cal P w K mg base 1 "_law_sum" ["first", "second"] S_law_sum :=
  cal_mk X G d sc_law_sum r_law_sum (fun _ _ _ _ _ _ us hl => match us, hl with | [_, _], _ => rfl) (fun f cdv A outer s H E hr => (b_cons (s_if (t_pw (w_or (t_cmp op_isN os_isN (e_name 0 (pv 0)) e_non (nomark _)) (w_or1 (t_cmp op_isN os_isN (e_name 1 (pv 1)) e_non (nomark _)))))
 (b_one (s_ret e_non))
 b_nil)
 (b_one (s_ret (e_op op_addD os_add (e_name 0 (pv 0)) (e_name 1 (pv 1))))))) ok_law_sum
theorem cal_law_sums (X : K.In h) (G : h.Ns mainGlobals mg) (B : Blt mg) (T : Tx K w mg) (d : Df K "_law_sums" st_law_sums) (C_law_sum : Cal P w K mg base 1 "_law_sum" ["first", "second"] S_law_sum) : Cal P w K mg base 2 "_law_sums" ["packing"] S_law_sums :=
  cal_mk X G d sc_law_sums r_law_sums (fun _ _ _ _ _ _ us hl => match us, hl with | [_], _ => rfl) (fun f cdv A outer s H E hr => (b_cons (ps_wk (ps_set (i := 1) sc_law_sums.nd rfl (by first | exact Or.inl rfl | exact Or.inr rfl) (e_lst a_nil)) (asgF_by (fun _ _ _ h => h)))
 (b_cons (ps_wk (ps_set (i := 2) sc_law_sums.nd rfl (by first | exact Or.inl rfl | exact Or.inr rfl) e_int) asg_sound)
 (b_cons (s_for PassesOwn.never rfl (i_seq (e_val (e_name 0 (pv 0)))) (g_name (pg_name (i := 3) sc_law_sums.nd rfl (by first | exact Or.inl rfl | exact Or.inr rfl)))
 (b_one (s_if (t_cmp (op_ne.or (op_neD hr.units)) os_ne (e_ix ix_seq os_ix (e_name 3 (pv 3)) e_int (fun _ _ => rfl)) e_int (nomark _))
 (b_cons (ps_wk (ps_set (i := 2) sc_law_sums.nd rfl (by first | exact Or.inl rfl | exact Or.inr rfl) (e_cal C_law_sum hr (by decide) (by rfl) (a_cons (e_val (e_name 2 (pv 2))) (a_cons (e_ix ix_seq os_ix (e_name 3 (pv 3)) e_int (fun _ _ => rfl)) a_nil)))) asg_sound)
 (b_one (ps_wk (ps_expr (pe_bm PySem.F.plainAttrs_list PySem.F.slot_list_append PySem.F.type_list_append mt_append (pv 1) (pa_cons (e_tup (a_cons (e_ix ix_seq os_ix (e_name 3 (pv 3)) e_int (fun _ _ => rfl)) (a_cons (e_val (e_name 2 (pv 2))) a_nil))) pa_nil))) app_sound)))
 b_nil)))
 (b_one (s_ret (e_val (e_name 1 (pv 1))))))))) ok_law_sums
theorem cal_law_due_v5 (X : K.In h) (G : h.Ns mainGlobals mg) (B : Blt mg) (T : Tx K w mg) (d : Df K "_law_due" st_law_due_v5) (C_law_at_v2 : Cal P w K mg base 2 "_law_at" ["rows", "low"] S_law_at_v2) (C_law_sums : Cal P w K mg base 2 "_law_sums" ["packing"] S_law_sums) : Cal P w K mg base 3 "_law_due" ["first", "second", "part"] S_law_due_v5 :=
  cal_mk X G d sc_law_due_v5 r_law_due_v5 (fun _ _ _ _ _ _ us hl => match us, hl with | [_, _, _], _ => rfl) (fun f cdv A outer s H E hr => (b_cons (ps_wk (ps_set (i := 3) sc_law_due_v5.nd rfl (by first | exact Or.inl rfl | exact Or.inr rfl) (e_cal C_law_sums hr (by decide) (by rfl) (a_cons (e_val (e_name 0 (pv 0))) a_nil))) asg_sound)
 (b_cons (ps_wk (ps_set (i := 4) sc_law_due_v5.nd rfl (by first | exact Or.inl rfl | exact Or.inr rfl) (e_cal C_law_sums hr (by decide) (by rfl) (a_cons (e_val (e_name 1 (pv 1))) a_nil))) asg_sound)
 (b_cons (ps_wk (ps_set (i := 5) sc_law_due_v5.nd rfl (by first | exact Or.inl rfl | exact Or.inr rfl) (e_lst a_nil)) (asgF_by (fun _ _ _ h => h)))
 (b_cons (s_for PassesOwn.never rfl (i_seq (e_fz (pe_wk (pe_op op_cat (e_name 3 (pv 3)) (e_name 4 (pv 4))) (opF_sound of_cat)))) (g_name (pg_name (i := 6) sc_law_due_v5.nd rfl (by first | exact Or.inl rfl | exact Or.inr rfl)))
 (b_one (s_if (t_pw (w_and (t_cmp op_notN os_isnN (e_ix ix_seq os_ix (e_name 6 (pv 6)) e_int (fun _ _ => rfl)) e_non (nomark _)) (w_and1 (t_cmp op_notIn_seq os_in (e_ix ix_seq os_ix (e_name 6 (pv 6)) e_int (fun _ _ => rfl)) (e_name 5 (pv 5)) (by rfl)))))
 (b_one (ps_wk (ps_expr (pe_bm PySem.F.plainAttrs_list PySem.F.slot_list_append PySem.F.type_list_append mt_append (pv 5) (pa_cons (e_ix ix_seq os_ix (e_name 6 (pv 6)) e_int (fun _ _ => rfl)) pa_nil))) app_sound))
 b_nil)))
 (b_cons (ps_wk (ps_set (i := 7) sc_law_due_v5.nd rfl (by first | exact Or.inl rfl | exact Or.inr rfl) (e_tup a_nil)) asg_sound)
 (b_cons (ps_wk (ps_set (i := 8) sc_law_due_v5.nd rfl (by first | exact Or.inl rfl | exact Or.inr rfl) e_int) asg_sound)
 (b_cons (s_for PassesOwn.never rfl (i_seq (e_fz (pe_wk (pe_op op_cat (e_fz (pe_wk (pe_callB cr_sortedI (by rfl) B.sorted PyProof.Rows.boot_sorted (a_cons (e_name 5 (pv 5)) a_nil)) (cbF_sound cf_sorted))) (e_fz (pe_wk (e_lst (a_cons e_non a_nil)) (fun _ _ _ h => h)))) (opF_sound of_cat)))) (g_name (pg_name (i := 9) sc_law_due_v5.nd rfl (by first | exact Or.inl rfl | exact Or.inr rfl)))
 (b_cons (ps_wk (ps_set (i := 10) sc_law_due_v5.nd rfl (by first | exact Or.inl rfl | exact Or.inr rfl) (e_cal C_law_at_v2 hr (by decide) (by rfl) (a_cons (e_val (e_name 3 (pv 3))) (a_cons (e_val (e_name 8 (pv 8))) a_nil)))) asg_sound)
 (b_cons (ps_wk (ps_set (i := 11) sc_law_due_v5.nd rfl (by first | exact Or.inl rfl | exact Or.inr rfl) (e_cal C_law_at_v2 hr (by decide) (by rfl) (a_cons (e_val (e_name 4 (pv 4))) (a_cons (e_val (e_name 8 (pv 8))) a_nil)))) asg_sound)
 (b_cons (s_if (t_pw (w_or (t_cmp op_isN os_isN (e_name 10 (pv 10)) e_non (nomark _)) (w_or1 (t_cmp op_isN os_isN (e_name 11 (pv 11)) e_non (nomark _)))))
 (b_one s_break)
 b_nil)
 (b_cons (ps_wk (ps_set (i := 12) sc_law_due_v5.nd rfl (by first | exact Or.inl rfl | exact Or.inr rfl) (pe_wk (pe_join e_str (e_fz (pe_wk (pe_lc (own := [("k", 13)]) rfl sc_law_due_v5.nd (i_rng1 (by rfl) B.range (a_cons (pe_wk (pe_callB call_len (by rfl) B.len PySem.boot_len (a_cons (e_name 2 (pv 2)) a_nil)) (cb_sound cs_len)) a_nil)) (blkOk_by (N := N_law_due_v5) (sc := defScope st_law_due_v5) (by decide +kernel)) (fun _ _ _ _ _ => (g_name (pg_name (i := 13) sc_law_due_v5.nd rfl (by first | exact Or.inl rfl | exact Or.inr rfl)))) (fun _ _ _ _ _ => pts_yes) (fun _ _ _ _ _ => (e_ix ix_seq os_ix (e_fz (pe_wk (e_lst (a_cons (e_ix ix_seq os_ix (e_name 11 (pv 11)) (e_name 13 (pv 13)) (fun _ _ => rfl)) (a_cons (e_ix ix_seq os_ix (e_name 10 (pv 10)) (e_name 13 (pv 13)) (fun _ _ => rfl)) a_nil))) (fun _ _ _ h => h))) (pe_wk (pe_callTy call_int1 (by rfl) B.int PyProof.Rows.boot_int (a_cons (e_ix ix_seq os_ix (e_name 2 (pv 2)) (e_name 13 (pv 13)) (fun _ _ => rfl)) a_nil)) (cb_sound cs_int)) (fun _ _ => rfl)))) (comp_sound (by decide))))) (m1_sound ms_join))) asg_sound)
 (b_one (s_if (t_cmp op_isN os_isN (e_name 9 (pv 9)) e_non (nomark _))
 (b_one (ps_wk (ps_set (i := 7) sc_law_due_v5.nd rfl (by first | exact Or.inl rfl | exact Or.inr rfl) (e_op op_addD os_add (e_name 7 (pv 7)) (e_tup (a_cons (e_tup (a_cons (e_val (e_name 12 (pv 12))) (a_cons e_non a_nil))) a_nil)))) asg_sound))
 (b_cons (ps_wk (ps_set (i := 7) sc_law_due_v5.nd rfl (by first | exact Or.inl rfl | exact Or.inr rfl) (e_op op_addD os_add (e_name 7 (pv 7)) (e_tup (a_cons (e_tup (a_cons (e_val (e_name 12 (pv 12))) (a_cons (e_op op_sub os_sub (e_name 9 (pv 9)) (e_name 8 (pv 8))) a_nil))) a_nil)))) asg_sound)
 (b_one (ps_wk (ps_set (i := 8) sc_law_due_v5.nd rfl (by first | exact Or.inl rfl | exact Or.inr rfl) (e_val (e_name 9 (pv 9)))) asg_sound))))))))))
 (b_one (s_ret (e_val (e_name 7 (pv 7))))))))))))) ok_law_due_v5
theorem cal_law_draw (X : K.In h) (G : h.Ns mainGlobals mg) (B : Blt mg) (T : Tx K w mg) (d : Df K "_law_draw" st_law_draw)  : Cal P w K mg base 1 "_law_draw" ["tape", "many"] S_law_draw :=
  cal_mk X G d sc_law_draw r_law_draw (fun _ _ _ _ _ _ us hl => match us, hl with | [_, _], _ => rfl) (fun f cdv A outer s H E hr => (b_cons (s_if (t_cmp (op_eq.or (op_eqD hr.units)) os_eq (e_ix ix_seq os_ix (e_name 0 (pv 0)) e_int (fun _ _ => rfl)) e_int (nomark _))
 (b_cons (ps_wk (ps_set (i := 3) sc_law_draw.nd rfl (by first | exact Or.inl rfl | exact Or.inr rfl) (e_ix ix_seq os_ix (e_name 0 (pv 0)) e_int (fun _ _ => rfl))) asg_sound)
 (b_cons (ps_wk (ps_set (i := 2) sc_law_draw.nd rfl (by first | exact Or.inl rfl | exact Or.inr rfl) e_int) asg_sound)
 (b_cons (s_if (t_cmp op_lt os_cmp (e_name 3 (pv 3)) (pe_wk (pe_callB call_len (by rfl) B.len PySem.boot_len (a_cons (e_ix ix_seq os_ix (e_name 0 (pv 0)) e_int (fun _ _ => rfl)) a_nil)) (cb_sound cs_len)) (nomark _))
 (b_one (ps_wk (ps_set (i := 2) sc_law_draw.nd rfl (by first | exact Or.inl rfl | exact Or.inr rfl) (pe_wk (pe_callB call_abs (by rfl) B.abs PyProof.Rows.boot_abs (a_cons (pe_wk (pe_callTy call_int1 (by rfl) B.int PyProof.Rows.boot_int (a_cons (e_ix ix_seq os_ix (e_ix ix_seq os_ix (e_name 0 (pv 0)) e_int (fun _ _ => rfl)) (e_name 3 (pv 3)) (fun _ _ => rfl)) a_nil)) (cb_sound cs_int)) a_nil)) (cb_sound cs_abs))) asg_sound))
 (b_cons (s_setI 0 (pv 0) (e_op op_mod os_mod (pe_wk (pe_callTy call_int1 (by rfl) B.int PyProof.Rows.boot_int (a_cons (e_op op_addD os_add (e_op op_addD os_add (e_op op_mul os_mul (e_ix ix_seq os_ix (e_name 0 (pv 0)) e_int (fun _ _ => rfl)) e_int) (e_name 3 (pv 3))) e_int) a_nil)) (cb_sound cs_int)) e_int) e_int)
 (b_one (ps_wk (ps_set (i := 2) sc_law_draw.nd rfl (by first | exact Or.inl rfl | exact Or.inr rfl) (e_ix ix_seq os_ix (e_name 0 (pv 0)) e_int (fun _ _ => rfl))) asg_sound))))
 (b_cons (s_setI 0 (pv 0) (e_op op_addD os_add (e_name 3 (pv 3)) e_int) e_int)
 (b_cons (s_if (t_cmp op_lt os_cmp (e_name 2 (pv 2)) (e_op op_pow os_pow e_int e_int) (nomark _))
 (b_cons (ps_wk (ps_set (i := 2) sc_law_draw.nd rfl (by first | exact Or.inl rfl | exact Or.inr rfl) (e_op op_mod os_mod (pe_wk (pe_callTy call_int1 (by rfl) B.int PyProof.Rows.boot_int (a_cons (e_op op_addD os_add (e_op op_addD os_add (e_op op_mul os_mul (e_name 2 (pv 2)) e_int) (e_op op_mul os_mul (e_name 3 (pv 3)) e_int)) e_int) a_nil)) (cb_sound cs_int)) e_int)) asg_sound)
 (b_cons (ps_wk (ps_set (i := 2) sc_law_draw.nd rfl (by first | exact Or.inl rfl | exact Or.inr rfl) (e_op op_mod os_mod (pe_wk (pe_callTy call_int1 (by rfl) B.int PyProof.Rows.boot_int (a_cons (e_op op_mul os_mul (e_name 2 (pv 2)) e_int) a_nil)) (cb_sound cs_int)) e_int)) asg_sound)
 (b_one (s_ret (e_op op_mod os_mod (pe_wk (pe_callTy call_int1 (by rfl) B.int PyProof.Rows.boot_int (a_cons (e_name 2 (pv 2)) a_nil)) (cb_sound cs_int)) (pe_wk (pe_callB (call_max2 rfl) (by rfl) B.max PyProof.Rows.boot_max (a_cons (e_name 1 (pv 1)) (a_cons e_int a_nil))) (cb_sound cs_max2)))))))
 b_nil)
 (b_one (s_setI 0 (pv 0) (e_val (e_name 2 (pv 2))) e_int)))))))
 b_nil)
 (b_cons (ps_wk (ps_set (i := 2) sc_law_draw.nd rfl (by first | exact Or.inl rfl | exact Or.inr rfl) (e_ix ix_seq os_ix (e_name 0 (pv 0)) e_int (fun _ _ => rfl))) asg_sound)
 (b_cons (s_setI 0 (pv 0) (e_op op_fdiv os_div (e_name 2 (pv 2)) (pe_wk (pe_callB (call_max2 rfl) (by rfl) B.max PyProof.Rows.boot_max (a_cons (e_name 1 (pv 1)) (a_cons e_int a_nil))) (cb_sound cs_max2))) e_int)
 (b_one (s_ret (e_op op_mod os_mod (pe_wk (pe_callTy call_int1 (by rfl) B.int PyProof.Rows.boot_int (a_cons (e_name 2 (pv 2)) a_nil)) (cb_sound cs_int)) (pe_wk (pe_callB (call_max2 rfl) (by rfl) B.max PyProof.Rows.boot_max (a_cons (e_name 1 (pv 1)) (a_cons e_int a_nil))) (cb_sound cs_max2))))))))) ok_law_draw
theorem cal_law_size_v2 (X : K.In h) (G : h.Ns mainGlobals mg) (B : Blt mg) (T : Tx K w mg) (d : Df K "_law_size" st_law_size_v2) (C_law_draw : Cal P w K mg base 1 "_law_draw" ["tape", "many"] S_law_draw) : Cal P w K mg base 2 "_law_size" ["tape", "usual", "most"] S_law_size_v2 :=
  cal_mk X G d sc_law_size_v2 r_law_size_v2 (fun _ _ _ _ _ _ us hl => match us, hl with | [_, _, _], _ => rfl) (fun f cdv A outer s H E hr => (b_cons (ps_wk (ps_set (i := 3) sc_law_size_v2.nd rfl (by first | exact Or.inl rfl | exact Or.inr rfl) (e_cal C_law_draw hr (by decide) (by rfl) (a_cons (e_name 0 (pv 0)) (a_cons (e_op op_addD os_add (e_name 1 (pv 1)) e_int) a_nil)))) asg_sound)
 (b_one (s_ret (e_ix ix_seq os_ix (e_fz (pe_wk (e_lst (a_cons (e_val (e_name 3 (pv 3))) (a_cons (e_val (e_name 2 (pv 2))) a_nil))) (fun _ _ _ h => h))) (pe_wk (pe_callTy call_int1 (by rfl) B.int PyProof.Rows.boot_int (a_cons (e_cmp (op_eq.or (op_eqD hr.units)) os_eq (e_cal C_law_draw hr (by decide) (by rfl) (a_cons (e_name 0 (pv 0)) (a_cons e_int a_nil))) e_int (nomark _)) a_nil)) (cb_sound cs_int)) (fun _ _ => rfl)))))) ok_law_size_v2
theorem cal_law_weights_v2 (X : K.In h) (G : h.Ns mainGlobals mg) (B : Blt mg) (T : Tx K w mg) (d : Df K "_law_weights" st_law_weights_v2) (C_law_size_v2 : Cal P w K mg base 2 "_law_size" ["tape", "usual", "most"] S_law_size_v2) (C_law_draw : Cal P w K mg base 1 "_law_draw" ["tape", "many"] S_law_draw) : Cal P w K mg base 3 "_law_weights" ["tape", "sides", "few"] S_law_weights_v2 :=
  cal_mk X G d sc_law_weights_v2 r_law_weights_v2 (fun _ _ _ _ _ _ us hl => match us, hl with | [_, _, _], _ => rfl) (fun f cdv A outer s H E hr => (b_cons (ps_wk (ps_set (i := 3) sc_law_weights_v2.nd rfl (by first | exact Or.inl rfl | exact Or.inr rfl) (e_tup a_nil)) asg_sound)
 (b_cons (s_for PassesOwn.never rfl (i_rng1 (by rfl) B.range (a_cons (e_cal C_law_size_v2 hr (by decide) (by rfl) (a_cons (e_name 0 (pv 0)) (a_cons e_int (a_cons e_int a_nil)))) a_nil)) (g_name (pg_name (i := 4) sc_law_weights_v2.nd rfl (by first | exact Or.inl rfl | exact Or.inr rfl)))
 (b_cons (ps_wk (ps_set (i := 5) sc_law_weights_v2.nd rfl (by first | exact Or.inl rfl | exact Or.inr rfl) (pe_wk (pe_join e_str (e_fz (pe_wk (pe_lc (own := [("side", 7)]) rfl sc_law_weights_v2.nd (i_seq (e_val (e_name 1 (pv 1)))) (blkOk_by (N := N_law_weights_v2) (sc := defScope st_law_weights_v2) (by decide +kernel)) (fun _ _ _ _ _ => (g_name (pg_name (i := 7) sc_law_weights_v2.nd rfl (by first | exact Or.inl rfl | exact Or.inr rfl)))) (fun _ _ _ _ _ => pts_yes) (fun _ _ _ _ _ => (e_ix ix_seq os_ix (e_fz (pe_wk (e_lst (a_cons e_str (a_cons (e_ix ix_seq os_ix e_str (e_cal C_law_draw hr (by decide) (by rfl) (a_cons (e_name 0 (pv 0)) (a_cons e_int a_nil))) (fun _ _ => rfl)) a_nil))) (fun _ _ _ h => h))) (pe_wk (pe_callTy call_int1 (by rfl) B.int PyProof.Rows.boot_int (a_cons (e_name 7 (pv 7)) a_nil)) (cb_sound cs_int)) (fun _ _ => rfl)))) (comp_sound (by decide))))) (m1_sound ms_join))) asg_sound)
 (b_cons (ps_wk (ps_set (i := 6) sc_law_weights_v2.nd rfl (by first | exact Or.inl rfl | exact Or.inr rfl) (e_ix ix_seq os_ix (e_fz (pe_wk (e_lst (a_cons e_int (a_cons e_int (a_cons e_int (a_cons e_int (a_cons e_non (a_cons e_int (a_cons (e_cal C_law_draw hr (by decide) (by rfl) (a_cons (e_name 0 (pv 0)) (a_cons e_int a_nil))) a_nil)))))))) (fun _ _ _ h => h))) (e_cal C_law_draw hr (by decide) (by rfl) (a_cons (e_name 0 (pv 0)) (a_cons (e_ix ix_seq os_ix (e_fz (pe_wk (e_lst (a_cons e_int (a_cons e_int a_nil))) (fun _ _ _ h => h))) (pe_wk (pe_callTy call_int1 (by rfl) B.int PyProof.Rows.boot_int (a_cons (e_name 2 (pv 2)) a_nil)) (cb_sound cs_int)) (fun _ _ => rfl)) a_nil))) (fun _ _ => rfl))) asg_sound)
 (b_one (ps_wk (ps_set (i := 3) sc_law_weights_v2.nd rfl (by first | exact Or.inl rfl | exact Or.inr rfl) (e_op op_addD os_add (e_name 3 (pv 3)) (e_tup (a_cons (e_tup (a_cons (e_val (e_name 5 (pv 5))) (a_cons (e_val (e_name 6 (pv 6))) a_nil))) a_nil)))) asg_sound)))))
 (b_one (s_ret (e_val (e_name 3 (pv 3)))))))) ok_law_weights_v2
theorem cal_law_tape (X : K.In h) (G : h.Ns mainGlobals mg) (B : Blt mg) (T : Tx K w mg) (d : Df K "_law_tape" st_law_tape)  : Cal P w K mg base 1 "_law_tape" ["script"] S_law_tape :=
  cal_mk X G d sc_law_tape r_law_tape (fun _ _ _ _ _ _ us hl => match us, hl with | [_], _ => rfl) (fun f cdv A outer s H E hr => (b_cons (ps_wk (ps_set (i := 1) sc_law_tape.nd rfl (by first | exact Or.inl rfl | exact Or.inr rfl) e_int) asg_sound)
 (b_cons (s_for PassesOwn.never rfl (i_seq (e_val (e_name 0 (pv 0)))) (g_name (pg_name (i := 2) sc_law_tape.nd rfl (by first | exact Or.inl rfl | exact Or.inr rfl)))
 (b_one (ps_wk (ps_set (i := 1) sc_law_tape.nd rfl (by first | exact Or.inl rfl | exact Or.inr rfl) (e_op op_mod os_mod (pe_wk (pe_callTy call_int1 (by rfl) B.int PyProof.Rows.boot_int (a_cons (e_op op_addD os_add (e_op op_mul os_mul (e_name 1 (pv 1)) e_int) (pe_wk (pe_callB call_abs (by rfl) B.abs PyProof.Rows.boot_abs (a_cons (pe_wk (pe_callTy call_int1 (by rfl) B.int PyProof.Rows.boot_int (a_cons (e_name 2 (pv 2)) a_nil)) (cb_sound cs_int)) a_nil)) (cb_sound cs_abs))) a_nil)) (cb_sound cs_int)) e_int)) asg_sound)))
 (b_one (s_retF (pe_wk (e_lst (a_cons (e_fz (pe_wk (pe_callTy (call_list_of.or (cr_listStr rfl)) (by rfl) B.list PyProof.Rows.boot_list (a_cons (e_name 0 (pv 0)) a_nil)) (cbF_sound cf_list2))) (a_cons e_int (a_cons e_int (a_cons (e_val (e_name 1 (pv 1))) a_nil))))) (fun _ _ _ h => h))))))) ok_law_tape
theorem all {fa : Addr} (X : K.In h) (G : h.Ns mainGlobals mg) (hfa : mg "law" = some (.ref fa)) (B : Blt mg) (T : Tx K w mg) (d_law_same : Df K "_law_same" st_law_same) (d_reduced : Df K "reduced" st_reduced) (d_combined : Df K "combined" st_combined) (d_is_less : Df K "is_less" st_is_less) (d_smaller : Df K "smaller" st_smaller) (d_merged : Df K "merged" st_merged) (d_law_less_v2 : Df K "_law_less" st_law_less_v2) (d_law_at_v2 : Df K "_law_at" st_law_at_v2) (d_law_sum : Df K "_law_sum" st_law_sum) (d_law_sums : Df K "_law_sums" st_law_sums) (d_law_due_v5 : Df K "_law_due" st_law_due_v5) (d_law_draw : Df K "_law_draw" st_law_draw) (d_law_size_v2 : Df K "_law_size" st_law_size_v2) (d_law_weights_v2 : Df K "_law_weights" st_law_weights_v2) (d_law_tape : Df K "_law_tape" st_law_tape) (d_law_k76 : Df K "law" st_law_k76) :
    ∃ fd : FuncData, (∀ (s : Shared) (u : Value), BindsTo s fd ⟨[u], []⟩ [("script", u)]) ∧ ∀ base : Heap, K.In base → base.Ns mainGlobals mg → FnOk P w K mg base CX0 8 fa fd ["script"] (spD K 1 S_law) :=
  law_end X G d_law_k76 hfa sc_law_k76 (fun _ _ _ _ _ _ _ _ => .of_eq rfl) (fun base kb gb f cdv A outer s H E hr => by
    have C_law_same : Cal P w K mg base 7 "_law_same" ["told", "due"] S_law_same := cal_law_same X G B T d_law_same 
    have C_reduced : Cal P w K mg base 1 "reduced" ["packing", "weight"] S_reduced := cal_reduced X G B T d_reduced 
    have C_combined : Cal P w K mg base 1 "combined" ["first", "second"] S_combined := cal_combined X G B T d_combined 
    have C_is_less : Cal P w K mg base 1 "is_less" ["first", "second"] S_is_less := cal_is_less X G B T d_is_less 
    have C_smaller : Cal P w K mg base 2 "smaller" ["first", "second"] S_smaller := cal_smaller X G B T d_smaller C_is_less
    have C_merged : Cal P w K mg base 3 "merged" ["first", "second"] S_merged := cal_merged X G B T d_merged C_reduced C_combined C_smaller
    have C_law_less_v2 : Cal P w K mg base 1 "_law_less" ["first", "second"] S_law_less_v2 := cal_law_less_v2 X G B T d_law_less_v2 
    have C_law_at_v2 : Cal P w K mg base 2 "_law_at" ["rows", "low"] S_law_at_v2 := cal_law_at_v2 X G B T d_law_at_v2 C_law_less_v2
    have C_law_sum : Cal P w K mg base 1 "_law_sum" ["first", "second"] S_law_sum := cal_law_sum X G B T d_law_sum 
    have C_law_sums : Cal P w K mg base 2 "_law_sums" ["packing"] S_law_sums := cal_law_sums X G B T d_law_sums C_law_sum
    have C_law_due_v5 : Cal P w K mg base 3 "_law_due" ["first", "second", "part"] S_law_due_v5 := cal_law_due_v5 X G B T d_law_due_v5 C_law_at_v2 C_law_sums
    have C_law_draw : Cal P w K mg base 1 "_law_draw" ["tape", "many"] S_law_draw := cal_law_draw X G B T d_law_draw 
    have C_law_size_v2 : Cal P w K mg base 2 "_law_size" ["tape", "usual", "most"] S_law_size_v2 := cal_law_size_v2 X G B T d_law_size_v2 C_law_draw
    have C_law_weights_v2 : Cal P w K mg base 3 "_law_weights" ["tape", "sides", "few"] S_law_weights_v2 := cal_law_weights_v2 X G B T d_law_weights_v2 C_law_size_v2 C_law_draw
    have C_law_tape : Cal P w K mg base 1 "_law_tape" ["script"] S_law_tape := cal_law_tape X G B T d_law_tape 
    exact (b_cons (ps_wk (ps_set (i := 1) sc_law_k76.nd rfl (by first | exact Or.inl rfl | exact Or.inr rfl) (e_calF C_law_tape hr (by decide) (by rfl) (a_cons (e_val (e_name 0 (pv 0))) a_nil))) (asgF_by (fun _ _ _ h => h)))
 (b_cons (ps_wk (ps_setLc (i := 2) (own := [("k", 9)]) rfl sc_law_k76.nd rfl rfl (sw_true rfl rfl rfl (by decide +kernel)) (i_rng1 (by rfl) B.range (a_cons (e_op op_addD os_add e_int (e_cal C_law_draw hr (by decide) (by rfl) (a_cons (e_name 1 (pv 1)) (a_cons e_int a_nil)))) a_nil)) (blkOk_by (N := N_law_k76) (sc := defScope st_law_k76) (by decide +kernel)) (fun _ _ _ _ _ => (g_name (pg_name (i := 9) sc_law_k76.nd rfl (by first | exact Or.inl rfl | exact Or.inr rfl)))) (fun _ _ _ _ _ => pts_yes) (fun _ _ _ _ _ => (e_cmp (op_eq.or (op_eqD hr.units)) os_eq (e_cal C_law_draw hr (by decide) (by rfl) (a_cons (e_name 1 (pv 1)) (a_cons e_int a_nil))) e_int (nomark _)))) (asgF_by (comp_sound (by decide))))
 (b_cons (ps_wk (ps_setLc (i := 3) (own := [("side", 10)]) rfl sc_law_k76.nd rfl rfl (sw_true rfl rfl rfl (by decide +kernel)) (i_seq (e_val (e_name 2 (pv 2)))) (blkOk_by (N := N_law_k76) (sc := defScope st_law_k76) (by decide +kernel)) (fun _ _ _ _ _ => (g_name (pg_name (i := 10) sc_law_k76.nd rfl (by first | exact Or.inl rfl | exact Or.inr rfl)))) (fun _ _ _ _ _ => pts_yes) (fun _ _ _ _ _ => (e_not (e_name 10 (pv 10))))) (asgF_by (comp_sound (by decide))))
 (b_cons (ps_wk (ps_set (i := 4) sc_law_k76.nd rfl (by first | exact Or.inl rfl | exact Or.inr rfl) (e_cmp (op_eq.or (op_eqD hr.units)) os_eq (e_cal C_law_draw hr (by decide) (by rfl) (a_cons (e_name 1 (pv 1)) (a_cons e_int a_nil))) e_int (nomark _))) asg_sound)
 (b_cons (ps_wk (ps_set (i := 5) sc_law_k76.nd rfl (by first | exact Or.inl rfl | exact Or.inr rfl) (e_lst (a_cons (e_cal C_law_weights_v2 hr (by decide) (by rfl) (a_cons (e_name 1 (pv 1)) (a_cons (e_val (e_name 2 (pv 2))) (a_cons (e_val (e_name 4 (pv 4))) a_nil)))) (a_cons (e_cal C_law_weights_v2 hr (by decide) (by rfl) (a_cons (e_name 1 (pv 1)) (a_cons (e_val (e_name 2 (pv 2))) (a_cons (e_val (e_name 4 (pv 4))) a_nil)))) a_nil)))) (asgF_by (fun _ _ _ h => h)))
 (b_cons (ps_wk (ps_set (i := 6) sc_law_k76.nd rfl (by first | exact Or.inl rfl | exact Or.inr rfl) (e_lst (a_cons (e_cal C_law_weights_v2 hr (by decide) (by rfl) (a_cons (e_name 1 (pv 1)) (a_cons (e_val (e_name 3 (pv 3))) (a_cons (e_val (e_name 4 (pv 4))) a_nil)))) (a_cons (e_cal C_law_weights_v2 hr (by decide) (by rfl) (a_cons (e_name 1 (pv 1)) (a_cons (e_val (e_name 3 (pv 3))) (a_cons (e_val (e_name 4 (pv 4))) a_nil)))) a_nil)))) (asgF_by (fun _ _ _ h => h)))
 (b_cons (s_for PassesOwn.never rfl (i_seq (e_fz (pe_wk (e_lst (a_cons (e_ix ix_seq os_ix (e_name 5 (pv 5)) e_int (fun _ _ => rfl)) (a_cons (e_ix ix_seq os_ix (e_name 5 (pv 5)) e_int (fun _ _ => rfl)) (a_cons (e_ix ix_seq os_ix (e_name 5 (pv 5)) e_int (fun _ _ => rfl)) a_nil)))) (fun _ _ _ h => h)))) (g_name (pg_name (i := 7) sc_law_k76.nd rfl (by first | exact Or.inl rfl | exact Or.inr rfl)))
 (b_one (s_for PassesOwn.never rfl (i_seq (e_val (e_name 6 (pv 6)))) (g_name (pg_name (i := 8) sc_law_k76.nd rfl (by first | exact Or.inl rfl | exact Or.inr rfl)))
 (b_one (s_if (t_not (t_tru (e_cal C_law_same hr (by decide) (by rfl) (a_cons (e_cal C_merged hr (by decide) (by rfl) (a_cons (e_val (e_name 7 (pv 7))) (a_cons (e_val (e_name 8 (pv 8))) a_nil))) (a_cons (e_cal C_law_due_v5 hr (by decide) (by rfl) (a_cons (e_val (e_name 7 (pv 7))) (a_cons (e_val (e_name 8 (pv 8))) (a_cons (e_val (e_name 2 (pv 2))) a_nil)))) a_nil)))))
 (b_one (s_ret e_bl))
 b_nil)))))
 (b_one (s_ret e_bl)))))))))) ok_law_k76
end
end Lk76
open PySem PySem.W PyProof.Rows in
set_option maxRecDepth 100000 in
set_option maxHeartbeats 0 in
theorem PySem.Challenge.cw_overturn_k76_merged_packings_holds : PySem.Challenge.rw_overturn_k76_merged_packings.Holds := by
  w_on; o_law; k_head; (case hw => w_witness2)
  k_fill
  refine Dl.walk (l := PySem.Challenge.rw_overturn_k76_merged_packings) (k := 8) (by decide) ?T rfl rfl (fun w h Y => PySem.W.kIn_of Y) ?F
  case T => exact fun _ => rfl
  case F =>
    intro w mg fa h KX G hmg
    refine' Lk76.all KX G hmg (Dl.blt_mk KX G ?z1 ?z2 ?z3 ?z4 ?z5 ?z6 ?z7 ?z8 ?z9 ?z10 ?z11 ?z12 ?z13 ?z14 ?z15 ?z16 ?z17 ?z18 ?z19) ⟨trivial⟩ (Dl.df_mk ?a0 ?l0 ?c0 ?k0) (Dl.df_mk ?a1 ?l1 ?c1 ?k1) (Dl.df_mk ?a2 ?l2 ?c2 ?k2) (Dl.df_mk ?a3 ?l3 ?c3 ?k3) (Dl.df_mk ?a4 ?l4 ?c4 ?k4) (Dl.df_mk ?a5 ?l5 ?c5 ?k5) (Dl.df_mk ?a6 ?l6 ?c6 ?k6) (Dl.df_mk ?a7 ?l7 ?c7 ?k7) (Dl.df_mk ?a8 ?l8 ?c8 ?k8) (Dl.df_mk ?a9 ?l9 ?c9 ?k9) (Dl.df_mk ?a10 ?l10 ?c10 ?k10) (Dl.df_mk ?a11 ?l11 ?c11 ?k11) (Dl.df_mk ?a12 ?l12 ?c12 ?k12) (Dl.df_mk ?a13 ?l13 ?c13 ?k13) (Dl.df_mk ?a14 ?l14 ?c14 ?k14) (Dl.df_mk ?a15 ?l15 ?c15 ?k15)
    (case z1 => k_is)
    (case z2 => k_is)
    (case z3 => k_is)
    (case z4 => k_is)
    (case z5 => k_is)
    (case z6 => k_is)
    (case z7 => k_is)
    (case z8 => k_is)
    (case z9 => k_is)
    (case z10 => k_is)
    (case z11 => k_is)
    (case z12 => k_is)
    (case z13 => k_is)
    (case z14 => k_is)
    (case z15 => k_is)
    (case z16 => k_is)
    (case z17 => k_is)
    (case z18 => k_is)
    (case z19 => k_is)
    (case a0 => k_is)
    (case l0 => k_is)
    (case c0 => k_is)
    (case k0 => k_is)
    (case a1 => k_is)
    (case l1 => k_is)
    (case c1 => k_is)
    (case k1 => k_is)
    (case a2 => k_is)
    (case l2 => k_is)
    (case c2 => k_is)
    (case k2 => k_is)
    (case a3 => k_is)
    (case l3 => k_is)
    (case c3 => k_is)
    (case k3 => k_is)
    (case a4 => k_is)
    (case l4 => k_is)
    (case c4 => k_is)
    (case k4 => k_is)
    (case a5 => k_is)
    (case l5 => k_is)
    (case c5 => k_is)
    (case k5 => k_is)
    (case a6 => k_is)
    (case l6 => k_is)
    (case c6 => k_is)
    (case k6 => k_is)
    (case a7 => k_is)
    (case l7 => k_is)
    (case c7 => k_is)
    (case k7 => k_is)
    (case a8 => k_is)
    (case l8 => k_is)
    (case c8 => k_is)
    (case k8 => k_is)
    (case a9 => k_is)
    (case l9 => k_is)
    (case c9 => k_is)
    (case k9 => k_is)
    (case a10 => k_is)
    (case l10 => k_is)
    (case c10 => k_is)
    (case k10 => k_is)
    (case a11 => k_is)
    (case l11 => k_is)
    (case c11 => k_is)
    (case k11 => k_is)
    (case a12 => k_is)
    (case l12 => k_is)
    (case c12 => k_is)
    (case k12 => k_is)
    (case a13 => k_is)
    (case l13 => k_is)
    (case c13 => k_is)
    (case k13 => k_is)
    (case a14 => k_is)
    (case l14 => k_is)
    (case c14 => k_is)
    (case k14 => k_is)
    (case a15 => k_is)
    (case l15 => k_is)
    (case c15 => k_is)
    (case k15 => k_is)
