import PyProof.Rows.All
import Wide.All
import OpenK.AllK
import Wide.FinOn
import HandS.ForMost
import HandS.Wide
import HandS.EndBits
import HandS.IsInst
import HandS.Exc
import HandS.TryOnly
import HandS.ExcOwn
import HandS.TupAny
import HandS.More
import HandS.Remove
import HandS.Set
import HandS.SetFor
import HandS.Strs
import KE.SortData
import HandS.Conv
import PyProof.MaxThree
import KE.GoesMore
import HandS.DictTup
import HandS.ListItems
import HandS.SetKeys
import HandS.TupSets
import HandS.Sort
import HandS.TupMul
import HandS.Iter
import HandS.CallLocal
import HandS.SortOrd
import KE.DataMinMax
import PySem.Challenge.RW_namestay_k56_what_stands_in_cores
set_option Elab.async false
set_option linter.all false
set_option maxRecDepth 100000
set_option maxRecDepth 100000
/-! FL: a functional layer over the hand layer: what code computes, as a Lean function over plain data and a plain store. -/
namespace FL
open PySem L2

/-- plain data; ref i: the i-th thing of the store -/
inductive D where
  | non | bl (b : Bool) | int (i : Int) | str (x : Str)
  | tup (xs : List D) | lst (xs : List D) | dct (kvs : List (Key × D)) | ref (i : Nat)
  | scr (ns : List Int)
  /-- the def of that name -/
  | fn (x : Str)

/-- a thing of the store, which may change -/
inductive Cell where
  | lst (xs : List D) | dK (kvs : List (Key × D)) | dT (kvs : List (List Key × D)) | ins (C : Addr) (fs : List (Str × D))
  /-- a dict that is only read from now on -/
  | dL (kvs : List (Key × D))

abbrev Me := List Cell
abbrev En := List (Option D)

/-- where the store's things lie (l), and addresses that no value has (h) -/
structure Mu where
  l : List Addr
  h : List Addr
def Mu.add (μ : Mu) (p : Addr) : Mu := ⟨μ.l ++ [p], μ.h⟩

/-- what may be shared as a value -/
def IsDat : HO → Prop
  | .lst _ => True
  | .tup _ => True
  | _ => False
/-- how a dict that stood as a value stands later: as it was, or locked for good -/
def Dk (h : List Addr) (H' : Hp) (a : Addr) (kvs : List (Key × V)) : Prop := H' a = some (.dK kvs) ∨ (a ∉ h ∧ ∃ o, H' a = some (.frz o (.dK kvs)))
/-- what a thing of the store is -/
def MutL : HO → Prop
  | .frz _ (.dK _) => True
  | u => Mut (some u)

/-- a plain object: no dict on it, no slots -/
def PlO (o : Obj) : Prop := o.dict = none ∧ o.slots = #[]
/-- a tuple on which no dict hangs -/
def TupN (K : PySem.W.Frag) (H : Hp) (a : Addr) (xs : List V) : Prop := (∃ o : Obj, H a = some (.frz o (.tup xs)) ∧ PlO o) ∨
  ∃ (o : Obj) (its : Array Value) (n : Nat), K.lookup a = some o ∧ o.cls = .type "tuple" ∧ o.data = .seq its n ∧ its.size ≤ sizeLine ∧ Vals xs its.toList ∧ PlO o
theorem TupN.sq {K : PySem.W.Frag} {H : Hp} {a : Addr} {xs : List V} (h : TupN K H a xs) : SqT K H a xs := by
  rcases h with ⟨o, h, _⟩ | ⟨o, its, n, h1, h2, h3, h4, h5, _⟩
  · exact .inl (.inr ⟨o, h⟩)
  · exact .inr ⟨o, its, n, h1, h2, h3, h4, h5⟩
section
variable (K : PySem.W.Frag) (H : Hp) (μ : Mu)
mutual
def RV : D → V → Prop
  | .non, v => v = .non
  | .bl b, v => v = .bl b
  | .int i, v => v = .int i
  | .str x, v => v = .str x
  | .tup ds, v => ∃ a vs, v = .ref a ∧ TupN K H a vs ∧ vs.length ≤ sizeLine ∧ RVs ds vs
  | .lst ds, v => ∃ a vs, v = .ref a ∧ (a ∉ μ.l ∧ a ∉ μ.h) ∧ H a = some (.lst vs) ∧ vs.length ≤ sizeLine ∧ RVs ds vs
  | .dct kvs, v => ∃ a ps, v = .ref a ∧ (a ∉ μ.l ∧ a ∉ μ.h) ∧ Rd H a (.dK ps) ∧ RVk kvs ps
  | .ref i, v => ∃ a, v = .ref a ∧ μ.l[i]? = some a
  | .fn x, v => ∃ a, v = .ref a ∧ PySem.W.nsIn K mainGlobals x = some (some (Value.ref a))
  | .scr ns, v => ∃ a, v = .ref a ∧ (((a ∉ μ.l ∧ a ∉ μ.h) ∧ Rd H a (.lst (ns.map V.int))) ∨ SqL K (fun _ => none) a (ns.map V.int))
def RVs : List D → List V → Prop
  | [], vs => vs = []
  | d :: ds, vs => ∃ v r, vs = v :: r ∧ RV d v ∧ RVs ds r
def RVk : List (Key × D) → List (Key × V) → Prop
  | [], ps => ps = []
  | p :: r, ps => ∃ v q, ps = (p.1, v) :: q ∧ RVp p v ∧ RVk r q
def RVp : Key × D → V → Prop
  | (_, d), v => RV d v
end
def RC : Cell → Addr → Prop
  | .lst ds, a => ∃ vs, H a = some (.lst vs) ∧ vs.length ≤ sizeLine ∧ RVs K H μ ds vs
  | .dK kvs, a => ∃ ps, H a = some (.dK ps) ∧ RVk K H μ kvs ps
  | .dT kvs, a => ∃ ps, H a = some (.dT ps) ∧ Paired (fun (p : List Key × D) (q : List Key × V) => p.1 = q.1 ∧ RV K H μ p.2 q.2) kvs ps
  | .ins C fs, a => ∃ dx fs', H a = some (.ins C dx fs') ∧ Paired (fun (p : Str × D) (q : Str × V) => p.1 = q.1 ∧ RV K H μ p.2 q.2) fs fs'
  | .dL kvs, a => ∃ ps o, H a = some (.frz o (.dK ps)) ∧ RVk K H μ kvs ps
/-- the heap holds the store -/
structure RH (m : Me) : Prop where
  len : μ.l.length = m.length
  nd : μ.l.Nodup
  at' : ∀ (i : Nat) (c : Cell), m[i]? = some c → ∃ a, μ.l[i]? = some a ∧ RC K H μ c a
  hid : ∀ a, a ∈ μ.h → H a ≠ none
  sep : ∀ a, a ∈ μ.l → a ∉ μ.h
/-- the slots hold the names' values -/
def RS (ρ : En) (σ : St) : Prop := ρ.length = σ.length ∧ ∀ (i : Nat) (d : D), ρ[i]? = some (some d) → ∃ v, σ[i]? = some (some v) ∧ RV K H μ d v
end

/-- the heap went on: what stood as a value stands -/
structure Ext (K : PySem.W.Frag) (H : Hp) (μ : Mu) (H' : Hp) (μ' : Mu) : Prop where
  pre : ∃ l, μ'.l = μ.l ++ l
  hid : μ'.h = μ.h
  tup : ∀ a xs, TupN K H a xs → TupN K H' a xs
  dat : ∀ a u, a ∉ μ.l → IsDat u → H a = some u → H' a = some u ∧ a ∉ μ'.l
  frz : ∀ a o u, a ∉ μ.l → H a = some (.frz o u) → H' a = some (.frz o u) ∧ a ∉ μ'.l
  dct : ∀ a kvs, a ∉ μ.l → H a = some (.dK kvs) → Dk μ.h H' a kvs ∧ a ∉ μ'.l
  fz : ∀ a o u, H a = some (.frz o u) → H' a = some (.frz o u)

section
variable {K : PySem.W.Frag} {H H' H'' : Hp} {μ μ' μ'' : Mu}
theorem Ext.refl : Ext K H μ H μ := ⟨⟨[], by simp⟩, rfl, fun _ _ h => h, fun _ _ n _ h => ⟨h, n⟩, fun _ _ _ n h => ⟨h, n⟩, fun _ _ n h => ⟨.inl h, n⟩, fun _ _ _ h => h⟩
theorem Ext.trans (a : Ext K H μ H' μ') (b : Ext K H' μ' H'' μ'') : Ext K H μ H'' μ'' := by
  refine ⟨?_, b.hid.trans a.hid, fun x xs h => b.tup x xs (a.tup x xs h), fun x u n d h => ?_, fun x o u n h => ?_, fun x kvs n h => ?_, fun x o u h => b.fz x o u (a.fz x o u h)⟩
  · obtain ⟨l, e⟩ := a.pre
    obtain ⟨l', e'⟩ := b.pre
    exact ⟨l ++ l', by rw [e', e]; simp⟩
  · obtain ⟨h1, n1⟩ := a.dat x u n d h
    exact b.dat x u n1 d h1
  · obtain ⟨h1, n1⟩ := a.frz x o u n h
    exact b.frz x o u n1 h1
  · obtain ⟨h1 | ⟨nh, o, h1⟩, n1⟩ := a.dct x kvs n h
    · obtain ⟨h2, n2⟩ := b.dct x kvs n1 h1
      rw [a.hid] at h2
      exact ⟨h2, n2⟩
    · obtain ⟨h2, n2⟩ := b.frz x o _ n1 h1
      exact ⟨.inr ⟨nh, o, h2⟩, n2⟩
theorem Ext.get (e : Ext K H μ H' μ') {i : Nat} {a : Addr} (h : μ.l[i]? = some a) : μ'.l[i]? = some a := by
  obtain ⟨l, e⟩ := e.pre
  rw [e, List.getElem?_append_left (List.getElem?_eq_some_iff.mp h).1]; exact h
theorem Ext.rd (e : Ext K H μ H' μ') {a : Addr} (n : a ∉ μ.l ∧ a ∉ μ.h) {u : HO} (d : IsDat u) (h : Rd H a u) : Rd H' a u ∧ (a ∉ μ'.l ∧ a ∉ μ'.h) := by
  rcases h with h | ⟨o, h⟩
  · obtain ⟨h1, n1⟩ := e.dat a u n.1 d h
    exact ⟨.inl h1, n1, by rw [e.hid]; exact n.2⟩
  · obtain ⟨h1, n1⟩ := e.frz a o u n.1 h
    exact ⟨.inr ⟨o, h1⟩, n1, by rw [e.hid]; exact n.2⟩
theorem Dk.rd {h : List Addr} {a : Addr} {kvs : List (Key × V)} (q : Dk h H' a kvs) : Rd H' a (.dK kvs) := by
  rcases q with q | ⟨_, o, q⟩
  · exact .inl q
  · exact .inr ⟨o, q⟩
theorem Ext.rdK (e : Ext K H μ H' μ') {a : Addr} (n : a ∉ μ.l ∧ a ∉ μ.h) {kvs : List (Key × V)} (h : Rd H a (.dK kvs)) : Rd H' a (.dK kvs) ∧ (a ∉ μ'.l ∧ a ∉ μ'.h) := by
  rcases h with h | ⟨o, h⟩
  · obtain ⟨h1, n1⟩ := e.dct a kvs n.1 h
    exact ⟨h1.rd, n1, by rw [e.hid]; exact n.2⟩
  · obtain ⟨h1, n1⟩ := e.frz a o _ n.1 h
    exact ⟨.inr ⟨o, h1⟩, n1, by rw [e.hid]; exact n.2⟩
/-- what stood as a value stands, in another heap and beside other addresses -/
structure Tr (K : PySem.W.Frag) (H : Hp) (μ : Mu) (H' : Hp) (μ' : Mu) : Prop where
  get : ∀ (i : Nat) (a : Addr), μ.l[i]? = some a → μ'.l[i]? = some a
  tup : ∀ a xs, TupN K H a xs → TupN K H' a xs
  dat : ∀ a u, a ∉ μ.l ∧ a ∉ μ.h → IsDat u → H a = some u → H' a = some u ∧ (a ∉ μ'.l ∧ a ∉ μ'.h)
  frz : ∀ a o u, a ∉ μ.l ∧ a ∉ μ.h → H a = some (.frz o u) → H' a = some (.frz o u) ∧ (a ∉ μ'.l ∧ a ∉ μ'.h)
  dct : ∀ a kvs, a ∉ μ.l ∧ a ∉ μ.h → H a = some (.dK kvs) → Rd H' a (.dK kvs) ∧ (a ∉ μ'.l ∧ a ∉ μ'.h)
  fz : ∀ a o u, H a = some (.frz o u) → H' a = some (.frz o u)
theorem Tr.rdK (x : Tr K H μ H' μ') {a : Addr} {kvs : List (Key × V)} (n : a ∉ μ.l ∧ a ∉ μ.h) (h : Rd H a (.dK kvs)) : Rd H' a (.dK kvs) ∧ (a ∉ μ'.l ∧ a ∉ μ'.h) := by
  rcases h with h | ⟨o, h⟩
  · exact x.dct a kvs n h
  · obtain ⟨h1, n1⟩ := x.frz a o _ n h
    exact ⟨.inr ⟨o, h1⟩, n1⟩
theorem Tr.rd (x : Tr K H μ H' μ') {a : Addr} {u : HO} (n : a ∉ μ.l ∧ a ∉ μ.h) (d : IsDat u) (h : Rd H a u) : Rd H' a u ∧ (a ∉ μ'.l ∧ a ∉ μ'.h) := by
  rcases h with h | ⟨o, h⟩
  · obtain ⟨h1, n1⟩ := x.dat a u n d h
    exact ⟨.inl h1, n1⟩
  · obtain ⟨h1, n1⟩ := x.frz a o u n h
    exact ⟨.inr ⟨o, h1⟩, n1⟩
theorem Tr.trans (x : Tr K H μ H' μ') (y : Tr K H' μ' H'' μ'') : Tr K H μ H'' μ'' := ⟨fun i a h => y.get i a (x.get i a h), fun a xs h => y.tup a xs (x.tup a xs h), fun a u n d h =>
  let ⟨h1, n1⟩ := x.dat a u n d h
  y.dat a u n1 d h1, fun a o u n h =>
  let ⟨h1, n1⟩ := x.frz a o u n h
  y.frz a o u n1 h1, fun a kvs n h =>
  let ⟨h1, n1⟩ := x.dct a kvs n h
  y.rdK n1 h1, fun a o u h => y.fz a o u (x.fz a o u h)⟩
theorem Ext.tr (e : Ext K H μ H' μ') : Tr K H μ H' μ' := ⟨fun _ _ h => e.get h, e.tup, fun a u n d h => let ⟨h1, n1⟩ := e.dat a u n.1 d h; ⟨h1, n1, by rw [e.hid]; exact n.2⟩, fun a o u n h => let ⟨h1, n1⟩ := e.frz a o u n.1 h; ⟨h1, n1, by rw [e.hid]; exact n.2⟩, fun a kvs n h => e.rdK n (.inl h), e.fz⟩
mutual
theorem RV.map (e : Tr K H μ H' μ') : ∀ (d : D) (v : V), RV K H μ d v → RV K H' μ' d v
  | .non, _, h => by simpa [RV] using h
  | .bl _, _, h => by simpa [RV] using h
  | .int _, _, h => by simpa [RV] using h
  | .str _, _, h => by simpa [RV] using h
  | .tup ds, v, h => by
    simp only [RV] at h ⊢
    obtain ⟨a, vs, rfl, hs, hz, hr⟩ := h
    exact ⟨a, vs, rfl, e.tup a vs hs, hz, RVs.map e ds vs hr⟩
  | .lst ds, v, h => by
    simp only [RV] at h ⊢
    obtain ⟨a, vs, rfl, hn, hs, hz, hr⟩ := h
    obtain ⟨h1, n1⟩ := e.dat a (.lst vs) hn trivial hs
    exact ⟨a, vs, rfl, n1, h1, hz, RVs.map e ds vs hr⟩
  | .dct kvs, v, h => by
    simp only [RV] at h ⊢
    obtain ⟨a, vs, rfl, hn, hs, hr⟩ := h
    obtain ⟨h1, n1⟩ := e.rdK hn hs
    exact ⟨a, vs, rfl, n1, h1, RVk.map e kvs vs hr⟩
  | .ref i, v, h => by
    simp only [RV] at h ⊢
    obtain ⟨a, rfl, hs⟩ := h
    exact ⟨a, rfl, e.get i a hs⟩
  | .fn a, v, h => by simpa [RV] using h
  | .scr ns, v, h => by
    simp only [RV] at h ⊢
    obtain ⟨a, rfl, ⟨hn, hs⟩ | hs⟩ := h
    · obtain ⟨h1, n1⟩ := e.rd hn (u := .lst (ns.map V.int)) trivial hs
      exact ⟨a, rfl, .inl ⟨n1, h1⟩⟩
    · exact ⟨a, rfl, .inr hs⟩
theorem RVs.map (e : Tr K H μ H' μ') : ∀ (ds : List D) (vs : List V), RVs K H μ ds vs → RVs K H' μ' ds vs
  | [], vs, h => by simpa [RVs] using h
  | d :: ds, vs, h => by
    simp only [RVs] at h ⊢
    obtain ⟨v, r, rfl, h1, h2⟩ := h
    exact ⟨v, r, rfl, RV.map e d v h1, RVs.map e ds r h2⟩
theorem RVk.map (e : Tr K H μ H' μ') : ∀ (ds : List (Key × D)) (vs : List (Key × V)), RVk K H μ ds vs → RVk K H' μ' ds vs
  | [], vs, h => by simpa [RVk] using h
  | p :: ds, vs, h => by
    simp only [RVk] at h ⊢
    obtain ⟨v, r, rfl, h1, h2⟩ := h
    exact ⟨v, r, rfl, RVp.map e p v h1, RVk.map e ds r h2⟩
theorem RVp.map (e : Tr K H μ H' μ') : ∀ (p : Key × D) (v : V), RVp K H μ p v → RVp K H' μ' p v
  | (_, d), v, h => by
    simp only [RVp] at h ⊢
    exact RV.map e d v h
end
theorem RV.ext (e : Ext K H μ H' μ') (d : D) (v : V) (h : RV K H μ d v) : RV K H' μ' d v := RV.map e.tr d v h
theorem RVs.ext (e : Ext K H μ H' μ') (d : List D) (v : List V) (h : RVs K H μ d v) : RVs K H' μ' d v := RVs.map e.tr d v h
theorem RVk.ext (e : Ext K H μ H' μ') (d : List (Key × D)) (v : List (Key × V)) (h : RVk K H μ d v) : RVk K H' μ' d v := RVk.map e.tr d v h
theorem RS.map {ρ : En} {σ : St} (h : RS K H μ ρ σ) (e : Tr K H μ H' μ') : RS K H' μ' ρ σ := ⟨h.1, fun i d q => by
  obtain ⟨v, h1, h2⟩ := h.2 i d q
  exact ⟨v, h1, RV.map e d v h2⟩⟩
theorem RS.ext {ρ : En} {σ : St} (h : RS K H μ ρ σ) (e : Ext K H μ H' μ') : RS K H' μ' ρ σ := h.map e.tr
theorem RS.set {ρ : En} {σ : St} {d : D} {v : V} (h : RS K H μ ρ σ) (r : RV K H μ d v) (i : Nat) : RS K H μ (ρ.set i (some d)) (σ.set i (some v)) := by
  refine ⟨by rw [List.length_set, List.length_set]; exact h.1, fun j e q => ?_⟩
  by_cases hj : i = j
  · subst hj
    by_cases hl : i < ρ.length
    · rw [List.getElem?_set_self hl] at q
      cases q
      exact ⟨v, List.getElem?_set_self (by rw [← h.1]; exact hl), r⟩
    · rw [List.getElem?_eq_none (by rw [List.length_set]; omega)] at q
      cases q
  · rw [List.getElem?_set_ne hj] at q ⊢
    exact h.2 j e q
theorem RVs.length : ∀ {ds : List D} {vs : List V}, RVs K H μ ds vs → ds.length = vs.length
  | [], vs, h => by simp only [RVs] at h; subst h; rfl
  | d :: ds, vs, h => by
    simp only [RVs] at h
    obtain ⟨v, r, rfl, _, h2⟩ := h
    simp [RVs.length h2]
theorem RVs.get : ∀ {ds : List D} {vs : List V} {i : Nat} {d : D}, RVs K H μ ds vs → ds[i]? = some d → ∃ v, vs[i]? = some v ∧ RV K H μ d v
  | [], _, _, _, _, e => by simp at e
  | d :: ds, vs, 0, x, h, e => by
    simp only [RVs] at h
    obtain ⟨v, r, rfl, h1, _⟩ := h
    simp at e; subst e
    exact ⟨v, rfl, h1⟩
  | d :: ds, vs, i + 1, x, h, e => by
    simp only [RVs] at h
    obtain ⟨v, r, rfl, _, h2⟩ := h
    obtain ⟨u, q1, q2⟩ := RVs.get (i := i) h2 (by simpa using e)
    exact ⟨u, by simpa using q1, q2⟩
theorem RVs.get' : ∀ {ds : List D} {vs : List V} {i : Nat} {v : V}, RVs K H μ ds vs → vs[i]? = some v → ∃ d, ds[i]? = some d ∧ RV K H μ d v := by
  intro ds vs i v h e
  have hl := h.length
  have hi : i < ds.length := by rw [hl]; exact (List.getElem?_eq_some_iff.mp e).1
  obtain ⟨u, q1, q2⟩ := h.get (List.getElem?_eq_getElem hi)
  rw [e] at q1; cases q1
  exact ⟨_, List.getElem?_eq_getElem hi, q2⟩
theorem RVs.append : ∀ {ds es : List D} {vs us : List V}, RVs K H μ ds vs → RVs K H μ es us → RVs K H μ (ds ++ es) (vs ++ us)
  | [], _, vs, _, h, g => by simp only [RVs] at h; subst h; simpa using g
  | d :: ds, es, vs, us, h, g => by
    simp only [RVs] at h
    obtain ⟨v, r, rfl, h1, h2⟩ := h
    simp only [List.cons_append, RVs]
    exact ⟨v, r ++ us, rfl, h1, RVs.append h2 g⟩
theorem RVs.take : ∀ {ds : List D} {vs : List V} (n : Nat), RVs K H μ ds vs → RVs K H μ (ds.take n) (vs.take n)
  | ds, vs, 0, _ => by simp [RVs]
  | [], vs, n + 1, h => by simp only [RVs] at h; subst h; simp [RVs]
  | d :: ds, vs, n + 1, h => by
    simp only [RVs] at h
    obtain ⟨v, r, rfl, h1, h2⟩ := h
    simp only [List.take_succ_cons, RVs]
    exact ⟨v, _, rfl, h1, RVs.take n h2⟩
theorem RVs.drop : ∀ {ds : List D} {vs : List V} (n : Nat), RVs K H μ ds vs → RVs K H μ (ds.drop n) (vs.drop n)
  | ds, vs, 0, h => by simpa using h
  | [], vs, n + 1, h => by simp only [RVs] at h; subst h; simp [RVs]
  | d :: ds, vs, n + 1, h => by
    simp only [RVs] at h
    obtain ⟨v, r, rfl, h1, h2⟩ := h
    simpa using RVs.drop n h2
theorem RVs.one {d : D} {v : V} (h : RV K H μ d v) : RVs K H μ [d] [v] := by simp only [RVs]; exact ⟨v, [], rfl, h, rfl⟩
theorem RC.map {c : Cell} {a : Addr} (h : RC K H μ c a) (e : Tr K H μ H' μ') (s : H' a = H a) : RC K H' μ' c a := by
  cases c with
  | lst ds => obtain ⟨vs, h1, h2, h3⟩ := h; exact ⟨vs, s.trans h1, h2, RVs.map e _ _ h3⟩
  | dK kvs => obtain ⟨vs, h1, h2⟩ := h; exact ⟨vs, s.trans h1, RVk.map e _ _ h2⟩
  | dT kvs => obtain ⟨vs, h1, h2⟩ := h; exact ⟨vs, s.trans h1, L2.Paired.mapP h2 fun p q z => ⟨z.1, RV.map e _ _ z.2⟩⟩
  | ins C fs => obtain ⟨dx, vs, h1, h2⟩ := h; exact ⟨dx, vs, s.trans h1, L2.Paired.mapP h2 fun p q z => ⟨z.1, RV.map e _ _ z.2⟩⟩
  | dL kvs => obtain ⟨vs, o, h1, h2⟩ := h; exact ⟨vs, o, s.trans h1, RVk.map e _ _ h2⟩
theorem RC.ext {c : Cell} {a : Addr} (h : RC K H μ c a) (e : Ext K H μ H' μ') (s : H' a = H a) : RC K H' μ' c a := h.map e.tr s
theorem RC.some {c : Cell} {a : Addr} (h : RC K H μ c a) : ∃ o, H a = some o ∧ MutL o := by
  cases c with
  | lst ds => obtain ⟨vs, h1, _⟩ := h; exact ⟨_, h1, trivial⟩
  | dK kvs => obtain ⟨vs, h1, _⟩ := h; exact ⟨_, h1, trivial⟩
  | dT kvs => obtain ⟨vs, h1, _⟩ := h; exact ⟨_, h1, trivial⟩
  | ins C fs => obtain ⟨dx, vs, h1, _⟩ := h; exact ⟨_, h1, trivial⟩
  | dL kvs => obtain ⟨vs, o, h1, _⟩ := h; exact ⟨_, h1, trivial⟩
theorem upd_some {H : Hp} {p a : Addr} {o : HO} (h : H a ≠ none) : upd H p o a ≠ none := by
  unfold upd; split
  · exact fun z => nomatch z
  · exact h
theorem RH.mem {m : Me} (h : RH K H μ m) {a : Addr} (ha : a ∈ μ.l) : ∃ o, H a = some o ∧ MutL o := by
  obtain ⟨i, hi, rfl⟩ := List.getElem_of_mem ha
  have hm : i < m.length := by rw [← h.len]; exact hi
  obtain ⟨a', e, c⟩ := h.at' i _ (List.getElem?_eq_getElem hm)
  rw [List.getElem?_eq_getElem hi] at e; cases e
  exact c.some
/-- a new object that is a value -/
theorem Ext.new {m : Me} (h : RH K H μ m) {p : Addr} {o : HO} (n : H p = none) : Ext K H μ (upd H p o) μ := by
  have key : ∀ {a u}, H a = some u → upd H p o a = some u := fun {a u} q => by rw [upd_ne (ne_of_none q n)]; exact q
  refine ⟨⟨[], by simp⟩, rfl, fun a xs q => ?_, fun a u na _ q => ⟨key q, na⟩, fun a o u na q => ⟨key q, na⟩, fun a kvs na q => ⟨.inl (key q), na⟩, fun a o u q => key q⟩
  rcases q with ⟨o', q, hd⟩ | q
  · exact .inl ⟨o', key q, hd⟩
  · exact .inr q
theorem RH.new {m : Me} (h : RH K H μ m) {p : Addr} {o : HO} (n : H p = none) : RH K (upd H p o) μ m := by
  refine ⟨h.len, h.nd, fun i c q => ?_, fun a z => upd_some (h.hid a z), h.sep⟩
  obtain ⟨a, e, r⟩ := h.at' i c q
  obtain ⟨u, hu, _⟩ := r.some
  exact ⟨a, e, r.ext (Ext.new h n) (upd_ne (ne_of_none hu n))⟩
theorem RH.notin {m : Me} (h : RH K H μ m) {p : Addr} (n : H p = none) : p ∉ μ.l := fun hp => by
  obtain ⟨o, e, _⟩ := h.mem hp
  rw [n] at e; cases e
/-- a new thing of the store -/
theorem Ext.cell {m : Me} (h : RH K H μ m) {p : Addr} {o : HO} (n : H p = none) : Ext K H μ (upd H p o) (μ.add p) := by
  have key : ∀ {a u}, H a = some u → upd H p o a = some u := fun {a u} q => by rw [upd_ne (ne_of_none q n)]; exact q
  have nin : ∀ {a u}, a ∉ μ.l → H a = some u → a ∉ (μ.add p).l := fun {a u} na q z => by
    rcases List.mem_append.mp z with z | z
    · exact na z
    · exact ne_of_none q n (by simpa using z)
  refine ⟨⟨[p], rfl⟩, rfl, fun a xs q => ?_, fun a u na _ q => ⟨key q, nin na q⟩, fun a o u na q => ⟨key q, nin na q⟩, fun a kvs na q => ⟨.inl (key q), nin na q⟩, fun a o u q => key q⟩
  rcases q with ⟨o', q, hd⟩ | q
  · exact .inl ⟨o', key q, hd⟩
  · exact .inr q
theorem RH.cell {m : Me} (h : RH K H μ m) {p : Addr} {o : HO} {c : Cell} (n : H p = none) (r : RC K (upd H p o) (μ.add p) c p) : RH K (upd H p o) (μ.add p) (m ++ [c]) := by
  refine ⟨by simp [Mu.add, h.len], ?_, fun i c' q => ?_, fun a z => upd_some (h.hid a z), fun a z y => by
    rcases List.mem_append.mp z with z | z
    · exact h.sep a z y
    · rw [List.mem_singleton.mp z] at y; exact h.hid p y n⟩
  · refine List.nodup_append.mpr ⟨h.nd, by simp, fun a ha b hb z => ?_⟩
    have : b = p := by simpa using hb
    subst this; subst z
    exact h.notin n ha
  · by_cases hi : i < m.length
    · rw [List.getElem?_append_left hi] at q
      obtain ⟨a, e, rc⟩ := h.at' i c' q
      obtain ⟨u, hu, _⟩ := rc.some
      exact ⟨a, (Ext.cell (o := o) h n).get e, rc.ext (Ext.cell h n) (upd_ne (ne_of_none hu n))⟩
    · have hi' : i = m.length := by
        have := (List.getElem?_eq_some_iff.mp q).1
        simp at this; omega
      subst hi'
      simp at q; subst q
      exact ⟨p, by simp [Mu.add, ← h.len], r⟩
/-- a thing of the store changes -/
theorem Ext.wr {m : Me} (h : RH K H μ m) {i : Nat} {a : Addr} {o : HO} (e : μ.l[i]? = some a) (nf : ∀ o u, H a ≠ some (.frz o u) := by intro o u z; simp_all) : Ext K H μ (upd H a o) μ := by
  have ha : a ∈ μ.l := List.mem_of_getElem? e
  obtain ⟨u0, hu0, mu⟩ := h.mem ha
  have kp : ∀ {b : Addr} {u : HO}, b ∉ μ.l → H b = some u → upd H a o b = some u := fun {b u} nb q => by
    rw [upd_ne (fun z : b = a => nb (by rw [z]; exact ha))]; exact q
  refine ⟨⟨[], by simp⟩, rfl, fun b xs q => ?_, fun b u nb _ q => ⟨kp nb q, nb⟩, fun b o u nb q => ⟨kp nb q, nb⟩, fun b kvs nb q => ⟨.inl (kp nb q), nb⟩, fun b o u q => by rw [upd_ne (fun z : b = a => nf o u (by rw [← z]; exact q))]; exact q⟩
  rcases q with ⟨o', q, hd⟩ | q
  · exact .inl ⟨o', by rw [upd_ne (ne_of q hu0 fun z => by subst z; exact mu)]; exact q, hd⟩
  · exact .inr q
theorem RH.wr {m : Me} (h : RH K H μ m) {i : Nat} {a : Addr} {o : HO} {c : Cell} (e : μ.l[i]? = some a) (r : RC K (upd H a o) μ c a) (nf : ∀ o u, H a ≠ some (.frz o u) := by intro o u z; simp_all) : RH K (upd H a o) μ (m.set i c) := by
  refine ⟨by rw [List.length_set]; exact h.len, h.nd, fun j c' q => ?_, fun a z => upd_some (h.hid a z), h.sep⟩
  by_cases hj : i = j
  · subst hj
    have hi : i < m.length := by rw [← h.len]; exact (List.getElem?_eq_some_iff.mp e).1
    rw [List.getElem?_set_self hi] at q; cases q
    exact ⟨a, e, r⟩
  · rw [List.getElem?_set_ne hj] at q
    obtain ⟨b, eb, rc⟩ := h.at' j c' q
    refine ⟨b, eb, rc.ext (Ext.wr h e nf) (upd_ne fun z => hj ?_)⟩
    subst z
    obtain ⟨h1, h1'⟩ := List.getElem?_eq_some_iff.mp e
    obtain ⟨h2, h2'⟩ := List.getElem?_eq_some_iff.mp eb
    exact (List.getElem_inj h.nd).mp (h1'.trans h2'.symm)
/-! ### hidden addresses -/
theorem Tr.unhide {l h h' : List Addr} (w : ∀ a, a ∈ h' → a ∈ h) : Tr K H ⟨l, h⟩ H ⟨l, h'⟩ := ⟨fun _ _ q => q, fun _ _ q => q, fun a u n _ q => ⟨q, n.1, fun z => n.2 (w a z)⟩, fun a o u n q => ⟨q, n.1, fun z => n.2 (w a z)⟩, fun a kvs n q => ⟨.inl q, n.1, fun z => n.2 (w a z)⟩, fun _ _ _ q => q⟩
theorem RC.unhide {l h h' : List Addr} (w : ∀ a, a ∈ h' → a ∈ h) {c : Cell} {a : Addr} (q : RC K H ⟨l, h⟩ c a) : RC K H ⟨l, h'⟩ c a := q.map (.unhide w) rfl
theorem RH.unhide {l h h' : List Addr} (w : ∀ a, a ∈ h' → a ∈ h) {m : Me} (q : RH K H ⟨l, h⟩ m) : RH K H ⟨l, h'⟩ m :=
  ⟨q.len, q.nd, fun i c e => by obtain ⟨a, h1, h2⟩ := q.at' i c e; exact ⟨a, h1, h2.unhide w⟩, fun a z => q.hid a (w a z), fun a z y => q.sep a z (w a y)⟩
/-- a new object beside which the values stand -/
theorem Tr.hide {m : Me} (h : RH K H μ m) {p : Addr} {o : HO} (n : H p = none) : Tr K H μ (upd H p o) ⟨μ.l, p :: μ.h⟩ := by
  have nh : ∀ {a u}, a ∉ μ.h → H a = some u → a ∉ p :: μ.h := fun {a u} na q z => by
    rcases List.mem_cons.mp z with z | z
    · rw [z, n] at q; cases q
    · exact na z
  refine ⟨fun _ _ q => q, (Ext.new h n).tup, fun a u na d q => ?_, fun a o' u na q => ?_, fun a kvs na q => ?_, (Ext.new h n).fz⟩
  · obtain ⟨h1, n1⟩ := (Ext.new (o := o) h n).dat a u na.1 d q
    exact ⟨h1, n1, nh na.2 q⟩
  · obtain ⟨h1, n1⟩ := (Ext.new (o := o) h n).frz a o' u na.1 q
    exact ⟨h1, n1, nh na.2 q⟩
  · obtain ⟨h1, n1⟩ := (Ext.new (o := o) h n).dct a kvs na.1 q
    exact ⟨h1.rd, n1, nh na.2 q⟩
theorem RH.hide {m : Me} (h : RH K H μ m) {p : Addr} {o : HO} (n : H p = none) : RH K (upd H p o) ⟨μ.l, p :: μ.h⟩ m := by
  refine ⟨h.len, h.nd, fun i c q => ?_, fun a z => ?_, fun a z y => by
    rcases List.mem_cons.mp y with y | y
    · rw [y] at z; exact h.notin n z
    · exact h.sep a z y⟩
  · obtain ⟨a, e, r⟩ := h.at' i c q
    obtain ⟨u, hu, _⟩ := r.some
    exact ⟨a, e, r.map (Tr.hide h n) (upd_ne (ne_of_none hu n))⟩
  · rcases List.mem_cons.mp z with z | z
    · subst z; rw [upd_same]; exact fun w => nomatch w
    · exact upd_some (h.hid a z)
/-- a list that stands beside the values grows -/
theorem Tr.grow {p : Addr} {xs ys : List V} (hp : p ∈ μ.h) (e : H p = some (.lst xs)) : Tr K H μ (upd H p (.lst ys)) μ := by
  have kp : ∀ {a : Addr} {u : HO}, a ∉ μ.h → H a = some u → upd H p (.lst ys) a = some u := fun {a u} n q => by
    rw [upd_ne (fun z : a = p => n (by rw [z]; exact hp))]; exact q
  refine ⟨fun _ _ q => q, fun a vs q => ?_, fun a u n _ q => ⟨kp n.2 q, n⟩, fun a o u n q => ⟨kp n.2 q, n⟩, fun a kvs n q => ⟨.inl (kp n.2 q), n⟩, fun a o u q => by rw [upd_ne (ne_of q e fun z => nomatch z)]; exact q⟩
  rcases q with ⟨o', q, hd⟩ | q
  · exact .inl ⟨o', by rw [upd_ne (ne_of q e fun z => nomatch z)]; exact q, hd⟩
  · exact .inr q
theorem RH.grow {m : Me} (h : RH K H μ m) {p : Addr} {xs ys : List V} (hp : p ∈ μ.h) (hl : p ∉ μ.l) (e : H p = some (.lst xs)) : RH K (upd H p (.lst ys)) μ m := by
  refine ⟨h.len, h.nd, fun i c q => ?_, fun a z => upd_some (h.hid a z), h.sep⟩
  obtain ⟨a, e', r⟩ := h.at' i c q
  exact ⟨a, e', r.map (Tr.grow hp e) (upd_ne fun z => hl (by rw [← z]; exact List.mem_of_getElem? e'))⟩
theorem Ext.reh {l l' h k : List Addr} (x : Ext K H ⟨l, h⟩ H' ⟨l', h⟩) (w : ∀ a, a ∈ k → a ∈ h) : Ext K H ⟨l, k⟩ H' ⟨l', k⟩ := ⟨x.pre, rfl, x.tup, x.dat, x.frz, fun a kvs n q => let ⟨h1, n1⟩ := x.dct a kvs n q; ⟨h1.imp id fun z => ⟨fun y => z.1 (w a y), z.2⟩, n1⟩, x.fz⟩
/-- .. as seen from where it did not stand -/
theorem Ext.grow {H0 : Hp} {μ0 : Mu} {p : Addr} {xs ys : List V} (x : Ext K H0 μ0 H μ) (n : H0 p = none) (e : H p = some (.lst xs)) : Ext K H0 μ0 (upd H p (.lst ys)) μ := by
  refine ⟨x.pre, x.hid, fun a vs q => ?_, fun a u na d q => ?_, fun a o u na q => ?_, fun a kvs na q => ?_, fun a o u q => by rw [upd_ne (ne_of_none q n)]; exact x.fz a o u q⟩
  · rcases x.tup a vs q with ⟨o', q, hd⟩ | q
    · exact .inl ⟨o', by rw [upd_ne (ne_of q e fun z => nomatch z)]; exact q, hd⟩
    · exact .inr q
  · obtain ⟨h1, h2⟩ := x.dat a u na d q
    exact ⟨by rw [upd_ne (ne_of_none q n)]; exact h1, h2⟩
  · obtain ⟨h1, h2⟩ := x.frz a o u na q
    exact ⟨by rw [upd_ne (ne_of_none q n)]; exact h1, h2⟩
  · obtain ⟨h1, h2⟩ := x.dct a kvs na q
    refine ⟨?_, h2⟩
    unfold Dk
    rw [upd_ne (ne_of_none q n)]; exact h1
end

/-! ### new tuples, their object known -/
section
variable {X : Cx} {es : List Expr} {t : TA} {pos : Pos}
def tTupN (t : TA) : TE := fun σ H Q => t σ H fun xs H1 => xs.length ≤ sizeLine ∧ ∀ p (o : Obj), PlO o → H1 p = none → Q (.ref p) (upd H1 p (.frz o (.tup xs)))
theorem pe_tupN {x1} (h : PA X es t) : PE X (.Tuple es x1 pos) (tTupN t) := by
  refine ⟨fun pins s σ H Q I hq => ?_⟩
  refine wpAny_Tuple_spliced (thn (h.run pos pins s σ H _ I hq) fun us s1 ⟨xs, H1, I1, r, z, q⟩ => ⟨by rw [← r.length]; exact z, ?_⟩)
  have hf : H1 s1.heap.objs.size = none := I1.hok.fresh (Nat.le_refl _)
  refine ⟨.ref s1.heap.objs.size, upd H1 s1.heap.objs.size (.frz { cls := .type "tuple", data := .seq us.toArray } (.tup xs)), I1.laid (t' := s1.toks) (fun b u e => Heap.get?_push_of_some _ e) (Nat.le_refl _) ?ok, rfl, q _ _ ⟨rfl, rfl⟩ hf⟩
  case ok => exact ⟨Heap.get?_push_size _ rfl, z, us, r, ⟨_, Heap.get?_push_size _ rfl, rfl, _, rfl⟩⟩
def rTupOfN (K : PySem.W.Frag) : List V → Hp → VK → Prop := fun xs H Q => ∃ p ys, xs = [.ref p] ∧ ((SqL K H p ys ∧ ∀ l (o : Obj), PlO o → H l = none → Q (.ref l) (upd H l (.frz o (.tup ys)))) ∨ (SqT K H p ys ∧ Q (.ref p) H))
theorem call_tuple_ofN : CallR X (.type "tuple") (rTupOfN X.K) := by
  intro pins s σ H xs us Q I r h
  obtain ⟨p, ys, rfl, h⟩ := h
  obtain ⟨u, rfl, rx⟩ := vals1 r
  cases rx
  rcases h with ⟨hq, q⟩ | ⟨hq, q⟩
  · obtain ⟨its, r', pl, hz⟩ := I.list hq
    have hlen := r'.length
    refine call_tuple_list pl.isList (fun h' kp => ?_) (by simp only [List.size_toArray] <;> omega)
    have I1 : Inv X pins σ H { s with heap := h' } := I.kept (t' := s.toks) kp
    have I2 : Inv X pins σ (upd H h'.objs.size (.frz { cls := .type "tuple", data := .seq its.toArray } (.tup ys))) { s with heap := h'.push { cls := .type "tuple", data := .seq its.toArray } } :=
      I1.laid (t' := s.toks) (fun b o e => Heap.get?_push_of_some _ e) (Nat.le_refl _) (show ObjOk X.prog X.w _ _ _ (.frz _ (.tup ys)) from ⟨Heap.get?_push_size _ rfl, hz, its, r', PyProof.Rows.IsTup.new _ _⟩)
    exact ⟨.ref h'.objs.size, _, I2, rfl, q _ _ ⟨rfl, rfl⟩ (I1.hok.fresh (Nat.le_refl _))⟩
  · obtain ⟨its, r', pl, hz⟩ := I.tuple hq
    exact call_tuple_same pl ⟨.ref p, H, I, rfl, q⟩
def rCatN (K : PySem.W.Frag) : R2 := fun x y H Q => ∃ a b xs ys, x = .ref a ∧ y = .ref b ∧ SqT K H a xs ∧ SqT K H b ys ∧ xs ≠ [] ∧ xs.length + ys.length ≤ sizeLine ∧
  (ys = [] → Q (.ref a) H) ∧ (ys ≠ [] → ∀ p (o : Obj), PlO o → H p = none → Q (.ref p) (upd H p (.frz o (.tup (xs ++ ys)))))
theorem op_catN : OpR X (binaryOp .Add) (rCatN X.K) := by
  intro pins s σ H x y v u Q I rx ry h
  obtain ⟨a, b, xs, ys, rfl, rfl, ha, hb, hx, hz, q1, q2⟩ := h
  cases rx
  cases ry
  obtain ⟨its, r1, p1, _⟩ := I.tuple ha
  obtain ⟨its2, r2, p2, _⟩ := I.tuple hb
  refine HT.cat_tup p1 p2 (fun z => hx (r1.nil_iff.mp z)) (fun z => ⟨.ref a, H, I, rfl, q1 (r2.nil_iff.mp z)⟩) (fun z => ?_) (by rw [← r1.length, ← r2.length]; exact hz)
  refine ⟨.ref s.heap.objs.size, _, I.laid (t' := s.toks) (o := .frz { cls := .type "tuple", data := .seq (its ++ its2).toArray } (.tup (xs ++ ys))) (fun b ob q => Heap.get?_push_of_some _ q) (Nat.le_refl _) ?ok, rfl, q2 (fun w => z (r2.nil_iff.mpr w)) _ _ ⟨rfl, rfl⟩ (I.hok.fresh (Nat.le_refl _))⟩
  case ok => exact ⟨Heap.get?_push_size _ rfl, by rw [List.length_append]; exact hz, _, r1.append r2, PyProof.Rows.IsTup.new _ _⟩
def rSlN (K : PySem.W.Frag) : V → Option Int → Option Int → Hp → VK → Prop := fun x lo hi H Q => ∃ a xs, x = .ref a ∧ SqT K H a xs ∧
  (HT.sIx xs.length 0 lo = 0 ∧ HT.sIx xs.length xs.length hi = xs.length → Q (.ref a) H) ∧ (¬ (HT.sIx xs.length 0 lo = 0 ∧ HT.sIx xs.length xs.length hi = xs.length) → ∀ p (o : Obj), PlO o → H p = none → Q (.ref p) (upd H p (.frz o (.tup (cutV xs lo hi)))))
theorem sl_tupN : SlR X (rSlN X.K) := by
  intro pins s σ H x v vl vu lo hi sl Q I rx hs pl pu h
  obtain ⟨a, xs, rfl, hx, q1, q2⟩ := h
  cases rx
  obtain ⟨its, r, ht, hz⟩ := I.tuple hx
  have hlen : its.toArray.size = xs.length := by rw [List.size_toArray]; exact r.length.symm
  refine ⟨"tuple", _, PyProof.Rows.slot_tuple_getitem.lookup, ht.typeIs, ?_⟩
  by_cases hw : HT.sIx xs.length 0 lo = 0 ∧ HT.sIx xs.length xs.length hi = xs.length
  · exact getItem_tuple_whole ht hs pl pu (by rw [hlen]; exact hw) ⟨.ref a, H, I, rfl, q1 hw⟩
  · refine HT.getItem_tuple_cut ht hs pl pu (by rw [hlen]; exact hw) ?_ (by rw [hlen]; exact hz)
    rw [hlen]
    refine ⟨.ref s.heap.objs.size, _, I.laid (t' := s.toks) (o := .frz { cls := .type "tuple", data := .seq ((its.drop (HT.sIx xs.length 0 lo)).take (HT.sIx xs.length xs.length hi - HT.sIx xs.length 0 lo)).toArray } (.tup (cutV xs lo hi))) (fun b ob q => Heap.get?_push_of_some _ q) (Nat.le_refl _) ?ok, rfl, q2 hw _ _ ⟨rfl, rfl⟩ (I.hok.fresh (Nat.le_refl _))⟩
    case ok => exact ⟨Heap.get?_push_size _ rfl, Nat.le_trans (cutV_length xs lo hi) hz, _, (r.drop (HT.sIx xs.length 0 lo)).take (HT.sIx xs.length xs.length hi - HT.sIx xs.length 0 lo), PyProof.Rows.IsTup.new _ _⟩
end
end FL

set_option maxRecDepth 100000
namespace FL
open PySem L2

/-! ### results -/
structure Exn where
  cls : Value
  fs : List (Str × D)
inductive Res (α : Type) where
  | no | exc (x : Exn) (m : Me) | ok (a : α) (m : Me)
def Res.bind {α β : Type} (r : Res α) (f : α → Me → Res β) : Res β := match r with
  | .no => .no
  | .exc x m => .exc x m
  | .ok a m => f a m
@[simp] theorem Res.bind_ok {α β : Type} {a : α} {m : Me} {f : α → Me → Res β} : (Res.ok a m).bind f = f a m := rfl
@[simp] theorem Res.bind_no {α β : Type} {f : α → Me → Res β} : (Res.no : Res α).bind f = .no := rfl
@[simp] theorem Res.bind_exc {α β : Type} {x : Exn} {m : Me} {f : α → Me → Res β} : (Res.exc x m : Res α).bind f = .exc x m := rfl
/-- what a block comes to -/
inductive Fl where
  | no | exc (x : Exn) (ρ : En) (m : Me) | nx (ρ : En) (m : Me) | rt (d : D) (m : Me) | bk (ρ : En) (m : Me) | ct (ρ : En) (m : Me)

abbrev ME := En → Me → Res D
abbrev MT := En → Me → Res Bool
abbrev MA := En → Me → Res (List D)
abbrev MS := En → Me → Fl

section
variable (K : PySem.W.Frag)
/-- an exception as it is told -/
def RX (H : Hp) (μ : Mu) (x : Exn) (c : Value) (d : Option Addr) : Prop :=
  c = x.cls ∧ match d with
    | none => x.fs = []
    | some a => ∃ fs', H a = some (.xd fs') ∧ Paired (fun (p : Str × D) (q : Str × V) => p.1 = q.1 ∧ RV K H μ p.2 q.2) x.fs fs'
/-- what is wanted holds of a result -/
def Ok {α β : Type} (Ex : XK) (H : Hp) (μ : Mu) (R : Hp → Mu → α → β → Prop) (Q : β → Hp → Prop) : Res α → Prop
  | .no => False
  | .exc x m' => ∀ H' μ' c d, Ext K H μ H' μ' → RH K H' μ' m' → RX K H' μ' x c d → Ex c d H'
  | .ok a m' => ∀ v H' μ', Ext K H μ H' μ' → RH K H' μ' m' → R H' μ' a v → Q v H'
def OkS (W : WX) (H : Hp) (μ : Mu) (D : Ends) : Fl → Prop
  | .no => False
  | .exc x ρ m' => ∀ σ' H' μ' c d, Ext K H μ H' μ' → RH K H' μ' m' → RS K H' μ' ρ σ' → RX K H' μ' x c d → W c d σ' H'
  | .nx ρ m' => ∀ σ' H' μ', Ext K H μ H' μ' → RH K H' μ' m' → RS K H' μ' ρ σ' → D.nx σ' H'
  | .bk ρ m' => ∀ σ' H' μ', Ext K H μ H' μ' → RH K H' μ' m' → RS K H' μ' ρ σ' → D.bk σ' H'
  | .ct ρ m' => ∀ σ' H' μ', Ext K H μ H' μ' → RH K H' μ' m' → RS K H' μ' ρ σ' → D.ct σ' H'
  | .rt d m' => ∀ v H' μ', Ext K H μ H' μ' → RH K H' μ' m' → RV K H' μ' d v → D.rt v H'
abbrev RVv : Hp → Mu → D → V → Prop := fun H μ d v => RV K H μ d v
abbrev RVB : Hp → Mu → Bool → Bool → Prop := fun _ _ a b => a = b
abbrev RVn (n : Nat) : Hp → Mu → List D → List V → Prop := fun H μ ds vs => RVs K H μ ds vs ∧ ds.length = n
/-- the wish of a function's result -/
def tR {α β : Type} (W : WX) (R : Hp → Mu → α → β → Prop) (f : En → Me → Res α) : St → Hp → (β → Hp → Prop) → Prop :=
  fun σ H Q => ∃ μ ρ m, RH K H μ m ∧ RS K H μ ρ σ ∧ Ok K (fun c d H' => W c d σ H') H μ R Q (f ρ m)
def tS (W : WX) (f : MS) : TS := fun D σ H => ∃ μ ρ m, RH K H μ m ∧ RS K H μ ρ σ ∧ OkS K W H μ D (f ρ m)
end
abbrev PD (X : Cx) (W : WX) (e : Expr) (f : ME) : Prop := PE X e (tR X.K W (RVv X.K) f)
abbrev PDT (X : Cx) (W : WX) (e : Expr) (f : MT) : Prop := PT X e (tR X.K W RVB f)
abbrev PDA (X : Cx) (W : WX) (n : Nat) (es : List Expr) (f : MA) : Prop := PA X es (tR X.K W (RVn X.K n) f)
abbrev PDS (X : Cx) (W : WX) (st : Stmt) (f : MS) : Prop := PS X st (tS X.K W f)
abbrev PDB (X : Cx) (W : WX) (sts : List Stmt) (f : MS) : Prop := PSs X sts (tS X.K W f)

section
variable {K : PySem.W.Frag} {H H' H1 : Hp} {μ μ' μ1 : Mu} {W : WX} {Ex : XK} {m : Me} {ρ : En} {σ : St}
theorem Ok.ext {α β : Type} {R : Hp → Mu → α → β → Prop} {Q : β → Hp → Prop} {r : Res α} (h : Ok K Ex H μ R Q r) (e : Ext K H μ H1 μ1) : Ok K Ex H1 μ1 R Q r := by
  cases r with
  | no => exact h
  | exc x m' => exact fun H' μ' c d e' => h H' μ' c d (e.trans e')
  | ok a m' => exact fun v H' μ' e' => h v H' μ' (e.trans e')
theorem OkS.ext {D : Ends} {r : Fl} (h : OkS K W H μ D r) (e : Ext K H μ H1 μ1) : OkS K W H1 μ1 D r := by
  cases r with
  | no => exact h
  | exc x ρ m' => exact fun σ' H' μ' c d e' => h σ' H' μ' c d (e.trans e')
  | nx ρ m' => exact fun σ' H' μ' e' => h σ' H' μ' (e.trans e')
  | bk ρ m' => exact fun σ' H' μ' e' => h σ' H' μ' (e.trans e')
  | ct ρ m' => exact fun σ' H' μ' e' => h σ' H' μ' (e.trans e')
  | rt d m' => exact fun v H' μ' e' => h v H' μ' (e.trans e')
theorem OkS.ends {D D' : Ends} {r : Fl} (h : OkS K W H μ D r) (n : ∀ ρ m, r ≠ .nx ρ m) (e1 : D'.rt = D.rt) (e2 : D'.bk = D.bk) (e3 : D'.ct = D.ct) : OkS K W H μ D' r := by
  cases r with
  | nx ρ m' => exact absurd rfl (n ρ m')
  | no => exact h
  | exc x ρ m' => exact h
  | bk ρ m' => simpa only [OkS, e2] using h
  | ct ρ m' => simpa only [OkS, e3] using h
  | rt d m' => simpa only [OkS, e1] using h
/-- one thing after another -/
theorem seqR {α β γ δ : Type} {R : Hp → Mu → α → β → Prop} {R' : Hp → Mu → γ → δ → Prop} {Q : δ → Hp → Prop} {Q1 : β → Hp → Prop} {f : En → Me → Res α} {g : α → Me → Res γ}
    (q : Ok K (fun c d H' => W c d σ H') H μ R' Q ((f ρ m).bind g)) (hH : RH K H μ m) (hS : RS K H μ ρ σ)
    (h : ∀ a m1 v H1 μ1, Ext K H μ H1 μ1 → RH K H1 μ1 m1 → R H1 μ1 a v → RS K H1 μ1 ρ σ → Ok K (fun c d H' => W c d σ H') H1 μ1 R' Q (g a m1) → Q1 v H1) : tR K W R f σ H Q1 := by
  refine ⟨μ, ρ, m, hH, hS, ?_⟩
  cases e : f ρ m with
  | no => rw [e] at q; exact q
  | exc x m' => rw [e] at q; exact q
  | ok a m1 => rw [e] at q; exact fun v H1 μ1 x hH1 r => h a m1 v H1 μ1 x hH1 r (hS.ext x) (q.ext x)
/-- .. in a statement -/
def bindS {α : Type} (r : Res α) (ρ : En) (g : α → Me → Fl) : Fl := match r with
  | .no => .no
  | .exc x m => .exc x ρ m
  | .ok a m => g a m
@[simp] theorem bindS_ok {α : Type} {a : α} {m : Me} {ρ : En} {g : α → Me → Fl} : bindS (.ok a m) ρ g = g a m := rfl
@[simp] theorem bindS_no {α : Type} {ρ : En} {g : α → Me → Fl} : bindS .no ρ g = .no := rfl
@[simp] theorem bindS_exc {α : Type} {x : Exn} {m : Me} {ρ : En} {g : α → Me → Fl} : bindS (.exc x m) ρ g = .exc x ρ m := rfl
theorem seqS {α β : Type} {R : Hp → Mu → α → β → Prop} {D : Ends} {Q1 : β → Hp → Prop} {f : En → Me → Res α} {g : α → Me → Fl}
    (q : OkS K W H μ D (bindS (f ρ m) ρ g)) (hH : RH K H μ m) (hS : RS K H μ ρ σ)
    (h : ∀ a m1 v H1 μ1, Ext K H μ H1 μ1 → RH K H1 μ1 m1 → R H1 μ1 a v → RS K H1 μ1 ρ σ → OkS K W H1 μ1 D (g a m1) → Q1 v H1) : tR K W R f σ H Q1 := by
  refine ⟨μ, ρ, m, hH, hS, ?_⟩
  cases e : f ρ m with
  | no => rw [e] at q; exact q
  | exc x m' => rw [e] at q; exact fun H' μ' c d x hH' r => q σ H' μ' c d x hH' (hS.ext x) r
  | ok a m1 => rw [e] at q; exact fun v H1 μ1 x hH1 r => h a m1 v H1 μ1 x hH1 r (hS.ext x) (q.ext x)
end

section
variable {X : Cx} {W : WX} {e a b : Expr} {es : List Expr} {pos : Pos} {f g fa fb : ME}
theorem _root_.L2.PE.imp {t t' : TE} (h : PE X e t) (w : ∀ σ H Q, t' σ H Q → t σ H Q) : PE X e t' := ⟨fun pins s σ H Q I q => h.run pins s σ H Q I (w σ H Q q)⟩
theorem _root_.L2.PT.imp {t t' : TT} (h : PT X e t) (w : ∀ σ H Q, t' σ H Q → t σ H Q) : PT X e t' := ⟨fun pins s σ H Q I q => h.run pins s σ H Q I (w σ H Q q)⟩
theorem _root_.L2.PA.imp {t t' : TA} (h : PA X es t) (w : ∀ σ H Q, t' σ H Q → t σ H Q) : PA X es t' := ⟨fun pos pins s σ H Q I q => h.run pos pins s σ H Q I (w σ H Q q)⟩
theorem _root_.L2.PS.imp {st : Stmt} {t t' : TS} (h : PS X st t) (w : ∀ D σ H, t' D σ H → t D σ H) : PS X st t' := ⟨fun pins s σ H D I q => h.run pins s σ H D I (w D σ H q)⟩
theorem _root_.L2.PSs.imp {st : List Stmt} {t t' : TS} (h : PSs X st t) (w : ∀ D σ H, t' D σ H → t D σ H) : PSs X st t' := ⟨fun pins s σ H D I q => h.run pins s σ H D I (w D σ H q)⟩

/-! ### names, constants -/
def mVar (i : Nat) : ME := fun ρ m => match ρ[i]? with
  | some (some d) => .ok d m
  | _ => .no
theorem pd_var (i : Nat) {x : Str} (hN : X.N[i]? = some x := by rfl) (hv : Vis X.env.scope x := by first | exact Or.inl rfl | exact Or.inr (Or.inl rfl) | exact Or.inr (Or.inr rfl)) (hd : (x == ("__debug__" : Str)) = false := by decide)
    (hcd : (x == ("__classdict__" : Str)) = false := by decide) : PD X W (.Name x pos) (mVar i) :=
  (pe_var (i := i) hN hv hd hcd).imp fun σ H Q ⟨μ, ρ, m, hH, hS, q⟩ => by
    unfold mVar at q
    cases e : ρ[i]? with
    | none => simp only [e] at q; exact q.elim
    | some o =>
      cases o with
      | none => simp only [e] at q; exact q.elim
      | some d =>
        simp only [e] at q
        obtain ⟨v, h1, h2⟩ := hS.2 i d e
        exact ⟨v, h1, q v H μ .refl hH h2⟩
def mC (d : D) : ME := fun _ m => .ok d m
theorem pd_const {v : V} {d : D} (h : PE X e (tC v)) (r : ∀ H μ, RV X.K H μ d v) : PD X W e (mC d) := h.imp fun σ H Q ⟨μ, ρ, m, hH, hS, q⟩ => q v H μ .refl hH (r H μ)
theorem pd_int {i j} : PD X W (.Constant (.int i) j pos) (mC (.int i)) := pd_const pe_int fun _ _ => by simp [RV]
theorem pd_bl {i j} : PD X W (.Constant (.bool i) j pos) (mC (.bl i)) := pd_const pe_bl fun _ _ => by simp [RV]
theorem pd_non {j} : PD X W (.Constant .none j pos) (mC .non) := pd_const pe_non fun _ _ => by simp [RV]
theorem pd_str {x j} : PD X W (.Constant (.str x) j pos) (mC (.str x)) := pd_const pe_str fun _ _ => by simp [RV]

/-! ### argument lists, displays -/
def mNil : MA := fun _ m => .ok [] m
def mCons (f : ME) (g : MA) : MA := fun ρ m => (f ρ m).bind fun d m => (g ρ m).bind fun ds m => .ok (d :: ds) m
theorem pda_nil : PDA X W 0 [] mNil := PA.imp pa_nil fun σ H Q ⟨μ, ρ, m, hH, hS, q⟩ => q [] H μ .refl hH ⟨by simp [RVs], rfl⟩
theorem pda_cons {n : Nat} {f : ME} {g : MA} (he : PD X W e f) (hr : PDA X W n es g) (hs : starEach (e :: es) X.env = (false, eval e X.env) :: starEach es X.env := by rfl) : PDA X W (n + 1) (e :: es) (mCons f g) :=
  PA.imp (pa_cons he hr hs) fun σ H Q ⟨μ, ρ, m, hH, hS, q⟩ => by
    refine seqR q hH hS fun d m1 v H1 μ1 e1 hH1 r1 hS1 q1 => ?_
    refine seqR q1 hH1 hS1 fun ds m2 vs H2 μ2 e2 hH2 r2 hS2 q2 => ?_
    exact q2 (v :: vs) H2 μ2 .refl hH2 ⟨by simp only [RVs]; exact ⟨v, vs, rfl, RV.ext e2 d v r1, r2.1⟩, by simp [r2.2]⟩
def mTup (f : MA) : ME := fun ρ m => (f ρ m).bind fun ds m => .ok (.tup ds) m
def mLst (f : MA) : ME := fun ρ m => (f ρ m).bind fun ds m => .ok (.lst ds) m
def mNew (f : MA) : ME := fun ρ m => (f ρ m).bind fun ds m => .ok (.ref m.length) (m ++ [.lst ds])
theorem le_line {n : Nat} (h : n ≤ 1000) : n ≤ sizeLine := Nat.le_of_lt (small1000 h)
theorem pd_tup {x1} {n : Nat} {f : MA} (h : PDA X W n es f) (hn : n ≤ 1000 := by decide) : PD X W (.Tuple es x1 pos) (mTup f) :=
  (pe_tupN h).imp fun σ H Q ⟨μ, ρ, m, hH, hS, q⟩ => by
    refine seqR q hH hS fun ds m1 vs H1 μ1 e1 hH1 r1 hS1 q1 => ?_
    have hl := r1.1.length
    have hz : vs.length ≤ sizeLine := by rw [← hl, r1.2]; exact le_line hn
    refine ⟨hz, fun p o hd hp => ?_⟩
    have ex := Ext.new (o := .frz o (.tup vs)) hH1 hp
    refine q1 _ _ μ1 ex (hH1.new hp) ?_
    simp only [RV]
    exact ⟨p, vs, rfl, .inl ⟨o, upd_same, hd⟩, hz, RVs.ext ex _ _ r1.1⟩
theorem pd_lst {n : Nat} {f : MA} (h : PDA X W n es f) (hn : n ≤ 1000 := by decide) : PD X W (.List es pos) (mLst f) :=
  (pe_lst h).imp fun σ H Q ⟨μ, ρ, m, hH, hS, q⟩ => by
    refine seqR q hH hS fun ds m1 vs H1 μ1 e1 hH1 r1 hS1 q1 => ?_
    have hl := r1.1.length
    have hz : vs.length ≤ sizeLine := by rw [← hl, r1.2]; exact le_line hn
    refine ⟨hz, fun p hp => ?_⟩
    have ex := Ext.new (o := .lst vs) hH1 hp
    refine q1 _ _ μ1 ex (hH1.new hp) ?_
    simp only [RV]
    exact ⟨p, vs, rfl, ⟨hH1.notin hp, fun z => hH1.hid _ z hp⟩, upd_same, hz, RVs.ext ex _ _ r1.1⟩
/-- a list that will change -/
theorem pd_new {n : Nat} {f : MA} (h : PDA X W n es f) (hn : n ≤ 1000 := by decide) : PD X W (.List es pos) (mNew f) :=
  (pe_lst h).imp fun σ H Q ⟨μ, ρ, m, hH, hS, q⟩ => by
    refine seqR q hH hS fun ds m1 vs H1 μ1 e1 hH1 r1 hS1 q1 => ?_
    have hl := r1.1.length
    have hz : vs.length ≤ sizeLine := by rw [← hl, r1.2]; exact le_line hn
    refine ⟨hz, fun p hp => ?_⟩
    have ex := Ext.cell (o := .lst vs) hH1 hp
    refine q1 _ _ (μ1.add p) ex (hH1.cell hp ⟨vs, upd_same, hz, RVs.ext ex _ _ r1.1⟩) ?_
    simp only [RV]
    exact ⟨p, rfl, by simp [Mu.add, ← hH1.len]⟩
/-- {} that will change -/
def mNewK : ME := fun _ m => .ok (.ref m.length) (m ++ [.dK []])
def mNewT : ME := fun _ m => .ok (.ref m.length) (m ++ [.dT []])
theorem pd_newK : PD X W (.Dict [] [] pos) mNewK := pe_dnewK.imp fun σ H Q ⟨μ, ρ, m, hH, hS, q⟩ p hp => by
  refine q _ _ (μ.add p) (Ext.cell hH hp) (hH.cell hp ⟨[], upd_same, by simp [RVk]⟩) ?_
  simp only [RV]
  exact ⟨p, rfl, by simp [Mu.add, ← hH.len]⟩
theorem pd_newT : PD X W (.Dict [] [] pos) mNewT := pe_dnewT.imp fun σ H Q ⟨μ, ρ, m, hH, hS, q⟩ p hp => by
  refine q _ _ (μ.add p) (Ext.cell hH hp) (hH.cell hp ⟨[], upd_same, .nil⟩) ?_
  simp only [RV]
  exact ⟨p, rfl, by simp [Mu.add, ← hH.len]⟩

/-! ### operators -/
def m1 (g : D → Me → Res D) (fa : ME) : ME := fun ρ m => (fa ρ m).bind g
def m2 (g : D → D → Me → Res D) (fa fb : ME) : ME := fun ρ m => (fa ρ m).bind fun d m => (fb ρ m).bind fun d' m => g d d' m
/-- a rule over values and a function over data -/
def G2 (K : PySem.W.Frag) (r : R2) (g : D → D → Me → Res D) : Prop := ∀ (Ex : XK) (H : Hp) (μ : Mu) (m : Me) (d d' : D) (x y : V) (Q : VK), RH K H μ m → RV K H μ d x → RV K H μ d' y → Ok K Ex H μ (RVv K) Q (g d d' m) → r x y H Q
def G1 (K : PySem.W.Frag) (r : V → Hp → VK → Prop) (g : D → Me → Res D) : Prop := ∀ (Ex : XK) (H : Hp) (μ : Mu) (m : Me) (d : D) (x : V) (Q : VK), RH K H μ m → RV K H μ d x → Ok K Ex H μ (RVv K) Q (g d m) → r x H Q
theorem seq2 {r : R2} {g : D → D → Me → Res D} (hg : G2 X.K r g) {σ : St} {H : Hp} {Q : VK} (h : tR X.K W (RVv X.K) (m2 g fa fb) σ H Q) : tOp r (tR X.K W (RVv X.K) fa) (tR X.K W (RVv X.K) fb) σ H Q := by
  obtain ⟨μ, ρ, m, hH, hS, q⟩ := h
  refine seqR q hH hS fun d m1 v H1 μ1 e1 hH1 r1 hS1 q1 => ?_
  refine seqR q1 hH1 hS1 fun d' m2 v' H2 μ2 e2 hH2 r2 hS2 q2 => ?_
  exact hg _ H2 μ2 m2 d d' v v' Q hH2 (RV.ext e2 d v r1) r2 q2
theorem pd_op {op : Operator} {r : R2} {g : D → D → Me → Res D} (ho : OpR X (binaryOp op) r) (hg : G2 X.K r g) (ha : PD X W a fa) (hb : PD X W b fb) : PD X W (.BinOp a op b pos) (m2 g fa fb) :=
  (pe_op ho ha hb).imp fun σ H Q h => seq2 hg h
theorem pd_un {op : UnaryOp} {r : V → Hp → VK → Prop} {g : D → Me → Res D} (ho : UnR X (unaryOp op) r) (hg : G1 X.K r g) (ha : PD X W a fa) : PD X W (.UnaryOp op a pos) (m1 g fa) :=
  (pe_un ho ha).imp fun σ H Q ⟨μ, ρ, m, hH, hS, q⟩ => seqR q hH hS fun d m1 v H1 μ1 e1 hH1 r1 hS1 q1 => hg _ H1 μ1 m1 d v Q hH1 r1 q1
theorem pd_cmp {op : CmpOp} {r : R2} {g : D → D → Me → Res D} (ho : OpR X (compareOp op) r) (hg : G2 X.K r g) (ha : PD X W a fa) (hb : PD X W b fb) (hm : behindInMarks op b = false) : PD X W (.Compare a [op] [b] pos) (m2 g fa fb) :=
  (pe_cmpR ho ha hb hm).imp fun σ H Q h => seq2 hg h
theorem pd_ix {r : R2} {g : D → D → Me → Res D} (ho : IxR X r) (hg : G2 X.K r g) (ha : PD X W a fa) (hb : PD X W b fb) (hs : PlainIx b := by exact fun _ _ => rfl) : PD X W (.Subscript a b pos) (m2 g fa fb) :=
  (pe_ix ho ha hb hs).imp fun σ H Q h => seq2 hg h

/-! ### tests -/
def asB (d : D) (m : Me) : Res Bool := match d with
  | .bl b => .ok b m
  | _ => .no
def mB (f : ME) : MT := fun ρ m => (f ρ m).bind asB
theorem okB {K : PySem.W.Frag} {Ex : XK} {H : Hp} {μ : Mu} {m : Me} {d : D} {v : V} {Q : Bool → Hp → Prop} (hH : RH K H μ m) (r : RV K H μ d v) (q : Ok K Ex H μ RVB Q (asB d m)) : ∃ c, v = .bl c ∧ Q c H := by
  cases d with
  | bl b => simp only [RV] at r; exact ⟨b, r, q b H μ .refl hH rfl⟩
  | _ => exact q.elim
/-- an expression that gives a truth, as a test -/
theorem pdt_val (h : PD X W e f) (he : ∀ whole, isTrue e X.env whole = (do let v ← whole; standAt e.pos; holding [v] (truthy v)) := by intro _; rfl) : PDT X W e (mB f) :=
  (pt_val h he).imp fun σ H Q ⟨μ, ρ, m, hH, hS, q⟩ => seqR q hH hS fun d m1 v H1 μ1 e1 hH1 r1 hS1 q1 => okB hH1 r1 q1
theorem pdt_cmp {op : CmpOp} {r : R2} {g : D → D → Me → Res D} (ho : OpR X (compareOp op) r) (hg : G2 X.K r g) (ha : PD X W a fa) (hb : PD X W b fb) (hm : behindInMarks op b = false) : PDT X W (.Compare a [op] [b] pos) (mB (m2 g fa fb)) :=
  (pt_cmpR ho ha hb hm).imp fun σ H Q ⟨μ, ρ, m, hH, hS, q⟩ => by
    refine seq2 hg ?_
    exact seqR q hH hS fun d m1 v H1 μ1 e1 hH1 r1 hS1 q1 => okB hH1 r1 q1
def mAnd (f g : MT) : MT := fun ρ m => (f ρ m).bind fun b m => if b = true then g ρ m else .ok false m
def mOr (f g : MT) : MT := fun ρ m => (f ρ m).bind fun b m => if b = true then .ok true m else g ρ m
def mNot (f : MT) : MT := fun ρ m => (f ρ m).bind fun b m => .ok (!b) m
abbrev PDW (X : Cx) (W : WX) (e : Expr) (f : MT) : Prop := PW X e (tR X.K W RVB f)
theorem _root_.L2.PW.imp {t t' : TT} (h : PW X e t) (w : ∀ σ H Q, t' σ H Q → t σ H Q) : PW X e t' := ⟨fun wh pins s σ H Q I q => h.run wh pins s σ H Q I (w σ H Q q)⟩
theorem pdw_and1 {f : MT} (h : PDT X W a f) : PDW X W (.BoolOp .And [a] pos) f := pw_and1 h
theorem pdw_or1 {f : MT} (h : PDT X W a f) : PDW X W (.BoolOp .Or [a] pos) f := pw_or1 h
theorem pdw_and {f g : MT} {rest : List Expr} (ha : PDT X W a f) (hb : PDW X W (.BoolOp .And (b :: rest) pos) g) : PDW X W (.BoolOp .And (a :: b :: rest) pos) (mAnd f g) :=
  PW.imp (pw_and ha hb) fun σ H Q ⟨μ, ρ, m, hH, hS, q⟩ => seqR q hH hS fun d m1 v H1 μ1 e1 hH1 r1 hS1 q1 => by
    subst r1
    cases d with
    | true => exact ⟨μ1, ρ, m1, hH1, hS1, q1⟩
    | false => exact q1 false H1 μ1 .refl hH1 rfl
theorem pdw_or {f g : MT} {rest : List Expr} (ha : PDT X W a f) (hb : PDW X W (.BoolOp .Or (b :: rest) pos) g) : PDW X W (.BoolOp .Or (a :: b :: rest) pos) (mOr f g) :=
  PW.imp (pw_or ha hb) fun σ H Q ⟨μ, ρ, m, hH, hS, q⟩ => seqR q hH hS fun d m1 v H1 μ1 e1 hH1 r1 hS1 q1 => by
    subst r1
    cases d with
    | false => exact ⟨μ1, ρ, m1, hH1, hS1, q1⟩
    | true => exact q1 true H1 μ1 .refl hH1 rfl
theorem pdt_w {f : MT} (h : PDW X W e f) : PDT X W e f := PW.pt h
theorem pdt_not {f : MT} (ha : PDT X W a f) : PDT X W (.UnaryOp .Not a pos) (mNot f) :=
  (pt_not ha).imp fun σ H Q ⟨μ, ρ, m, hH, hS, q⟩ => seqR q hH hS fun d m1 v H1 μ1 e1 hH1 r1 hS1 q1 => by subst r1; exact q1 (!d) H1 μ1 .refl hH1 rfl
/-- truths as values: and, or, not; the last part may be any value -/
def mAndV (f g : ME) : ME := fun ρ m => (f ρ m).bind fun d m => match d with
  | .bl true => g ρ m
  | .bl false => .ok (.bl false) m
  | _ => .no
def mOrV (f g : ME) : ME := fun ρ m => (f ρ m).bind fun d m => match d with
  | .bl true => .ok (.bl true) m
  | .bl false => g ρ m
  | _ => .no
def mNotV (f : ME) : ME := fun ρ m => (f ρ m).bind fun d m => match d with
  | .bl b => .ok (.bl (!b)) m
  | _ => .no
theorem pd_one {op} (h : PD X W a f) : PD X W (.BoolOp op [a] pos) f := pe_one h
theorem pd_and {rest : List Expr} (ha : PD X W a f) (hb : PD X W (.BoolOp .And (b :: rest) pos) g) : PD X W (.BoolOp .And (a :: b :: rest) pos) (mAndV f g) :=
  (pe_and ha hb).imp fun σ H Q ⟨μ, ρ, m, hH, hS, q⟩ => seqR q hH hS fun d m1 v H1 μ1 e1 hH1 r1 hS1 q1 => by
    cases d with
    | bl b =>
      simp only [RVv, RV] at r1
      cases b with
      | true => exact ⟨true, r1, by rw [if_pos rfl]; exact ⟨μ1, ρ, m1, hH1, hS1, q1⟩⟩
      | false => exact ⟨false, r1, by rw [if_neg Bool.false_ne_true]; exact q1 _ H1 μ1 .refl hH1 (by simp [RV])⟩
    | _ => exact q1.elim
theorem pd_or {rest : List Expr} (ha : PD X W a f) (hb : PD X W (.BoolOp .Or (b :: rest) pos) g) : PD X W (.BoolOp .Or (a :: b :: rest) pos) (mOrV f g) :=
  (pe_or ha hb).imp fun σ H Q ⟨μ, ρ, m, hH, hS, q⟩ => seqR q hH hS fun d m1 v H1 μ1 e1 hH1 r1 hS1 q1 => by
    cases d with
    | bl b =>
      simp only [RVv, RV] at r1
      cases b with
      | false => exact ⟨false, r1, by rw [if_neg Bool.false_ne_true]; exact ⟨μ1, ρ, m1, hH1, hS1, q1⟩⟩
      | true => exact ⟨true, r1, by rw [if_pos rfl]; exact q1 _ H1 μ1 .refl hH1 (by simp [RV])⟩
    | _ => exact q1.elim
theorem pd_not (ha : PD X W a f) : PD X W (.UnaryOp .Not a pos) (mNotV f) :=
  (pe_not ha).imp fun σ H Q ⟨μ, ρ, m, hH, hS, q⟩ => seqR q hH hS fun d m1 v H1 μ1 e1 hH1 r1 hS1 q1 => by
    cases d with
    | bl b => simp only [RVv, RV] at r1; exact ⟨b, r1, q1 _ H1 μ1 .refl hH1 (by simp [RV])⟩
    | _ => exact q1.elim
def mIf (c : MT) (f g : ME) : ME := fun ρ m => (c ρ m).bind fun b m => if b = true then f ρ m else g ρ m
theorem pd_if {c : Expr} {fc : MT} (hc : PDT X W c fc) (ha : PD X W a f) (hb : PD X W b g) : PD X W (.IfExp c a b pos) (mIf fc f g) :=
  (pe_ifExp hc ha hb).imp fun σ H Q ⟨μ, ρ, m, hH, hS, q⟩ => seqR q hH hS fun d m1 v H1 μ1 e1 hH1 r1 hS1 q1 => by
    subst r1
    cases d with
    | true => rw [if_pos rfl]; exact ⟨μ1, ρ, m1, hH1, hS1, q1⟩
    | false => rw [if_neg Bool.false_ne_true]; exact ⟨μ1, ρ, m1, hH1, hS1, q1⟩

/-! ### blocks -/
section
variable {st : Stmt} {sts rest : List Stmt} {f' g' : MS}
def sNext : MS := fun ρ m => .nx ρ m
def sSeq (f g : MS) : MS := fun ρ m => match f ρ m with
  | .nx ρ m => g ρ m
  | r => r
theorem pdb_nil : PDB X W [] sNext := PSs.imp pss_nil fun D σ H ⟨μ, ρ, m, hH, hS, q⟩ => q σ H μ .refl hH hS
theorem pdb_cons {f g : MS} (h1 : PDS X W st f) (h2 : PDB X W rest g) : PDB X W (st :: rest) (sSeq f g) :=
  PSs.imp (pss_cons h1 h2) fun D σ H ⟨μ, ρ, m, hH, hS, q⟩ => by
    refine ⟨μ, ρ, m, hH, hS, ?_⟩
    unfold sSeq at q
    cases e : f ρ m with
    | nx ρ1 m1 => rw [e] at q; exact fun σ' H' μ' e1 hH1 hS1 => ⟨μ', ρ1, m1, hH1, hS1, q.ext e1⟩
    | no => rw [e] at q; exact q
    | exc x ρ1 m1 => rw [e] at q; exact q
    | rt d m1 => rw [e] at q; exact q
    | bk ρ1 m1 => rw [e] at q; exact q
    | ct ρ1 m1 => rw [e] at q; exact q
theorem pdb_one {f : MS} (h : PDS X W st f) : PDB X W [st] (sSeq f sNext) := pdb_cons h pdb_nil
def sSet (i : Nat) (f : ME) : MS := fun ρ m => bindS (f ρ m) ρ fun d m => .nx (ρ.set i (some d)) m
theorem pds_set (i : Nat) {x : Str} {e : Expr} {f : ME} {pos' : Pos} (hN : X.N.Nodup) (he : PD X W e f) (hi : X.N[i]? = some x := by rfl) (hx : Loc X.env.scope x := by first | exact .inl rfl | exact .inr rfl) (hs : swapsWith e (some (.Name x pos')) pos.line X.env = pure false := by rfl)
    (hf : X.fn x = true ∨ X.env.scope.names.lookup x = some .local := by first | exact .inl rfl | exact .inr rfl | assumption) : PDS X W (.Assign [.Name x pos'] e pos) (sSet i f) :=
  PS.imp (ps_set hN hi hx he hs hf) fun D σ H ⟨μ, ρ, m, hH, hS, q⟩ => seqS q hH hS fun d m1 v H1 μ1 e1 hH1 r1 hS1 q1 => q1 _ H1 μ1 .refl hH1 (hS1.set r1 i)
def sRet (f : ME) : MS := fun ρ m => bindS (f ρ m) ρ fun d m => .rt d m
theorem pds_ret {f : ME} (he : PD X W e f) : PDS X W (.Return (some e) pos) (sRet f) :=
  PS.imp (ps_ret he) fun D σ H ⟨μ, ρ, m, hH, hS, q⟩ => seqS q hH hS fun d m1 v H1 μ1 e1 hH1 r1 hS1 q1 => q1 v H1 μ1 .refl hH1 r1
def sRetN : MS := fun _ m => .rt .non m
theorem pds_retN : PDS X W (.Return none pos) sRetN := PS.imp ps_retN fun D σ H ⟨μ, ρ, m, hH, hS, q⟩ => q _ H μ .refl hH (by simp [RV])
def sDo (f : ME) : MS := fun ρ m => bindS (f ρ m) ρ fun _ m => .nx ρ m
theorem pds_expr {f : ME} (he : PD X W e f) (hs : swapsWith e none pos.line X.env = pure false := by rfl) : PDS X W (.Expr e pos) (sDo f) :=
  PS.imp (ps_expr he hs) fun D σ H ⟨μ, ρ, m, hH, hS, q⟩ => seqS q hH hS fun d m1 v H1 μ1 e1 hH1 r1 hS1 q1 => q1 σ H1 μ1 .refl hH1 hS1
def sIf (c : MT) (f g : MS) : MS := fun ρ m => bindS (c ρ m) ρ fun b m => if b = true then f ρ m else g ρ m
theorem pds_if {c : Expr} {fc : MT} {body orelse : List Stmt} {f g : MS} (hc : PDT X W c fc) (h1 : PDB X W body f) (h2 : PDB X W orelse g) : PDS X W (.If c body orelse pos) (sIf fc f g) :=
  PS.imp (ps_if hc h1 h2) fun D σ H ⟨μ, ρ, m, hH, hS, q⟩ => seqS q hH hS fun d m1 v H1 μ1 e1 hH1 r1 hS1 q1 => by
    subst r1
    cases d with
    | true => rw [if_pos rfl]; exact ⟨μ1, ρ, m1, hH1, hS1, q1⟩
    | false => rw [if_neg Bool.false_ne_true]; exact ⟨μ1, ρ, m1, hH1, hS1, q1⟩
def sBk : MS := fun ρ m => .bk ρ m
def sCt : MS := fun ρ m => .ct ρ m
theorem pds_break : PDS X W (.Break pos) sBk := PS.imp ps_break fun D σ H ⟨μ, ρ, m, hH, hS, q⟩ => q σ H μ .refl hH hS
theorem pds_cont : PDS X W (.Continue pos) sCt := PS.imp ps_continue fun D σ H ⟨μ, ρ, m, hH, hS, q⟩ => q σ H μ .refl hH hS
theorem pds_pass : PDS X W (.Pass pos) sNext := PS.imp ps_pass fun D σ H ⟨μ, ρ, m, hH, hS, q⟩ => q σ H μ .refl hH hS
end
end
end FL

set_option maxRecDepth 100000
namespace FL
open PySem L2

/-! ### what is walked -/
/-- an iterator that gives these data as long as the heap goes on and the guard holds -/
def Goes1 (K : PySem.W.Frag) (J : It) (H0 : Hp) (μ0 : Mu) (ds : List D) (gd : Me → Bool) : Prop :=
  ∀ H μ m, Tr K H0 μ0 H μ → RH K H μ m → gd m = true →
    (∀ i d, ds[i]? = some d → J.go i H ∧ ∀ x H', J.yld i H x H' → Ext K H μ H' μ ∧ RH K H' μ m ∧ RV K H' μ d x) ∧ J.stop ds.length H
abbrev RIt (K : PySem.W.Frag) : Hp → Mu → List D × (Me → Bool) → It → Prop := fun H μ p J => p.1.length ≤ sizeLine ∧ Goes1 K J H μ p.1 p.2
abbrev MI := En → Me → Res (List D × (Me → Bool))
abbrev PDI (X : Cx) (W : WX) (tg e : Expr) (f : MI) : Prop := PI X tg e (tR X.K W (RIt X.K) f)
section
variable {X : Cx} {W : WX} {tg e a b : Expr} {es : List Expr} {p pos : Pos}
theorem _root_.L2.PI.imp {t t' : TI} (h : PI X tg e t) (w : ∀ σ H R, t' σ H R → t σ H R) : PI X tg e t' := ⟨fun pins s σ H R I q => h.run pins s σ H R I (w σ H R q)⟩
/-- a list or a tuple -/
theorem pi_seq {te : TE} (he : PE X e te) : PI X tg e (fun σ H R => te σ H fun x H1 => (∃ a, x = .ref a ∧ (∃ xs, SqL X.K H1 a xs) ∧ R (Itl X.K a) H1) ∨ ∃ a, x = .ref a ∧ (∃ xs, SqT X.K H1 a xs) ∧ R (Itt X.K a) H1) := by
  constructor
  intro pins s σ H R I h
  refine thn (he.run pins s σ H _ I h) ?_
  rintro v s1 ⟨x, H1, I1, r1, ⟨a, rfl, ⟨xs, hq⟩, q⟩ | ⟨a, rfl, ⟨xs, hq⟩, q⟩⟩
  all_goals cases r1
  · obtain ⟨its, _, pl, _⟩ := I1.list hq
    refine wpAny_pyIter_list pl.isList ⟨_, [s1.heap.objs.size], _, _, H1, rfl, ?_, turn_list a _, ?_, ?_, q⟩
    · exact I1.kept (t' := s1.toks) fun b o z => Heap.get?_push_of_some _ z
    · exact ⟨_, Heap.get?_push_size _ rfl, rfl, rfl⟩
    · intro b hb
      rw [List.mem_singleton.mp hb]
      exact I1.fpOk (Nat.le_refl _) (I1.hok.fresh (Nat.le_refl _))
  · obtain ⟨its, _, pl, _⟩ := I1.tuple hq
    refine wpAny_pyIter_tuple (show s1.heap.IsTuple a its.toArray from pl) ⟨_, [s1.heap.objs.size], _, _, H1, rfl, ?_, turn_tuple a _, ?_, ?_, q⟩
    · exact I1.kept (t' := s1.toks) fun b o z => Heap.get?_push_of_some _ z
    · exact ⟨_, Heap.get?_push_size _ rfl, rfl, rfl⟩
    · intro b hb
      rw [List.mem_singleton.mp hb]
      exact I1.fpOk (Nat.le_refl _) (I1.hok.fresh (Nat.le_refl _))
def gdY : Me → Bool := fun _ => true
noncomputable def gdL (i : Nat) (ds : List D) : Me → Bool := fun m => @decide (m[i]? = some (.lst ds)) (Classical.propDecidable _)
/-- the items of a sequence -/
noncomputable def asIt (d : D) (m : Me) : Res (List D × (Me → Bool)) := match d with
  | .tup ds => .ok (ds, gdY) m
  | .lst ds => .ok (ds, gdY) m
  | .ref i => match m[i]? with
    | some (.lst ds) => .ok (ds, gdL i ds) m
    | _ => .no
  | _ => .no
noncomputable def iSeq (f : ME) : MI := fun ρ m => (f ρ m).bind asIt
theorem SqL.ext {K : PySem.W.Frag} {H H' : Hp} {μ μ' : Mu} (x : Tr K H μ H' μ') {a : Addr} {vs : List V} (n : a ∉ μ.l ∧ a ∉ μ.h) (h : H a = some (.lst vs)) : SqL K H' a vs := .of (x.dat a (.lst vs) n trivial h).1
theorem goes_list {K : PySem.W.Frag} {H : Hp} {μ : Mu} {a : Addr} {vs : List V} {ds : List D} (n : a ∉ μ.l ∧ a ∉ μ.h) (h : H a = some (.lst vs)) (r : RVs K H μ ds vs) : Goes1 K (Itl K a) H μ ds gdY := by
  intro H1 μ1 m x hH _
  have hs := SqL.ext x n h
  have r1 := RVs.map x _ _ r
  refine ⟨fun i d e => ?_, vs, hs, by rw [r1.length]; exact Nat.le_refl _⟩
  obtain ⟨v, h1, h2⟩ := r1.get e
  refine ⟨⟨vs, v, hs, h1⟩, ?_⟩
  rintro y H' ⟨rfl, hy⟩
  have hy' := hy vs hs
  rw [h1] at hy'; cases hy'
  exact ⟨.refl, hH, h2⟩
theorem goes_tup {K : PySem.W.Frag} {H : Hp} {μ : Mu} {a : Addr} {vs : List V} {ds : List D} (h : TupN K H a vs) (r : RVs K H μ ds vs) : Goes1 K (Itt K a) H μ ds gdY := by
  intro H1 μ1 m x hH _
  have hs := (x.tup a vs h).sq
  have r1 := RVs.map x _ _ r
  refine ⟨fun i d e => ?_, vs, hs, by rw [r1.length]; exact Nat.le_refl _⟩
  obtain ⟨v, h1, h2⟩ := r1.get e
  refine ⟨⟨vs, v, hs, h1⟩, ?_⟩
  rintro y H' ⟨rfl, hy⟩
  have hy' := hy vs hs
  rw [h1] at hy'; cases hy'
  exact ⟨.refl, hH, h2⟩
theorem goes_cell {K : PySem.W.Frag} {H : Hp} {μ : Mu} {a : Addr} {i : Nat} {ds : List D} (ha : μ.l[i]? = some a) : Goes1 K (Itl K a) H μ ds (gdL i ds) := by
  intro H1 μ1 m x hH g
  have g' : m[i]? = some (.lst ds) := @of_decide_eq_true _ (Classical.propDecidable _) g
  obtain ⟨a', e, vs, h1, hz, r1⟩ := hH.at' i _ g'
  rw [x.get i a ha] at e; cases e
  have hs : SqL K H1 a vs := .of h1
  refine ⟨fun j d e => ?_, vs, hs, by rw [r1.length]; exact Nat.le_refl _⟩
  obtain ⟨v, h3, h2⟩ := r1.get e
  refine ⟨⟨vs, v, hs, h3⟩, ?_⟩
  rintro y H' ⟨rfl, hy⟩
  have hy' := hy vs hs
  rw [h3] at hy'; cases hy'
  exact ⟨.refl, hH, h2⟩
theorem pdi_seq {f : ME} (he : PD X W e f) : PDI X W tg e (iSeq f) :=
  PI.imp (pi_seq he) fun σ H R ⟨μ, ρ, m, hH, hS, q⟩ => seqR q hH hS fun d m1 v H1 μ1 e1 hH1 r1 hS1 q1 => by
    cases d with
    | tup ds =>
      simp only [RVv, RV] at r1
      obtain ⟨a, vs, rfl, hs, hz, hr⟩ := r1
      exact .inr ⟨a, rfl, ⟨vs, hs.sq⟩, q1 _ H1 μ1 .refl hH1 ⟨by rw [hr.length]; exact hz, goes_tup hs hr⟩⟩
    | lst ds =>
      simp only [RVv, RV] at r1
      obtain ⟨a, vs, rfl, hn, hs, hz, hr⟩ := r1
      exact .inl ⟨a, rfl, ⟨vs, .of hs⟩, q1 _ H1 μ1 .refl hH1 ⟨by rw [hr.length]; exact hz, goes_list hn hs hr⟩⟩
    | ref i =>
      simp only [RVv, RV] at r1
      obtain ⟨a, rfl, ha⟩ := r1
      unfold asIt at q1
      cases e : m1[i]? with
      | none => simp only [e] at q1; exact q1.elim
      | some c =>
        cases c with
        | lst ds =>
          simp only [e] at q1
          obtain ⟨a', e', vs, h1, hz, r2⟩ := hH1.at' i _ e
          rw [ha] at e'; cases e'
          exact .inl ⟨a, rfl, ⟨vs, .of h1⟩, q1 _ H1 μ1 .refl hH1 ⟨by rw [r2.length]; exact hz, goes_cell ha⟩⟩
        | _ => simp only [e] at q1; exact q1.elim
    | _ => exact q1.elim
/-- ranges of at most a million -/
def rngL (i : Int) (n : Nat) : List D := (List.range n).map fun (k : Nat) => .int (i + k)
theorem goes_rng {K : PySem.W.Frag} {H : Hp} {μ : Mu} {i : Int} {n : Nat} : Goes1 K (Itr i n) H μ (rngL i n) gdY := by
  intro H1 μ1 m x hH _
  refine ⟨fun j d e => ?_, by show n ≤ (rngL i n).length; simp [rngL]⟩
  have hj : j < n := by
    have := (List.getElem?_eq_some_iff.mp e).1
    simpa [rngL] using this
  refine ⟨hj, ?_⟩
  rintro y H' ⟨rfl, rfl⟩
  have : d = .int (i + j) := by
    simp [rngL, hj] at e
    exact e.symm
  subst this
  exact ⟨.refl, hH, by simp [RV]⟩
def iRange1 (f : MA) : MI := fun ρ m => (f ρ m).bind fun ds m => match ds with
  | [.int j] => if j ≤ 1000000 ∧ -1000000 ≤ j then .ok (rngL 0 j.toNat, gdY) m else .no
  | _ => .no
def iRange2 (f : MA) : MI := fun ρ m => (f ρ m).bind fun ds m => match ds with
  | [.int i, .int j] => if (j ≤ 1000000 ∧ -1000000 ≤ j) ∧ i ≤ 1000000 ∧ -1000000 ≤ i then .ok (rngL i (j - i).toNat, gdY) m else .no
  | _ => .no
theorem small62 {j : Int} (h : j ≤ 1000000 ∧ -1000000 ≤ j) : -(2 ^ 62) ≤ j ∧ j < 2 ^ 62 := by omega
theorem rng_len {i : Int} {n : Nat} (h : n ≤ 2000000) : (rngL i n).length ≤ sizeLine := by
  rw [sizeLine_eq]; simp [rngL]; omega
theorem ints1 {K : PySem.W.Frag} {H : Hp} {μ : Mu} {j : Int} {vs : List V} (r : RVs K H μ [.int j] vs) : vs = [.int j] := by
  simp only [RVs, RV] at r
  obtain ⟨v, r, rfl, rfl, rfl⟩ := r
  rfl
theorem ints2 {K : PySem.W.Frag} {H : Hp} {μ : Mu} {i j : Int} {vs : List V} (r : RVs K H μ [.int i, .int j] vs) : vs = [.int i, .int j] := by
  simp only [RVs, RV] at r
  obtain ⟨v, r, rfl, rfl, v', r', rfl, rfl, rfl⟩ := r
  rfl
theorem pdi_range1 {f : MA} (hg : Gl X "range") (hm : X.mg "range" = none) (ha : PDA X W 1 [a] f) (hs : starEach [a] X.env = [(false, eval a X.env)] := by rfl) : PDI X W tg (.Call (.Name "range" p) [a] [] pos) (iRange1 f) :=
  PI.imp (pi_range1 hg hm ha hs) fun σ H R ⟨μ, ρ, m, hH, hS, q⟩ => seqR q hH hS fun ds m1 vs H1 μ1 e1 hH1 r1 hS1 q1 => by
    split at q1
    · rename_i j
      split at q1
      · rename_i hj
        refine ⟨j, ints1 r1.1, (small62 hj).1, (small62 hj).2, q1 _ H1 μ1 .refl hH1 ⟨rng_len (by omega), goes_rng⟩⟩
      · exact q1.elim
    · exact q1.elim
theorem pdi_range2 {f : MA} (hg : Gl X "range") (hm : X.mg "range" = none) (ha : PDA X W 2 [a, b] f) (hs : starEach [a, b] X.env = [(false, eval a X.env), (false, eval b X.env)] := by rfl) (hs2 : starEach [b] X.env = [(false, eval b X.env)] := by rfl) :
    PDI X W tg (.Call (.Name "range" p) [a, b] [] pos) (iRange2 f) :=
  PI.imp (pi_range2 hg hm ha hs hs2) fun σ H R ⟨μ, ρ, m, hH, hS, q⟩ => seqR q hH hS fun ds m1 vs H1 μ1 e1 hH1 r1 hS1 q1 => by
    split at q1
    · rename_i i j
      split at q1
      · rename_i hj
        refine ⟨i, j, ints2 r1.1, ⟨(small62 hj.2).1, (small62 hj.2).2, (small62 hj.1).1, (small62 hj.1).2⟩, q1 _ H1 μ1 .refl hH1 ⟨rng_len (by omega), goes_rng⟩⟩
      · exact q1.elim
    · exact q1.elim
end

/-! ### targets -/
theorem wipe_get (vs : List Nat) : ∀ (σ : St) (j : Nat), (wipe σ vs)[j]? = if j ∈ vs then (σ[j]?).map fun _ => none else σ[j]? := by
  induction vs with
  | nil => intro σ j; simp [wipe]
  | cons v vs ih =>
    intro σ j
    unfold wipe
    by_cases hv : v = j
    · subst hv
      rw [List.getElem?_set]
      simp only [if_true, wipe_length, List.mem_cons, true_or]
      by_cases hl : v < σ.length
      · simp [hl]
      · simp [hl]
    · rw [List.getElem?_set_ne hv, ih]
      have : (j ∈ v :: vs) ↔ j ∈ vs := by
        rw [List.mem_cons]; constructor
        · rintro (h | h)
          · exact absurd h.symm hv
          · exact h
        · exact .inr
      simp only [this]
theorem wipe_ext {σ σ' : St} {vs : List Nat} (hl : σ.length = σ'.length) (h : ∀ j, j ∉ vs → σ[j]? = σ'[j]?) : wipe σ vs = wipe σ' vs := by
  apply List.ext_getElem?
  intro j
  rw [wipe_get, wipe_get]
  by_cases hj : j ∈ vs
  · simp only [hj, if_true]
    by_cases hl' : j < σ.length
    · rw [List.getElem?_eq_getElem hl', List.getElem?_eq_getElem (by omega)]; rfl
    · rw [List.getElem?_eq_none (by omega), List.getElem?_eq_none (by omega)]
  · simp only [hj, if_false]; exact h j hj
def wipeD (ρ : En) : List Nat → En
  | [] => ρ
  | v :: vs => (wipeD ρ vs).set v none
theorem RS.none {K : PySem.W.Frag} {H : Hp} {μ : Mu} {ρ : En} {σ : St} (h : RS K H μ ρ σ) (i : Nat) : RS K H μ (ρ.set i none) (σ.set i none) := by
  refine ⟨by rw [List.length_set, List.length_set]; exact h.1, fun j e q => ?_⟩
  by_cases hj : i = j
  · subst hj
    by_cases hl : i < ρ.length
    · rw [List.getElem?_set_self hl] at q; cases q
    · rw [List.getElem?_eq_none (by rw [List.length_set]; omega)] at q; cases q
  · rw [List.getElem?_set_ne hj] at q ⊢
    exact h.2 j e q
theorem RS.wipe {K : PySem.W.Frag} {H : Hp} {μ : Mu} {ρ : En} {σ : St} (h : RS K H μ ρ σ) : ∀ vs : List Nat, RS K H μ (wipeD ρ vs) (wipe σ vs)
  | [] => h
  | v :: vs => (RS.wipe h vs).none v
/-- a target's rule and what it does to the names -/
def TgOk (K : PySem.W.Frag) (t : TG) (is : List Nat) (gt : D → En → Option En) : Prop := ∀ (d : D) (v : V) (ρ ρ' : En) (σ : St) (H : Hp) (μ : Mu) (Q : St → Hp → Prop), RS K H μ ρ σ → RV K H μ d v → gt d ρ = some ρ' →
  (∀ σ', RS K H μ ρ' σ' → σ'.length = σ.length → (∀ j, j ∉ is → σ'[j]? = σ[j]?) → Q σ' H) → t v σ H Q
def TgsOk (K : PySem.W.Frag) (t : TGs) (is : List Nat) (gt : List D → En → Option En) : Prop := ∀ (d : List D) (v : List V) (ρ ρ' : En) (σ : St) (H : Hp) (μ : Mu) (Q : St → Hp → Prop), RS K H μ ρ σ → RVs K H μ d v → gt d ρ = some ρ' →
  (∀ σ', RS K H μ ρ' σ' → σ'.length = σ.length → (∀ j, j ∉ is → σ'[j]? = σ[j]?) → Q σ' H) → t v σ H Q
def tgN (i : Nat) (d : D) (ρ : En) : Option En := some (ρ.set i (some d))
def tgNil (ds : List D) (ρ : En) : Option En := match ds with
  | [] => some ρ
  | _ => none
def tgCons (g : D → En → Option En) (gs : List D → En → Option En) (ds : List D) (ρ : En) : Option En := match ds with
  | d :: r => (g d ρ).bind (gs r)
  | [] => none
def tgTup (n : Nat) (gs : List D → En → Option En) (d : D) (ρ : En) : Option En := match d with
  | .tup ds => if ds.length = n then gs ds ρ else none
  | _ => none
section
variable {K : PySem.W.Frag}
theorem tg_n {i : Nat} : TgOk K (gName i) [i] (tgN i) := fun d v ρ ρ' σ H μ Q hS r e h => by
  cases e
  exact h _ (hS.set r i) (List.length_set ..) fun j hj => List.getElem?_set_ne fun z => hj (by simp [z])
theorem tgs_nil : TgsOk K gNil [] tgNil := fun ds vs ρ ρ' σ H μ Q hS r e h => by
  cases ds with
  | cons => cases e
  | nil =>
    cases e
    simp only [RVs] at r
    exact ⟨r, h σ hS rfl fun _ _ => rfl⟩
theorem tgs_cons {t : TG} {ts : TGs} {is js : List Nat} {g : D → En → Option En} {gs : List D → En → Option En} (h1 : TgOk K t is g) (h2 : TgsOk K ts js gs) : TgsOk K (gCons t ts) (is ++ js) (tgCons g gs) := fun ds vs ρ ρ' σ H μ Q hS r e h => by
  cases ds with
  | nil => cases e
  | cons d ds =>
    simp only [RVs] at r
    obtain ⟨v, vr, rfl, r1, r2⟩ := r
    cases e1 : g d ρ with
    | none => simp [tgCons, e1] at e
    | some ρ1 =>
      simp only [tgCons, e1, Option.bind_some] at e
      refine ⟨v, vr, rfl, h1 d v ρ ρ1 σ H μ _ hS r1 e1 fun σ1 hS1 l1 s1 => ?_⟩
      refine h2 ds vr ρ1 ρ' σ1 H μ Q hS1 r2 e fun σ2 hS2 l2 s2 => h σ2 hS2 (l2.trans l1) fun j hj => ?_
      rw [s2 j fun z => hj (List.mem_append_right _ z), s1 j fun z => hj (List.mem_append_left _ z)]
theorem tg_tup {n : Nat} {ts : TGs} {is : List Nat} {gs : List D → En → Option En} (h : TgsOk K ts is gs) : TgOk K (gTup K n ts) is (tgTup n gs) := fun d v ρ ρ' σ H μ Q hS r e hq => by
  cases d with
  | tup ds =>
    simp only [RV] at r
    obtain ⟨a, vs, rfl, hs, hz, hr⟩ := r
    unfold tgTup at e
    simp only at e
    split at e
    · rename_i hn
      exact ⟨a, vs, rfl, hs.sq, by rw [← hr.length]; exact hn, h ds vs ρ ρ' σ H μ Q hS hr e hq⟩
    · cases e
  | _ => cases e
end
section
variable {X : Cx} {W : WX} {tg e : Expr} {pos : Pos}
def sAsg (gt : D → En → Option En) (f : ME) : MS := fun ρ m => bindS (f ρ m) ρ fun d m => match gt d ρ with
  | some ρ' => .nx ρ' m
  | none => .no
theorem pds_asg {t : TG} {is : List Nat} {gt : D → En → Option En} {f : ME} (he : PD X W e f) (hg : PG X tg t) (ht : TgOk X.K t is gt) (hs : swapsWithSole [tg] e pos.line X.env = pure false := by rfl) (hw : swappedStores [tg] e X.env = pure none := by rfl)
    (h1 : (assignEach [tg] X.env).map (·.2) = [assign tg X.env] := by rfl) : PDS X W (.Assign [tg] e pos) (sAsg gt f) :=
  PS.imp (ps_asg he hg hs hw h1) fun D σ H ⟨μ, ρ, m, hH, hS, q⟩ => seqS q hH hS fun d m1 v H1 μ1 e1 hH1 r1 hS1 q1 => by
    cases e2 : gt d ρ with
    | none => rw [e2] at q1; exact q1.elim
    | some ρ' =>
      rw [e2] at q1
      exact ht d v ρ ρ' σ H1 μ1 _ hS1 r1 e2 fun σ' hS' _ _ => q1 σ' H1 μ1 .refl hH1 hS'
end

/-! ### for -/
def forF (gt : D → En → Option En) (body : MS) (gd : Me → Bool) : List D → En → Me → Fl
  | [], ρ, m => if gd m = true then .nx ρ m else .no
  | d :: r, ρ, m => if gd m = true then match gt d ρ with
      | none => .no
      | some ρ1 => match body ρ1 m with
        | .nx ρ2 m2 => forF gt body gd r ρ2 m2
        | .ct ρ2 m2 => forF gt body gd r ρ2 m2
        | .bk ρ2 m2 => .nx ρ2 m2
        | .rt d m => .rt d m
        | .exc x ρ m => .exc x ρ m
        | .no => .no
    else .no
def sFor (it : MI) (gt : D → En → Option En) (body : MS) : MS := fun ρ m => bindS (it ρ m) ρ fun p m => forF gt body p.2 p.1 ρ m
section
variable {X : Cx} {W : WX} {tg iter : Expr} {body : List Stmt} {pos : Pos}
theorem pds_for {t : TG} {is : List Nat} {gt : D → En → Option En} {it : MI} {f : MS} (hp : PassesOwn (model X.prog X.w) X.A X.env X.xe) (hc : X.calm = true) (hi : PDI X W tg iter it) (hg : PG X tg t) (ht : TgOk X.K t is gt) (hb : PDB X W body f)
    (hs : ∀ x, foldedSetIterable iter X.env x = pure x := by intro _; rfl) : PDS X W (.For tg iter body [] pos) (sFor it gt f) :=
  PS.imp (ps_for hp hc hi hg hb hs) fun D σ H ⟨μ, ρ, m, hH, hS, q⟩ => seqS q hH hS fun pr m1 J H1 μ1 e1 hH1 r1 hS1 q1 => by
    obtain ⟨ds, gd⟩ := pr
    obtain ⟨hz, go⟩ := r1
    dsimp only at go hz q1
    refine ⟨fun i k σ H => k = ds.length - i ∧ i ≤ ds.length ∧ ∃ μ ρ m, Ext X.K H1 μ1 H μ ∧ RH X.K H μ m ∧ RS X.K H μ ρ σ ∧ OkS X.K W H μ D (forF gt f gd (ds.drop i) ρ m),
      ⟨ds.length, by simp, Nat.zero_le _, μ1, ρ, m1, .refl, hH1, hS1, by simpa using q1⟩, ?_⟩
    rintro i k σ2 H2 ⟨rfl, hi', μ2, ρ2, m2, x2, hH2, hS2, q2⟩
    by_cases hlt : i < ds.length
    · have hd : ds.drop i = ds[i] :: ds.drop (i + 1) := List.drop_eq_getElem_cons hlt
      rw [hd] at q2
      unfold forF at q2
      by_cases hgd : gd m2 = true
      · rw [if_pos hgd] at q2
        obtain ⟨hgo, _⟩ := go H2 μ2 m2 x2.tr hH2 hgd
        obtain ⟨g1, g2⟩ := hgo i ds[i] (List.getElem?_eq_getElem hlt)
        refine .inr ⟨g1, fun σ' H' => i + 1 ≤ ds.length ∧ ∃ μ ρ m, Ext X.K H1 μ1 H' μ ∧ RH X.K H' μ m ∧ RS X.K H' μ ρ σ' ∧ OkS X.K W H' μ D (forF gt f gd (ds.drop (i + 1)) ρ m),
          fun σ' H' hN => ⟨ds.length - (i + 1), by omega, rfl, hN⟩, fun y H3 hy => ?_⟩
        obtain ⟨x3, hH3, r3⟩ := g2 y H3 hy
        cases e3 : gt ds[i] ρ2 with
        | none => simp only [e3] at q2; exact q2.elim
        | some ρ3 =>
          simp only [e3] at q2
          refine ht ds[i] y ρ2 ρ3 σ2 H3 μ2 _ (hS2.ext x3) r3 e3 fun σ3 hS3 _ _ => ?_
          refine ⟨μ2, ρ3, m2, hH3, hS3, ?_⟩
          have q3 := q2.ext x3
          cases e4 : f ρ3 m2 with
          | no => simp only [e4] at q3; exact q3
          | exc x ρ m => simp only [e4] at q3; exact q3
          | rt d m => simp only [e4] at q3; exact q3
          | nx ρ4 m4 => simp only [e4] at q3; exact fun σ' H' μ' x4 hH4 hS4 => ⟨hlt, μ', ρ4, m4, (x2.trans x3).trans x4, hH4, hS4, q3.ext x4⟩
          | ct ρ4 m4 => simp only [e4] at q3; exact fun σ' H' μ' x4 hH4 hS4 => ⟨hlt, μ', ρ4, m4, (x2.trans x3).trans x4, hH4, hS4, q3.ext x4⟩
          | bk ρ4 m4 => simp only [e4] at q3; exact fun σ' H' μ' x4 hH4 hS4 => q3 σ' H' μ' x4 hH4 hS4
      · rw [if_neg hgd] at q2; exact q2.elim
    · have hi2 : i = ds.length := by omega
      subst hi2
      rw [List.drop_length] at q2
      unfold forF at q2
      by_cases hgd : gd m2 = true
      · rw [if_pos hgd] at q2
        exact .inl ⟨(go H2 μ2 m2 x2.tr hH2 hgd).2, q2 σ2 H2 μ2 .refl hH2 hS2⟩
      · rw [if_neg hgd] at q2; exact q2.elim
/-! ### while, by a number of turns -/
def whF (c : MT) (body : MS) : Nat → En → Me → Fl
  | 0, _, _ => .no
  | n + 1, ρ, m => bindS (c ρ m) ρ fun b m => if b = true then match body ρ m with
      | .nx ρ2 m2 => whF c body n ρ2 m2
      | .ct ρ2 m2 => whF c body n ρ2 m2
      | .bk ρ2 m2 => .nx ρ2 m2
      | .rt d m => .rt d m
      | .exc x ρ m => .exc x ρ m
      | .no => .no
    else .nx ρ m
theorem pds_while {c : Expr} {fc : MT} {f : MS} (n : Nat) (hp : PassesOwn (model X.prog X.w) X.A X.env X.xe) (hc : PDT X W c fc) (hb : PDB X W body f) : PDS X W (.While c body [] pos) (whF fc f n) :=
  PS.imp (ps_while hp hc hb) fun D σ H ⟨μ, ρ, m, hH, hS, q⟩ => by
    refine ⟨fun k σ H => ∃ μ ρ m, RH X.K H μ m ∧ RS X.K H μ ρ σ ∧ OkS X.K W H μ D (whF fc f k ρ m), ⟨n, μ, ρ, m, hH, hS, q⟩, ?_⟩
    rintro k σ1 H1 ⟨μ1, ρ1, m1, hH1, hS1, q1⟩
    cases k with
    | zero => exact q1.elim
    | succ k =>
      unfold whF at q1
      refine seqS q1 hH1 hS1 fun d m2 v H2 μ2 e2 hH2 r2 hS2 q2 => ?_
      subst r2
      cases d with
      | false =>
        rw [if_neg Bool.false_ne_true] at q2 ⊢
        exact q2 σ1 H2 μ2 .refl hH2 hS2
      | true =>
        rw [if_pos rfl] at q2 ⊢
        refine ⟨fun σ' H' => ∃ μ ρ m, RH X.K H' μ m ∧ RS X.K H' μ ρ σ' ∧ OkS X.K W H' μ D (whF fc f k ρ m), fun σ' H' hN => ⟨k, Nat.lt_succ_self k, hN⟩, ?_⟩
        refine ⟨μ2, ρ1, m2, hH2, hS2, ?_⟩
        cases e4 : f ρ1 m2 with
        | no => simp only [e4] at q2; exact q2
        | exc x ρ m => simp only [e4] at q2; exact q2
        | rt d m => simp only [e4] at q2; exact q2
        | nx ρ4 m4 => simp only [e4] at q2; exact fun σ' H' μ' x4 hH4 hS4 => ⟨μ', ρ4, m4, hH4, hS4, q2.ext x4⟩
        | ct ρ4 m4 => simp only [e4] at q2; exact fun σ' H' μ' x4 hH4 hS4 => ⟨μ', ρ4, m4, hH4, hS4, q2.ext x4⟩
        | bk ρ4 m4 => simp only [e4] at q2; exact fun σ' H' μ' x4 hH4 hS4 => q2 σ' H' μ' x4 hH4 hS4
end
end FL

set_option maxRecDepth 100000
namespace FL
open PySem L2

/-! ### comprehensions -/
def noX {α : Type} (r : Res α) : Res α := match r with
  | .exc _ _ => .no
  | r => r
@[simp] theorem noX_ok {α : Type} {a : α} {m : Me} : noX (.ok a m) = .ok a m := rfl
@[simp] theorem noX_no {α : Type} : noX (.no : Res α) = .no := rfl
@[simp] theorem noX_exc {α : Type} {x : Exn} {m : Me} : noX (.exc x m : Res α) = .no := rfl
abbrev WF : WX := fun _ _ _ _ => False
def compF (gt : D → En → Option En) (c : MT) (e : ME) (gd : Me → Bool) (ρ : En) : List D → Me → Res (List D)
  | [], m => if gd m = true then .ok [] m else .no
  | d :: r, m => if gd m = true then match gt d ρ with
      | none => .no
      | some ρ1 => (noX (c ρ1 m)).bind fun b m1 => if b = true then (noX (e ρ1 m1)).bind fun y m2 => (compF gt c e gd ρ r m2).bind fun ys m3 => .ok (y :: ys) m3 else compF gt c e gd ρ r m1
    else .no
def mComp (it : MI) (vs : List Nat) (gt : D → En → Option En) (c : MT) (e : ME) : ME := fun ρ m => (it ρ m).bind fun p m => (noX (compF gt c e p.2 (wipeD ρ vs) p.1 m)).bind fun ys m => .ok (.lst ys) m
def cYes : MT := fun _ m => .ok true m

section
variable {K : PySem.W.Frag}
theorem Ok.noX' {α β : Type} {Ex Ex' : XK} {H : Hp} {μ : Mu} {R : Hp → Mu → α → β → Prop} {Q : β → Hp → Prop} {r : Res α} (h : Ok K Ex H μ R Q (noX r)) : Ok K Ex' H μ R Q r := by
  cases r with
  | no => exact h
  | exc x m => exact h.elim
  | ok a m => exact h
/-- the list so far and what the rest comes to -/
def Fin (K : PySem.W.Frag) (H1 : Hp) (μ1 : Mu) (A : Addr) (Q : VK) (acc : List D) (r : Res (List D)) : Prop := match r with
  | .ok ys m' => ∀ (H' : Hp) (l' : List Addr) (vs : List V), Ext K H1 μ1 H' ⟨l', μ1.h⟩ → RH K H' ⟨l', A :: μ1.h⟩ m' → H' A = some (.lst vs) → A ∉ l' → RVs K H' ⟨l', A :: μ1.h⟩ (acc ++ ys) vs → vs.length ≤ sizeLine → Q (.ref A) H'
  | _ => False
theorem wipe_twice {σ : St} {vs : List Nat} : wipe (wipe σ vs) vs = wipe σ vs := wipe_ext (wipe_length σ vs) fun j hj => by rw [wipe_get, if_neg hj]
/-- the reading of a comprehension -/
theorem comp_core {J : It} {g : TG} {is vs : List Nat} {gt : D → En → Option En} {fc : MT} {fe : ME} {gd : Me → Bool} {ds : List D} {σ : St} {ρ : En} {H1 : Hp} {μ1 : Mu} {m1 : Me} {Q : VK}
    (ht : TgOk K g is gt) (hin : ∀ i ∈ is, i ∈ vs) (hz : ds.length ≤ sizeLine) (go : Goes1 K J H1 μ1 ds gd) (hH : RH K H1 μ1 m1) (hS : RS K H1 μ1 ρ σ) (q : ∀ A, H1 A = none → Fin K H1 μ1 A Q [] (compF gt fc fe gd (wipeD ρ vs) ds m1)) :
    ∀ A, H1 A = none → ∃ W : Nat → Nat → Hp → Prop, (∃ m, W 0 m (upd H1 A (.lst []))) ∧ ∀ i m H, W i m H →
      (J.stop i H ∧ Q (.ref A) H) ∨ (J.go i H ∧ ∃ Nx : Hp → Prop, (∀ H', Nx H' → ∃ m', m' < m ∧ W (i + 1) m' H') ∧ ∀ x H', J.yld i H x H' → g x (wipe σ vs) H' fun σ2 H2 => wipe σ2 vs = wipe σ vs ∧ tR K WF RVB fc σ2 H2 fun b H3 =>
        if b = true then tR K WF (RVv K) fe σ2 H3 fun y H4 => ∃ acc, H4 A = some (.lst acc) ∧ acc.length < sizeLine ∧ Nx (upd H4 A (.lst (acc ++ [y]))) else Nx H3) := by
  intro A nA
  -- what stands at a turn
  let St0 : Nat → Hp → Prop := fun i H => ∃ (l : List Addr) (m : Me) (acc : List D) (us : List V), Ext K H1 μ1 H ⟨l, μ1.h⟩ ∧ Tr K H1 μ1 H ⟨l, A :: μ1.h⟩ ∧ RH K H ⟨l, A :: μ1.h⟩ m ∧ RS K H ⟨l, A :: μ1.h⟩ (wipeD ρ vs) (wipe σ vs) ∧
    H A = some (.lst us) ∧ A ∉ l ∧ RVs K H ⟨l, A :: μ1.h⟩ acc us ∧ us.length ≤ i ∧ Fin K H1 μ1 A Q acc (compF gt fc fe gd (wipeD ρ vs) (ds.drop i) m)
  have tr0 : Tr K H1 μ1 (upd H1 A (.lst [])) ⟨μ1.l, A :: μ1.h⟩ := Tr.hide hH nA
  refine ⟨fun i k H => k = ds.length - i ∧ i ≤ ds.length ∧ St0 i H, ⟨ds.length, by simp, Nat.zero_le _, μ1.l, m1, [], [], Ext.new hH nA, tr0, hH.hide nA, (hS.wipe vs).map tr0, upd_same, hH.notin nA, by simp [RVs], Nat.le_refl _, q A nA⟩, ?_⟩
  rintro i k H ⟨rfl, hi, l, m, acc, us, x, tr, hH2, hS2, hA, nl, ha, hu, fin⟩
  by_cases hlt : i < ds.length
  · have hd : ds.drop i = ds[i] :: ds.drop (i + 1) := List.drop_eq_getElem_cons hlt
    rw [hd] at fin
    unfold compF at fin
    by_cases hgd : gd m = true
    · rw [if_pos hgd] at fin
      obtain ⟨hgo, _⟩ := go H _ m tr hH2 hgd
      obtain ⟨g1, g2⟩ := hgo i ds[i] (List.getElem?_eq_getElem hlt)
      refine .inr ⟨g1, fun H' => i + 1 ≤ ds.length ∧ St0 (i + 1) H', fun H' hN => ⟨ds.length - (i + 1), by omega, rfl, hN⟩, fun y H3 hy => ?_⟩
      obtain ⟨x3, hH3, r3⟩ := g2 y H3 hy
      obtain ⟨hA3, nl3⟩ := x3.dat A (.lst us) nl trivial hA
      have xx : Ext K H1 μ1 H3 ⟨l, μ1.h⟩ := x.trans (x3.reh fun _ z => List.mem_cons_of_mem _ z)
      have tt := tr.trans x3.tr
      have hS3 := hS2.ext x3
      have ha3 := RVs.ext x3 _ _ ha
      cases e3 : gt ds[i] (wipeD ρ vs) with
      | none => simp only [e3] at fin; exact fin.elim
      | some ρ3 =>
        simp only [e3] at fin
        refine ht ds[i] y _ ρ3 _ H3 _ _ hS3 r3 e3 fun σ3 hS4 hl4 hk4 => ⟨?_, ?_⟩
        · have : wipe σ3 vs = wipe (wipe σ vs) vs := wipe_ext hl4 fun j hj => hk4 j fun z => hj (hin j z)
          rw [this, wipe_twice]
        · refine ⟨_, ρ3, m, hH3, hS4, ?_⟩
          cases e4 : fc ρ3 m with
          | no => simp only [e4] at fin; exact fin.elim
          | exc xx' mm => simp only [e4] at fin; exact fin.elim
          | ok b m4 =>
            simp only [e4, noX_ok, Res.bind_ok] at fin
            rintro b' H4 ⟨l4, h4⟩ x4 hH4 rfl
            have eh : h4 = A :: μ1.h := x4.hid
            subst eh
            obtain ⟨hA4, nl4⟩ := x4.dat A (.lst us) nl3 trivial hA3
            have xx4 : Ext K H1 μ1 H4 ⟨l4, μ1.h⟩ := xx.trans (x4.reh fun _ z => List.mem_cons_of_mem _ z)
            have tt4 := tt.trans x4.tr
            have ha4 := RVs.ext x4 _ _ ha3
            cases b with
            | false =>
              rw [if_neg Bool.false_ne_true] at fin ⊢
              exact ⟨hlt, l4, m4, acc, us, xx4, tt4, hH4, hS3.ext x4, hA4, nl4, ha4, by omega, fin⟩
            | true =>
              rw [if_pos rfl] at fin ⊢
              refine ⟨_, ρ3, m4, hH4, hS4.ext x4, ?_⟩
              cases e5 : fe ρ3 m4 with
              | no => simp only [e5] at fin; exact fin.elim
              | exc xx' mm => simp only [e5] at fin; exact fin.elim
              | ok d5 m5 =>
                simp only [e5, noX_ok, Res.bind_ok] at fin
                rintro y5 H5 ⟨l5, h5⟩ x5 hH5 r5
                have eh : h5 = A :: μ1.h := x5.hid
                subst eh
                obtain ⟨hA5, nl5⟩ := x5.dat A (.lst us) nl4 trivial hA4
                have xx5 : Ext K H1 μ1 H5 ⟨l5, μ1.h⟩ := xx4.trans (x5.reh fun _ z => List.mem_cons_of_mem _ z)
                have hm : A ∈ (⟨l5, A :: μ1.h⟩ : Mu).h := List.mem_cons_self
                have gr : Tr K H5 ⟨l5, A :: μ1.h⟩ (upd H5 A (.lst (us ++ [y5]))) ⟨l5, A :: μ1.h⟩ := Tr.grow hm hA5
                refine ⟨us, hA5, by omega, hlt, l5, m5, acc ++ [d5], us ++ [y5], xx5.grow nA hA5, (tt4.trans x5.tr).trans gr, hH5.grow hm nl5 hA5, ((hS3.ext x4).ext x5).map gr, upd_same, nl5,
                  RVs.map gr _ _ ((RVs.ext x5 _ _ ha4).append (RVs.one r5)), by simp; omega, ?_⟩
                cases e6 : compF gt fc fe gd (wipeD ρ vs) (ds.drop (i + 1)) m5 with
                | no => simp only [e6] at fin; exact fin.elim
                | exc xx' mm => simp only [e6] at fin; exact fin.elim
                | ok ys m6 =>
                  simp only [e6, Res.bind_ok] at fin
                  intro H' l' vs' z1 z2 z3 z4 z5 z6
                  exact fin H' l' vs' z1 z2 z3 z4 (by simpa using z5) z6
    · rw [if_neg hgd] at fin; exact fin.elim
  · have hi2 : i = ds.length := by omega
    subst hi2
    rw [List.drop_length] at fin
    unfold compF at fin
    by_cases hgd : gd m = true
    · rw [if_pos hgd] at fin
      exact .inl ⟨(go H _ m tr hH2 hgd).2, fin H l us x hH2 hA nl (by simpa using ha) (by omega)⟩
    · rw [if_neg hgd] at fin; exact fin.elim
end

section
variable {X : Cx} {W : WX} {elt tg iter c : Expr} {scope : Scope} {own : List (Str × Nat)} {pos : Pos} {it : MI} {g : TG} {is : List Nat} {gt : D → En → Option En} {fc : MT} {fe : ME}
theorem comp_imp (ht : TgOk X.K g is gt) (hin : ∀ i ∈ is, i ∈ own.map (·.2)) : ∀ σ H Q, tR X.K W (RVv X.K) (mComp it (own.map (·.2)) gt fc fe) σ H Q → tLc (tR X.K W (RIt X.K) it) g (tR X.K WF RVB fc) (tR X.K WF (RVv X.K) fe) (own.map (·.2)) σ H Q := by
  rintro σ H Q ⟨μ, ρ, m, hH, hS, q⟩
  refine seqR q hH hS fun pr m1 J H1 μ1 e1 hH1 r1 hS1 q1 => ?_
  obtain ⟨ds, gd⟩ := pr
  refine comp_core ht hin r1.1 r1.2 hH1 hS1 fun A nA => ?_
  dsimp only at q1
  cases e : compF gt fc fe gd (wipeD ρ (own.map (·.2))) ds m1 with
  | no => simp only [e] at q1; exact q1.elim
  | exc x mm => simp only [e] at q1; exact q1.elim
  | ok ys m2 =>
    simp only [e, noX_ok, Res.bind_ok] at q1
    intro H' l' vs z1 z2 z3 z4 z5 z6
    have un : ∀ a, a ∈ μ1.h → a ∈ A :: μ1.h := fun a z => List.mem_cons_of_mem _ z
    refine q1 _ H' _ z1 (z2.unhide un) ?_
    simp only [RV]
    exact ⟨A, vs, rfl, ⟨z4, fun z => hH1.hid A z nA⟩, z3, z6, RVs.map (.unhide un) _ _ (by simpa using z5)⟩
theorem pts_yes {Y : Cx} {W : WX} : PTs Y [] (tR Y.K W RVB cYes) := ⟨fun pins s σ H Q I ⟨μ, ρ, m, hH, hS, q⟩ => pts_nil.run pins s σ H Q I (q true H μ .refl hH rfl)⟩
theorem pts_c {Y : Cx} {W : WX} {f : MT} (h : PDT Y W c f) : PTs Y [c] (tR Y.K W RVB f) := pts_one h
theorem pd_lc {ifs : List Expr} (hc : X.calm = true) (hN : X.N.Nodup) (hi : PDI X W tg iter it) (ok : BlkOk X.N X.env.scope scope own) (ht : TgOk X.K g is gt) (hin : ∀ i ∈ is, i ∈ own.map (·.2))
    (hg : ∀ (s : Shared) (H : Hp) (C : Addr) (cl : List (Str × Addr)) (fp : List Addr), PG (X.blk s H scope (compEnvC scope cl C X.env) fp) tg g) (hif : ∀ (s : Shared) (H : Hp) (C : Addr) (cl : List (Str × Addr)) (fp : List Addr), PTs (X.blk s H scope (compEnvC scope cl C X.env) fp) ifs (tR X.K WF RVB fc))
    (he : ∀ (s : Shared) (H : Hp) (C : Addr) (cl : List (Str × Addr)) (fp : List Addr), PD (X.blk s H scope (compEnvC scope cl C X.env) fp) WF elt fe) (hs : ∀ x, foldedSetIterable iter X.env x = pure x := by intro _; rfl) :
    PD X W (.ListComp elt [⟨tg, iter, ifs, 0⟩] scope pos) (mComp it (own.map (·.2)) gt fc fe) :=
  PE.imp (pe_lc hc hN hi ok hg hif he hs) (comp_imp ht hin)
/-- name = [..] on one line, the name a local -/
theorem pds_setLc {ifs : List Expr} (i : Nat) {y : Str} {py spos : Pos} (hc : X.calm = true) (hN : X.N.Nodup) (hi : PDI X W tg iter it) (ok : BlkOk X.N X.env.scope scope own) (ht : TgOk X.K g is gt) (hin : ∀ i ∈ is, i ∈ own.map (·.2))
    (hg : ∀ (s : Shared) (H : Hp) (C : Addr) (cl : List (Str × Addr)) (fp : List Addr), PG (X.blk s H scope (compEnvC scope cl C X.env) fp) tg g) (hif : ∀ (s : Shared) (H : Hp) (C : Addr) (cl : List (Str × Addr)) (fp : List Addr), PTs (X.blk s H scope (compEnvC scope cl C X.env) fp) ifs (tR X.K WF RVB fc))
    (he : ∀ (s : Shared) (H : Hp) (C : Addr) (cl : List (Str × Addr)) (fp : List Addr), PD (X.blk s H scope (compEnvC scope cl C X.env) fp) WF elt fe)
    (hsw : swapsWith (.ListComp elt [⟨tg, iter, ifs, 0⟩] scope pos) (some (.Name y py)) spos.line X.env = pure true) (hy : X.N[i]? = some y := by rfl) (hyl : X.env.scope.names.lookup y = some .local := by rfl) (hs : ∀ x, foldedSetIterable iter X.env x = pure x := by intro _; rfl) :
    PDS X W (.Assign [.Name y py] (.ListComp elt [⟨tg, iter, ifs, 0⟩] scope pos) spos) (sSet i (mComp it (own.map (·.2)) gt fc fe)) :=
  PS.imp (ps_setLc hc hN hy hyl hsw hi ok hg hif he hs) fun D σ H ⟨μ, ρ, m, hH, hS, q⟩ =>
    comp_imp ht hin σ H _ (seqS q hH hS fun d m1 v H1 μ1 e1 hH1 r1 hS1 q1 => q1 _ H1 μ1 .refl hH1 (hS1.set r1 i))
end
end FL

set_option maxRecDepth 100000
namespace FL
open PySem PySem.Spec PyProof.Rows L2

/-! ### what refers to nothing from n on -/
mutual
def clo (n : Nat) : D → Bool
  | .ref i => decide (i < n)
  | .tup ds => cloL n ds
  | .lst ds => cloL n ds
  | .dct kvs => cloK n kvs
  | _ => true
def cloL (n : Nat) : List D → Bool
  | [] => true
  | d :: ds => clo n d && cloL n ds
def cloK (n : Nat) : List (Key × D) → Bool
  | [] => true
  | p :: ps => cloP n p && cloK n ps
def cloP (n : Nat) : Key × D → Bool
  | (_, d) => clo n d
end
def cloC (n : Nat) : Cell → Bool
  | .lst ds => cloL n ds
  | .dK kvs => cloK n kvs
  | .dT kvs => kvs.all fun p => clo n p.2
  | .ins _ fs => fs.all fun p => clo n p.2
  | .dL kvs => cloK n kvs
/-! things of the store from n on become values -/
mutual
def thaw (n : Nat) (m : Me) : D → Option D
  | .ref i => if i < n then some (.ref i) else match m[i]? with
    | some (.lst ds) => if cloL n ds = true then some (.lst ds) else none
    | some (.dK kvs) => if cloK n kvs = true then some (.dct kvs) else none
    | some (.dL kvs) => if cloK n kvs = true then some (.dct kvs) else none
    | _ => none
  | .tup ds => (thawL n m ds).map .tup
  | .lst ds => (thawL n m ds).map .lst
  | .dct kvs => if cloK n kvs = true then some (.dct kvs) else none
  | .non => some .non
  | .bl b => some (.bl b)
  | .int i => some (.int i)
  | .str x => some (.str x)
  | .scr ns => some (.scr ns)
  | .fn a => some (.fn a)
def thawL (n : Nat) (m : Me) : List D → Option (List D)
  | [] => some []
  | d :: ds => (thaw n m d).bind fun d' => (thawL n m ds).map fun ds' => d' :: ds'
end
/-- what a def hands back: its own things of the store are values from now on -/
noncomputable def leave (m : Me) (d : D) (m' : Me) : Res D :=
  if m'.length = m.length then .ok d m' else
    match thaw m.length m' d with
    | some d' => @ite _ (m'.take m.length = m ∨ (m'.take m.length).all (cloC m.length) = true) (Classical.propDecidable _) (.ok d' (m'.take m.length)) .no
    | none => .no
noncomputable def runDef (N n : Nat) (f : MS) : List D → Me → Res D := fun ds m => match f (ds.map some ++ List.replicate (N - n) none) m with
  | .nx _ m' => leave m .non m'
  | .rt d m' => leave m d m'
  | _ => .no

section
variable {K : PySem.W.Frag} {H H' : Hp} {μ : Mu} {m m' : Me}
def Mu.cut (μ : Mu) (n : Nat) : Mu := ⟨μ.l.take n, μ.h⟩
theorem Mu.get_lt {l : List Addr} {n i : Nat} {a : Addr} (h : l[i]? = some a) (hi : i < n) : (l.take n)[i]? = some a := by
  rw [List.getElem?_take_of_lt hi]; exact h
mutual
theorem RV.cut {n : Nat} : ∀ (d : D) (v : V), RV K H μ d v → clo n d = true → RV K H (μ.cut n) d v
  | .non, _, q, _ => by simpa [RV] using q
  | .bl _, _, q, _ => by simpa [RV] using q
  | .int _, _, q, _ => by simpa [RV] using q
  | .str _, _, q, _ => by simpa [RV] using q
  | .fn _, _, q, _ => by simpa [RV] using q
  | .tup ds, v, q, c => by
    simp only [RV] at q ⊢
    obtain ⟨a, vs, rfl, hs, hz, hr⟩ := q
    exact ⟨a, vs, rfl, hs, hz, RVs.cut ds vs hr (by simpa [clo] using c)⟩
  | .lst ds, v, q, c => by
    simp only [RV] at q ⊢
    obtain ⟨a, vs, rfl, hn, hs, hz, hr⟩ := q
    exact ⟨a, vs, rfl, ⟨fun z => hn.1 (List.mem_of_mem_take z), hn.2⟩, hs, hz, RVs.cut ds vs hr (by simpa [clo] using c)⟩
  | .dct kvs, v, q, c => by
    simp only [RV] at q ⊢
    obtain ⟨a, vs, rfl, hn, hs, hr⟩ := q
    exact ⟨a, vs, rfl, ⟨fun z => hn.1 (List.mem_of_mem_take z), hn.2⟩, hs, RVk.cut kvs vs hr (by simpa [clo] using c)⟩
  | .ref i, v, q, c => by
    simp only [RV] at q ⊢
    obtain ⟨a, rfl, hs⟩ := q
    exact ⟨a, rfl, Mu.get_lt hs (by simpa [clo] using c)⟩
  | .scr ns, v, q, c => by
    simp only [RV] at q ⊢
    obtain ⟨a, rfl, ⟨hn, hs⟩ | hs⟩ := q
    · exact ⟨a, rfl, .inl ⟨⟨fun z => hn.1 (List.mem_of_mem_take z), hn.2⟩, hs⟩⟩
    · exact ⟨a, rfl, .inr hs⟩
theorem RVs.cut {n : Nat} : ∀ (ds : List D) (vs : List V), RVs K H μ ds vs → cloL n ds = true → RVs K H (μ.cut n) ds vs
  | [], vs, q, _ => by simpa [RVs] using q
  | d :: ds, vs, q, c => by
    simp only [RVs] at q ⊢
    simp only [cloL, Bool.and_eq_true] at c
    obtain ⟨v, r, rfl, h1, h2⟩ := q
    exact ⟨v, r, rfl, RV.cut d v h1 c.1, RVs.cut ds r h2 c.2⟩
theorem RVk.cut {n : Nat} : ∀ (ds : List (Key × D)) (vs : List (Key × V)), RVk K H μ ds vs → cloK n ds = true → RVk K H (μ.cut n) ds vs
  | [], vs, q, _ => by simpa [RVk] using q
  | p :: ds, vs, q, c => by
    simp only [RVk] at q ⊢
    simp only [cloK, Bool.and_eq_true] at c
    obtain ⟨v, r, rfl, h1, h2⟩ := q
    exact ⟨v, r, rfl, RVp.cut p v h1 c.1, RVk.cut ds r h2 c.2⟩
theorem RVp.cut {n : Nat} : ∀ (p : Key × D) (v : V), RVp K H μ p v → cloP n p = true → RVp K H (μ.cut n) p v
  | (_, d), v, q, c => by
    simp only [RVp] at q ⊢
    exact RV.cut d v q (by simpa [cloP] using c)
end
mutual
theorem RV.clo : ∀ (d : D) (v : V), RV K H μ d v → FL.clo μ.l.length d = true
  | .non, _, q => rfl
  | .bl _, _, q => rfl
  | .int _, _, q => rfl
  | .str _, _, q => rfl
  | .fn _, _, q => rfl
  | .tup ds, v, q => by
    simp only [RV] at q
    obtain ⟨a, vs, rfl, hs, hz, hr⟩ := q
    simpa [FL.clo] using RVs.clo ds vs hr
  | .lst ds, v, q => by
    simp only [RV] at q
    obtain ⟨a, vs, rfl, hn, hs, hz, hr⟩ := q
    simpa [FL.clo] using RVs.clo ds vs hr
  | .dct kvs, v, q => by
    simp only [RV] at q
    obtain ⟨a, vs, rfl, hn, hs, hr⟩ := q
    simpa [FL.clo] using RVk.clo kvs vs hr
  | .ref i, v, q => by
    simp only [RV] at q
    obtain ⟨a, rfl, hs⟩ := q
    simpa [FL.clo] using (List.getElem?_eq_some_iff.mp hs).1
  | .scr _, _, q => rfl
theorem RVs.clo : ∀ (ds : List D) (vs : List V), RVs K H μ ds vs → cloL μ.l.length ds = true
  | [], vs, q => rfl
  | d :: ds, vs, q => by
    simp only [RVs] at q
    obtain ⟨v, r, rfl, h1, h2⟩ := q
    simp [cloL, RV.clo d v h1, RVs.clo ds r h2]
theorem RVk.clo : ∀ (ds : List (Key × D)) (vs : List (Key × V)), RVk K H μ ds vs → cloK μ.l.length ds = true
  | [], vs, q => rfl
  | p :: ds, vs, q => by
    simp only [RVk] at q
    obtain ⟨v, r, rfl, h1, h2⟩ := q
    simp [cloK, RVp.clo p v h1, RVk.clo ds r h2]
theorem RVp.clo : ∀ (p : Key × D) (v : V), RVp K H μ p v → cloP μ.l.length p = true
  | (_, d), v, q => by
    simp only [RVp] at q
    simpa [cloP] using RV.clo d v q
end
mutual
theorem RV.thaw {n : Nat} (hH : RH K H μ m) : ∀ (d d' : D) (v : V), RV K H μ d v → FL.thaw n m d = some d' → RV K H (μ.cut n) d' v
  | .non, _, _, q, e => by simp only [FL.thaw] at e; cases e; simpa [RV] using q
  | .bl _, _, _, q, e => by simp only [FL.thaw] at e; cases e; simpa [RV] using q
  | .int _, _, _, q, e => by simp only [FL.thaw] at e; cases e; simpa [RV] using q
  | .str _, _, _, q, e => by simp only [FL.thaw] at e; cases e; simpa [RV] using q
  | .scr _, _, v, q, e => by simp only [FL.thaw] at e; cases e; exact RV.cut _ v q rfl
  | .fn _, _, _, q, e => by simp only [FL.thaw] at e; cases e; simpa [RV] using q
  | .tup ds, d', v, q, e => by
    simp only [FL.thaw] at e
    obtain ⟨ds', e1, rfl⟩ := Option.map_eq_some_iff.mp e
    simp only [RV] at q ⊢
    obtain ⟨a, vs, rfl, hs, hz, hr⟩ := q
    exact ⟨a, vs, rfl, hs, hz, RVs.thaw hH ds ds' vs hr e1⟩
  | .lst ds, d', v, q, e => by
    simp only [FL.thaw] at e
    obtain ⟨ds', e1, rfl⟩ := Option.map_eq_some_iff.mp e
    simp only [RV] at q ⊢
    obtain ⟨a, vs, rfl, hn, hs, hz, hr⟩ := q
    exact ⟨a, vs, rfl, ⟨fun z => hn.1 (List.mem_of_mem_take z), hn.2⟩, hs, hz, RVs.thaw hH ds ds' vs hr e1⟩
  | .dct kvs, d', v, q, e => by
    simp only [FL.thaw] at e
    split at e
    · rename_i c
      cases e
      exact RV.cut _ v q (by simpa [FL.clo] using c)
    · cases e
  | .ref i, d', v, q, e => by
    simp only [FL.thaw] at e
    split at e
    · rename_i hi
      cases e
      exact RV.cut _ v q (by simpa [FL.clo] using hi)
    · rename_i hi
      simp only [RV] at q
      obtain ⟨a, rfl, hs⟩ := q
      have hcut : a ∉ (μ.cut n).l ∧ a ∉ (μ.cut n).h := by
        refine ⟨fun z => ?_, fun z => ?_⟩
        · obtain ⟨j, hj, ej⟩ := List.getElem_of_mem z
          have hj' : j < n ∧ j < μ.l.length := by
            have : (μ.cut n).l.length = min n μ.l.length := List.length_take
            omega
          have ej' : μ.l[j]? = some a := by
            have h2 : ((μ.l.take n)[j]?) = some a := (List.getElem?_eq_getElem (l := μ.l.take n) hj).trans (congrArg some ej)
            rwa [List.getElem?_take_of_lt hj'.1] at h2
          obtain ⟨h1, h1'⟩ := List.getElem?_eq_some_iff.mp hs
          obtain ⟨h2, h2'⟩ := List.getElem?_eq_some_iff.mp ej'
          have := (List.getElem_inj hH.nd).mp (h1'.trans h2'.symm)
          omega
        · exact (hH.sep a (List.mem_of_getElem? hs)) z
      cases e1 : m[i]? with
      | none => simp only [e1] at e; cases e
      | some c =>
        obtain ⟨a', e2, rc⟩ := hH.at' i c e1
        rw [hs] at e2; cases e2
        cases c with
        | lst ds =>
          simp only [e1] at e
          split at e
          · rename_i hc
            cases e
            obtain ⟨vs, h1, hz, hr⟩ := rc
            simp only [RV]
            exact ⟨a, vs, rfl, hcut, h1, hz, RVs.cut ds vs hr hc⟩
          · cases e
        | dK kvs =>
          simp only [e1] at e
          split at e
          · rename_i hc
            cases e
            obtain ⟨vs, h1, hr⟩ := rc
            simp only [RV]
            exact ⟨a, vs, rfl, hcut, .inl h1, RVk.cut kvs vs hr hc⟩
          · cases e
        | dT kvs => simp only [e1] at e; cases e
        | ins C fs => simp only [e1] at e; cases e
        | dL kvs =>
          simp only [e1] at e
          split at e
          · rename_i hc
            cases e
            obtain ⟨vs, o, h1, hr⟩ := rc
            simp only [RV]
            exact ⟨a, vs, rfl, hcut, .inr ⟨o, h1⟩, RVk.cut kvs vs hr hc⟩
          · cases e
theorem RVs.thaw {n : Nat} (hH : RH K H μ m) : ∀ (ds ds' : List D) (vs : List V), RVs K H μ ds vs → thawL n m ds = some ds' → RVs K H (μ.cut n) ds' vs
  | [], ds', vs, q, e => by simp only [thawL] at e; cases e; simpa [RVs] using q
  | d :: ds, ds', vs, q, e => by
    simp only [thawL] at e
    obtain ⟨d', e1, e2⟩ := Option.bind_eq_some_iff.mp e
    obtain ⟨ds1, e3, rfl⟩ := Option.map_eq_some_iff.mp e2
    simp only [RVs] at q ⊢
    obtain ⟨v, r, rfl, h1, h2⟩ := q
    exact ⟨v, r, rfl, RV.thaw hH d d' v h1 e1, RVs.thaw hH ds ds1 r h2 e3⟩
end
theorem Paired.all2 {α β : Type} {F G : α → β → Prop} {q : α → Bool} : ∀ {l₁ : List α} {l₂ : List β}, Paired F l₁ l₂ → (∀ a b, F a b → q a = true → G a b) → l₁.all q = true → Paired G l₁ l₂
  | _, _, .nil, _, _ => .nil
  | _, _, .cons r t, f, h => by
    simp only [List.all_cons, Bool.and_eq_true] at h
    exact .cons (f _ _ r h.1) (Paired.all2 t f h.2)
theorem Paired.all1 {α β : Type} {F : α → β → Prop} {q : α → Bool} : ∀ {l₁ : List α} {l₂ : List β}, Paired F l₁ l₂ → (∀ a b, F a b → q a = true) → l₁.all q = true
  | _, _, .nil, _ => rfl
  | _, _, .cons r t, f => by
    simp only [List.all_cons, Bool.and_eq_true]
    exact ⟨f _ _ r, Paired.all1 t f⟩
theorem RC.cut {n : Nat} {c : Cell} {a : Addr} (h : RC K H μ c a) (hc : cloC n c = true) : RC K H (μ.cut n) c a := by
  cases c with
  | lst ds => obtain ⟨vs, h1, h2, h3⟩ := h; exact ⟨vs, h1, h2, RVs.cut _ _ h3 hc⟩
  | dK kvs => obtain ⟨vs, h1, h2⟩ := h; exact ⟨vs, h1, RVk.cut _ _ h2 hc⟩
  | dL kvs => obtain ⟨vs, o, h1, h2⟩ := h; exact ⟨vs, o, h1, RVk.cut _ _ h2 hc⟩
  | dT kvs => obtain ⟨vs, h1, h2⟩ := h; exact ⟨vs, h1, Paired.all2 h2 (fun p q z y => ⟨z.1, RV.cut _ _ z.2 y⟩) hc⟩
  | ins C fs => obtain ⟨dx, vs, h1, h2⟩ := h; exact ⟨dx, vs, h1, Paired.all2 h2 (fun p q z y => ⟨z.1, RV.cut _ _ z.2 y⟩) hc⟩
theorem RC.clo {c : Cell} {a : Addr} (h : RC K H μ c a) : cloC μ.l.length c = true := by
  cases c with
  | lst ds => obtain ⟨vs, h1, h2, h3⟩ := h; exact RVs.clo _ _ h3
  | dK kvs => obtain ⟨vs, h1, h2⟩ := h; exact RVk.clo _ _ h2
  | dL kvs => obtain ⟨vs, o, h1, h2⟩ := h; exact RVk.clo _ _ h2
  | dT kvs => obtain ⟨vs, h1, h2⟩ := h; exact Paired.all1 h2 (fun p q z => RV.clo _ _ z.2)
  | ins C fs => obtain ⟨dx, vs, h1, h2⟩ := h; exact Paired.all1 h2 (fun p q z => RV.clo _ _ z.2)
theorem RH.allClo (h : RH K H μ m) : m.all (cloC m.length) = true := by
  rw [List.all_eq_true]
  intro c hc
  obtain ⟨i, hi, rfl⟩ := List.getElem_of_mem hc
  obtain ⟨a, _, r⟩ := h.at' i _ (List.getElem?_eq_getElem hi)
  rw [← h.len]; exact r.clo
theorem RH.cut {n : Nat} (h : RH K H μ m) (hc : (m.take n).all (cloC n) = true) : RH K H (μ.cut n) (m.take n) := by
  refine ⟨by simp [Mu.cut, h.len], h.nd.sublist (List.take_sublist _ _), fun i c q => ?_, h.hid, fun a z => h.sep a (List.mem_of_mem_take z)⟩
  have hi : i < n := by
    have := (List.getElem?_eq_some_iff.mp q).1
    rw [List.length_take] at this; omega
  have q' : m[i]? = some c := by rwa [List.getElem?_take_of_lt hi] at q
  obtain ⟨a, e, r⟩ := h.at' i c q'
  exact ⟨a, Mu.get_lt e hi, r.cut (List.all_eq_true.mp hc c (List.mem_of_getElem? q))⟩
theorem Ext.cut {μ' : Mu} (x : Ext K H μ H' μ') {n : Nat} (hn : n = μ.l.length) : Ext K H μ H' (μ'.cut n) ∧ μ'.cut n = μ := by
  obtain ⟨l, e⟩ := x.pre
  have e' : μ'.cut n = μ := by
    have h1 := x.hid
    obtain ⟨l1, h1'⟩ := μ; obtain ⟨l2, h2'⟩ := μ'
    subst hn
    dsimp only at e h1 ⊢
    subst e h1
    simp [Mu.cut]
  refine ⟨?_, e'⟩
  rw [e']
  exact ⟨⟨[], by simp⟩, rfl, x.tup, fun a u n d h => ⟨(x.dat a u n d h).1, n⟩, fun a o u n h => ⟨(x.frz a o u n h).1, n⟩, fun a kvs n h => ⟨(x.dct a kvs n h).1, n⟩, x.fz⟩
/-- leaving a def -/
theorem leave_ok {Ex : XK} {Q : VK} {d : D} {v : V} {μ' : Mu} (hH : RH K H μ m) (q : Ok K Ex H μ (RVv K) Q (leave m d m')) (x : Ext K H μ H' μ') (hH' : RH K H' μ' m') (r : RV K H' μ' d v) : Q v H' := by
  unfold leave at q
  split at q
  · exact q v H' μ' x hH' r
  · cases e : FL.thaw m.length m' d with
    | none => simp only [e] at q; exact q.elim
    | some d' =>
      simp only [e] at q
      by_cases hc : m'.take m.length = m ∨ (m'.take m.length).all (cloC m.length) = true
      · rw [if_pos hc] at q
        obtain ⟨x2, e2⟩ := x.cut (n := m.length) (by rw [hH.len])
        have hall : (m'.take m.length).all (cloC m.length) = true := by
          rcases hc with hc | hc
          · rw [hc]; exact hH.allClo
          · exact hc
        exact q v H' _ x2 (hH'.cut hall) (RV.thaw hH' d d' v r e)
      · rw [if_neg hc] at q; exact q.elim
end

/-! ### a def by what it computes -/
/-- called with these data the def computes this -/
def spF (K : PySem.W.Frag) (n : Nat) (F : List D → Me → Res D) : Sp := fun vs H Q E => ∃ μ m ds, RH K H μ m ∧ RVs K H μ ds vs ∧ ds.length = n ∧ Ok K E H μ (RVv K) Q (F ds m)
section
variable {P : Program} {w : World} {K : PySem.W.Frag} {mg : Str → Option Value} {base : Heap}
theorem start_rs {H : Hp} {μ : Mu} {ds : List D} {vs : List V} {N : List Str} {n : Nat} (r : RVs K H μ ds vs) (hn : ds.length = n) : RS K H μ (ds.map some ++ List.replicate (N.length - n) none) (L2.start N vs) := by
  have hl := r.length
  refine ⟨by simp [L2.start, ← hl, hn], fun i d q => ?_⟩
  by_cases hi : i < ds.length
  · rw [List.getElem?_append_left (by simpa using hi), List.getElem?_map] at q
    cases e : ds[i]? with
    | none => rw [e] at q; cases q
    | some d' =>
      rw [e] at q; cases q
      obtain ⟨v, h1, h2⟩ := r.get e
      refine ⟨v, ?_, h2⟩
      unfold L2.start
      rw [List.getElem?_append_left (by simpa [← hl] using hi), List.getElem?_map, h1]; rfl
  · rw [List.getElem?_append_right (by simpa using hi), List.getElem?_replicate] at q
    split at q <;> cases q
theorem fn_ok {x qual : Str} {st : Stmt} {f : Addr} {fd : FuncData} {N ps : List Str} {k : Nat} (F : Fun K x qual st f fd) (S : FnScope N ps (defScope st)) {fm : MS}
    (hbody : ∀ (cdv : Value) (A : Around) (outer : List Env) (s : Shared) (H : Hp) (E : XK), Room k (A.deeper (envOfC qual (defScope st) s.heap.objs.size f cdv)) →
      PDB (cxOf CX0 P w K mg base N qual (defScope st) f cdv A outer s H E).nox WF (defBody st) fm) : FnOk P w K mg base CX0 (k + 1) f fd ps (spF K ps.length (runDef N.length ps.length fm)) := by
  refine F.ok S (fun vs H Q E h => ?_) (fun cdv A outer s H vs Q E hr h => ?_)
  · obtain ⟨μ, m, ds, _, r, hn, _⟩ := h
    rw [← r.length, hn]
  · obtain ⟨μ, m, ds, hH, r, hn, q⟩ := h
    refine ⟨_, hbody cdv A outer s H E hr, μ, _, m, hH, start_rs r hn, ?_⟩
    unfold runDef at q
    cases e : fm (ds.map some ++ List.replicate (N.length - ps.length) none) m with
    | no => simp only [e] at q; exact q
    | exc x ρ m' => simp only [e] at q; exact q.elim
    | bk ρ m' => simp only [e] at q; exact q.elim
    | ct ρ m' => simp only [e] at q; exact q.elim
    | nx ρ m' => simp only [e] at q; exact fun σ' H' μ' x hH' hS' => leave_ok hH q x hH' (by simp [RV])
    | rt d m' => simp only [e] at q; exact fun v H' μ' x hH' r' => leave_ok hH q x hH' r'
/-- with no call left nothing is promised -/
theorem fn_zero {f : Addr} {fd : FuncData} {ps : List Str} {n : Nat} : FnOk P w K mg base CX0 0 f fd ps (spF K n fun _ _ => .no) := by
  have no : ∀ vs H Q E, ¬ spF K n (fun _ _ => .no) vs H Q E := fun vs H Q E ⟨_, _, _, _, _, _, q⟩ => q
  exact ⟨fun vs H Q E h => absurd h (no vs H Q E), fun A outer s H args us vs Q E _ _ _ _ h => absurd h (no vs H Q E)⟩
end
section
variable {X : Cx} {W : WX} {k : Nat} {f : Addr} {fd : FuncData} {ps : List Str} {x : Str} {p pos : Pos} {e : Expr} {es : List Expr} {Fm : List D → Me → Res D} {n : Nat}
def mCall (F : List D → Me → Res D) (fa : MA) : ME := fun ρ m => (fa ρ m).bind fun ds m => noX (F ds m)
theorem pd_call {fa : MA} (G : FnOk X.prog X.w X.K X.mg X.base CX0 k f fd ps (spF X.K n Fm)) (hr : Room k X.A) (hg : Gl X x) (hm : X.mg x = some (.ref f)) (hk : PySem.W.keepIn X.K (.ref f) = true) (hb : Binds X.K fd ps [])
    (ha : PDA X W n (e :: es) fa) (hdb : (x == ("__debug__" : Str)) = false := by decide) (he : starEach (e :: es) X.env = (false, eval e X.env) :: starEach es X.env := by rfl) (hpl : (backTo pos (starEach es X.env)).any (·.1) = false := by rfl) :
    PD X W (.Call (.Name x p) (e :: es) [] pos) (mCall Fm fa) :=
  PE.imp (pe_call G hr hg hm hk hb .nil pass0 ha hdb he hpl) fun σ H Q ⟨μ, ρ, m, hH, hS, q⟩ => seqR q hH hS fun ds m1 vs H1 μ1 e1 hH1 r1 hS1 q1 => by
    refine ⟨μ1, m1, ds, hH1, by simpa using r1.1, r1.2, Ok.noX' q1⟩
end
end FL

set_option maxRecDepth 100000
namespace FL
open PySem PySem.Spec PyProof.Rows L2

/-! ### a look through the store -/
def view (m : Me) (d : D) : D := match d with
  | .ref i => match m[i]? with
    | some (.lst xs) => .lst xs
    | some (.dK kvs) => .dct kvs
    | some (.dL kvs) => .dct kvs
    | _ => .ref i
  | d => d
section
variable {K : PySem.W.Frag} {H : Hp} {μ : Mu} {m : Me} {d : D} {v : V}
theorem view_lst {xs : List D} (hH : RH K H μ m) (r : RV K H μ d v) (e : view m d = .lst xs) : ∃ a vs, v = .ref a ∧ H a = some (.lst vs) ∧ vs.length ≤ sizeLine ∧ RVs K H μ xs vs := by
  cases d with
  | lst ys =>
    cases e
    simp only [RV] at r
    obtain ⟨a, vs, rfl, _, hs, hz, hr⟩ := r
    exact ⟨a, vs, rfl, hs, hz, hr⟩
  | ref i =>
    simp only [RV] at r
    obtain ⟨a, rfl, ha⟩ := r
    unfold view at e
    cases e1 : m[i]? with
    | none => simp only [e1] at e; cases e
    | some c =>
      obtain ⟨a', e2, rc⟩ := hH.at' i c e1
      rw [ha] at e2; cases e2
      cases c with
      | lst ys =>
        simp only [e1] at e
        cases e
        obtain ⟨vs, h1, hz, hr⟩ := rc
        exact ⟨a, vs, rfl, h1, hz, hr⟩
      | _ => simp only [e1] at e; cases e
  | _ => cases e
theorem view_dct {kvs : List (Key × D)} (hH : RH K H μ m) (r : RV K H μ d v) (e : view m d = .dct kvs) : ∃ a ps, v = .ref a ∧ Rd H a (.dK ps) ∧ RVk K H μ kvs ps := by
  cases d with
  | dct ys =>
    cases e
    simp only [RV] at r
    obtain ⟨a, vs, rfl, _, hs, hr⟩ := r
    exact ⟨a, vs, rfl, hs, hr⟩
  | ref i =>
    simp only [RV] at r
    obtain ⟨a, rfl, ha⟩ := r
    unfold view at e
    cases e1 : m[i]? with
    | none => simp only [e1] at e; cases e
    | some c =>
      obtain ⟨a', e2, rc⟩ := hH.at' i c e1
      rw [ha] at e2; cases e2
      cases c with
      | dK ys =>
        simp only [e1] at e
        cases e
        obtain ⟨vs, h1, hr⟩ := rc
        exact ⟨a, vs, rfl, .inl h1, hr⟩
      | dL ys =>
        simp only [e1] at e
        cases e
        obtain ⟨vs, o, h1, hr⟩ := rc
        exact ⟨a, vs, rfl, .inr ⟨o, h1⟩, hr⟩
      | _ => simp only [e1] at e; cases e
  | _ => cases e
theorem view_tup {xs : List D} (e : view m d = .tup xs) : d = .tup xs := by
  cases d with
  | ref i => unfold view at e; dsimp only at e; split at e <;> cases e
  | _ => exact e
theorem rv_tup {xs : List D} (r : RV K H μ (.tup xs) v) : ∃ a vs, v = .ref a ∧ TupN K H a vs ∧ vs.length ≤ sizeLine ∧ RVs K H μ xs vs := by simpa only [RV] using r
end

/-! ### + - * // % ** -/
section
variable {X : Cx}
/-- () + u is u -/
def rCat0 (K : PySem.W.Frag) : R2 := fun x y H Q => ∃ a b ys, x = .ref a ∧ y = .ref b ∧ SqT K H a [] ∧ SqT K H b ys ∧ Q (.ref b) H
theorem op_cat0 : OpR X (binaryOp .Add) (rCat0 X.K) := by
  rintro pins s σ H x y v u Q I rx ry ⟨a, b, ys, rfl, rfl, ha, hb, q⟩
  cases rx; cases ry
  obtain ⟨its, r1, p1, _⟩ := I.tuple ha
  obtain ⟨its2, r2, p2, _⟩ := I.tuple hb
  cases r1
  obtain ⟨⟨c1, dd, da, sl⟩, ho, hc, n, hd⟩ := id p1
  obtain ⟨⟨c2, dd2, da2, sl2⟩, ho2, hc2, n2, hd2⟩ := id p2
  simp only at hc hd hc2 hd2
  subst hc hd hc2 hd2
  exact concat_meets ⟨_, ho, rfl⟩ ⟨_, ho2, rfl⟩ noFill_tuple_add seq_tuple_add PySem.F.slot_tuple_add PySem.F.entry_tuple_add (PySem.F.args_tuple_add_2 _ _)
    (tuple_addW0 a b _ its2.toArray n n2 dd dd2 sl sl2 (by simp)) ⟨ho, ho2, ⟨.ref b, H, I, rfl, q⟩⟩
def rAddS : R2 := fun x y H Q => ∃ i j, x = .str i ∧ y = .str j ∧ i.length + j.length ≤ sizeLine ∧ Q (.str (i ++ j)) H
def rAddAll (K : PySem.W.Frag) : R2 := fun x y H Q => rI0 (fun i j => .int (i + j)) x y H Q ∨ rAddS x y H Q ∨ rCat x y H Q ∨ rCat0 K x y H Q ∨ rCatN K x y H Q
theorem op_addAll : OpR X (binaryOp .Add) (rAddAll X.K) := op_add.or (op_add_str.or (op_cat.or (op_cat0.or op_catN)))
def gAdd (d d' : D) (m : Me) : Res D := match view m d, view m d' with
  | .int i, .int j => .ok (.int (i + j)) m
  | .str x, .str y => if x.length + y.length ≤ sizeLine then .ok (.str (x ++ y)) m else .no
  | .tup xs, .tup ys => if xs.length + ys.length ≤ sizeLine then .ok (.tup (xs ++ ys)) m else .no
  | .lst xs, .lst ys => if xs.length + ys.length ≤ sizeLine then .ok (.lst (xs ++ ys)) m else .no
  | _, _ => .no
theorem view_int {m : Me} {d : D} {i : Int} (e : view m d = .int i) : d = .int i := by
  cases d with
  | ref i => unfold view at e; dsimp only at e; split at e <;> cases e
  | _ => exact e
theorem view_str {m : Me} {d : D} {i : Str} (e : view m d = .str i) : d = .str i := by
  cases d with
  | ref i => unfold view at e; dsimp only at e; split at e <;> cases e
  | _ => exact e
theorem g_add {K : PySem.W.Frag} : G2 K (rAddAll K) gAdd := fun Ex H μ m d d' x y Q hH r1 r2 q => by
  unfold gAdd at q
  split at q
  · rename_i i j e1 e2
    have := view_int e1; have := view_int e2; subst d d'
    simp only [RV] at r1 r2
    exact .inl ⟨i, j, r1, r2, q _ H μ .refl hH (by simp [RV])⟩
  · rename_i i j e1 e2
    have := view_str e1; have := view_str e2; subst d d'
    simp only [RV] at r1 r2
    split at q
    · rename_i hz
      exact .inr (.inl ⟨i, j, r1, r2, hz, q _ H μ .refl hH (by simp [RV])⟩)
    · exact q.elim
  · rename_i xs ys e1 e2
    have := view_tup e1; have := view_tup e2; subst d d'
    split at q
    · rename_i hz
      obtain ⟨a, vs, rfl, s1, z1, w1⟩ := rv_tup r1
      obtain ⟨b, us, rfl, s2, z2, w2⟩ := rv_tup r2
      have l1 := w1.length; have l2 := w2.length
      have hz' : vs.length + us.length ≤ sizeLine := by omega
      cases xs with
      | nil =>
        have : vs = [] := by simpa only [RVs] using w1
        subst this
        refine .inr (.inr (.inr (.inl ⟨a, b, us, rfl, rfl, s1.sq, s2.sq, q _ H μ .refl hH ?_⟩)))
        simp only [RV]
        exact ⟨b, us, rfl, s2, z2, w2⟩
      | cons x0 xs0 =>
        have hne : vs ≠ [] := fun z => by subst z; simp at l1
        refine .inr (.inr (.inr (.inr ⟨a, b, vs, us, rfl, rfl, s1.sq, s2.sq, hne, hz', fun hu => ?_, fun hu p o hd hp => ?_⟩)))
        · subst hu
          have : ys = [] := List.length_eq_zero_iff.mp (by simpa using l2)
          subst this
          refine q _ H μ .refl hH ?_
          simp only [RV, List.append_nil]
          exact ⟨a, vs, rfl, s1, z1, w1⟩
        · have ex := Ext.new (o := .frz o (.tup (vs ++ us))) hH hp
          refine q _ _ μ ex (hH.new hp) ?_
          simp only [RV]
          exact ⟨p, vs ++ us, rfl, .inl ⟨o, upd_same, hd⟩, by simpa using hz', RVs.ext ex _ _ (w1.append w2)⟩
    · exact q.elim
  · rename_i xs ys e1 e2
    split at q
    · rename_i hz
      obtain ⟨a, vs, rfl, s1, z1, w1⟩ := view_lst hH r1 e1
      obtain ⟨b, us, rfl, s2, z2, w2⟩ := view_lst hH r2 e2
      have l1 := w1.length; have l2 := w2.length
      have hz' : vs.length + us.length ≤ sizeLine := by omega
      refine .inr (.inr (.inl ⟨a, b, vs, us, rfl, rfl, s1, s2, hz', fun p hp => ?_⟩))
      have ex := Ext.new (o := .lst (vs ++ us)) hH hp
      refine q _ _ μ ex (hH.new hp) ?_
      simp only [RV]
      exact ⟨p, vs ++ us, rfl, ⟨hH.notin hp, fun z => hH.hid _ z hp⟩, upd_same, by simpa using hz', RVs.ext ex _ _ (w1.append w2)⟩
    · exact q.elim
  · exact q.elim
/-- two ints -/
def gII (C : Int → Int → Prop) [∀ i j, Decidable (C i j)] (f : Int → Int → D) (d d' : D) (m : Me) : Res D := match d, d' with
  | .int i, .int j => if C i j then .ok (f i j) m else .no
  | _, _ => .no
def ofD : D → V
  | .int i => .int i
  | .bl b => .bl b
  | _ => .non
theorem g_ii {K : PySem.W.Frag} {C C' : Int → Int → Prop} {_i : ∀ i j, Decidable (C i j)} {f : Int → Int → D} (hC : ∀ i j, C i j → C' i j) (hf : ∀ i j H μ, RV K H μ (f i j) (ofD (f i j))) : G2 K (rI C' fun i j => ofD (f i j)) (@gII C _i f) := fun Ex H μ m d d' x y Q hH r1 r2 q => by
  unfold gII at q
  split at q
  · rename_i i j
    split at q
    · rename_i h
      simp only [RV] at r1 r2
      exact ⟨i, j, r1, r2, hC i j h, q _ H μ .refl hH (hf i j H μ)⟩
    · exact q.elim
  · exact q.elim
theorem g_ii0 {K : PySem.W.Frag} {f : Int → Int → D} (hf : ∀ i j H μ, RV K H μ (f i j) (ofD (f i j))) : G2 K (rI0 fun i j => ofD (f i j)) (gII (fun _ _ => True) f) := fun Ex H μ m d d' x y Q hH r1 r2 q => by
  obtain ⟨i, j, h1, h2, _, h3⟩ := g_ii (C' := fun _ _ => True) (fun _ _ h => h) hf Ex H μ m d d' x y Q hH r1 r2 q
  exact ⟨i, j, h1, h2, h3⟩
def gSub := gII (fun _ _ => True) fun i j => .int (i - j)
noncomputable def gMul := @gII (fun i j => ((-(2 ^ 64) < i ∧ i < 2 ^ 64) ∨ (-(2 ^ 64) < j ∧ j < 2 ^ 64))) (fun _ _ => Classical.propDecidable _) fun i j => .int (i * j)
noncomputable def gMod := @gII (fun _ j => 0 < j) (fun _ _ => Classical.propDecidable _) fun i j => .int (i % j)
noncomputable def gDiv := @gII (fun _ j => 0 < j ∧ j.natAbs < 2 ^ 200) (fun _ _ => Classical.propDecidable _) fun i j => .int (i / j)
noncomputable def gPow := @gII (fun i j => 0 ≤ j ∧ j ≤ 1000 ∧ i.natAbs < 2 ^ 64) (fun _ _ => Classical.propDecidable _) fun i j => .int (i ^ j.toNat)
variable {W : WX} {a b : Expr} {fa fb : ME} {pos : Pos}
theorem pd_add (ha : PD X W a fa) (hb : PD X W b fb) : PD X W (.BinOp a .Add b pos) (m2 gAdd fa fb) := pd_op op_addAll g_add ha hb
theorem pd_sub (ha : PD X W a fa) (hb : PD X W b fb) : PD X W (.BinOp a .Sub b pos) (m2 gSub fa fb) := pd_op op_sub (g_ii0 (f := fun i j => .int (i - j)) fun _ _ _ _ => by simp [RV, ofD]) ha hb
theorem pd_mul (ha : PD X W a fa) (hb : PD X W b fb) : PD X W (.BinOp a .Mult b pos) (m2 gMul fa fb) := pd_op op_mul (g_ii (C' := CMul) (f := fun i j => .int (i * j)) (fun _ _ h => h) fun _ _ _ _ => by simp [RV, ofD]) ha hb
theorem pd_mod (ha : PD X W a fa) (hb : PD X W b fb) : PD X W (.BinOp a .Mod b pos) (m2 gMod fa fb) := pd_op op_mod (g_ii (f := fun i j => .int (i % j)) (fun _ _ h => h) fun _ _ _ _ => by simp [RV, ofD]) ha hb
theorem pd_div (ha : PD X W a fa) (hb : PD X W b fb) : PD X W (.BinOp a .FloorDiv b pos) (m2 gDiv fa fb) := pd_op op_fdivW (g_ii (C' := CDivW) (f := fun i j => .int (i / j)) (fun _ _ h => wide_div h.1 h.2 (by decide) (by decide)) fun _ _ _ _ => by simp [RV, ofD]) ha hb
theorem pd_pow (ha : PD X W a fa) (hb : PD X W b fb) : PD X W (.BinOp a .Pow b pos) (m2 gPow fa fb) := pd_op op_pow (g_ii (C' := CPow) (f := fun i j => .int (i ^ j.toNat)) (fun _ _ h => ⟨h.1, Int.le_trans h.2.1 (by decide), h.2.2⟩) fun _ _ _ _ => by simp [RV, ofD]) ha hb
def gNeg (d : D) (m : Me) : Res D := match d with
  | .int i => .ok (.int (-i)) m
  | _ => .no
theorem pd_neg (ha : PD X W a fa) : PD X W (.UnaryOp .USub a pos) (m1 gNeg fa) := pd_un un_neg (fun Ex H μ m d x Q hH r q => by
  cases d with
  | int i => simp only [RV] at r; exact ⟨i, r, q _ H μ .refl hH (by simp [RV])⟩
  | _ => exact q.elim) ha

/-! ### comparisons of numbers -/
def gLt := gII (fun _ _ => True) fun i j => .bl (decide (i < j))
def gLe := gII (fun _ _ => True) fun i j => .bl (decide (i ≤ j))
def gGt := gII (fun _ _ => True) fun i j => .bl (decide (j < i))
def gGe := gII (fun _ _ => True) fun i j => .bl (decide (j ≤ i))
theorem g_lt {K : PySem.W.Frag} : G2 K (rI0 fun i j => .bl (decide (i < j))) gLt := g_ii0 (f := fun i j => .bl (decide (i < j))) fun _ _ _ _ => by simp [RV, ofD]
theorem g_le {K : PySem.W.Frag} : G2 K (rI0 fun i j => .bl (decide (i ≤ j))) gLe := g_ii0 (f := fun i j => .bl (decide (i ≤ j))) fun _ _ _ _ => by simp [RV, ofD]
theorem g_gt {K : PySem.W.Frag} : G2 K (rI0 fun i j => .bl (decide (j < i))) gGt := g_ii0 (f := fun i j => .bl (decide (j < i))) fun _ _ _ _ => by simp [RV, ofD]
theorem g_ge {K : PySem.W.Frag} : G2 K (rI0 fun i j => .bl (decide (j ≤ i))) gGe := g_ii0 (f := fun i j => .bl (decide (j ≤ i))) fun _ _ _ _ => by simp [RV, ofD]

/-! ### None -/
def isN : D → Bool
  | .non => true
  | _ => false
def gIsN (d d' : D) (m : Me) : Res D := match d' with
  | .non => .ok (.bl (isN d)) m
  | _ => .no
def gNotN (d d' : D) (m : Me) : Res D := match d' with
  | .non => .ok (.bl (!isN d)) m
  | _ => .no
theorem isN_eq {K : PySem.W.Frag} {H : Hp} {μ : Mu} {d : D} {v : V} (r : RV K H μ d v) : isN d = decide (v = .non) := by
  cases d <;> simp only [RV] at r
  case non => subst r; rfl
  case bl => subst r; rfl
  case int => subst r; rfl
  case str => subst r; rfl
  case tup => obtain ⟨_, _, rfl, _⟩ := r; rfl
  case lst => obtain ⟨_, _, rfl, _⟩ := r; rfl
  case dct => obtain ⟨_, _, rfl, _⟩ := r; rfl
  case ref => obtain ⟨_, rfl, _⟩ := r; rfl
  case scr => obtain ⟨_, rfl, _⟩ := r; rfl
  case fn => obtain ⟨_, rfl, _⟩ := r; rfl
theorem g_isN {K : PySem.W.Frag} : G2 K (fun x y H Q => y = .non ∧ Q (.bl (decide (x = .non))) H) gIsN := fun Ex H μ m d d' x y Q hH r1 r2 q => by
  cases d' with
  | non => simp only [RV] at r2; exact ⟨r2, q _ H μ .refl hH (by simp [RV, isN_eq r1])⟩
  | _ => exact q.elim
theorem g_notN {K : PySem.W.Frag} : G2 K (fun x y H Q => y = .non ∧ Q (.bl (!decide (x = .non))) H) gNotN := fun Ex H μ m d d' x y Q hH r1 r2 q => by
  cases d' with
  | non => simp only [RV] at r2; exact ⟨r2, q _ H μ .refl hH (by simp [RV, isN_eq r1])⟩
  | _ => exact q.elim

/-! ### == of data -/
mutual
def py : D → Option PyData
  | .non => some .none
  | .bl b => some (.bool b)
  | .int i => some (.int i)
  | .str x => some (.str x)
  | .tup ds => (pyL ds).map .tuple
  | .lst ds => (pyL ds).map .list
  | _ => none
def pyL : List D → Option (List PyData)
  | [] => some []
  | d :: ds => (py d).bind fun p => (pyL ds).map fun ps => p :: ps
end
mutual
theorem dp_of {K : PySem.W.Frag} {H : Hp} {μ : Mu} : ∀ (d : D) (v : V) (p : PyData), RV K H μ d v → py d = some p → Dp K H v p
  | .non, v, p, r, e => by simp only [RV] at r; simp only [py] at e; cases e; subst r; exact .non
  | .bl b, v, p, r, e => by simp only [RV] at r; simp only [py] at e; cases e; subst r; exact .bl b
  | .int b, v, p, r, e => by simp only [RV] at r; simp only [py] at e; cases e; subst r; exact .int b
  | .str b, v, p, r, e => by simp only [RV] at r; simp only [py] at e; cases e; subst r; exact .str b
  | .tup ds, v, p, r, e => by
    simp only [RV] at r; simp only [py] at e
    obtain ⟨ps, e1, rfl⟩ := Option.map_eq_some_iff.mp e
    obtain ⟨a, vs, rfl, hs, _, hr⟩ := r
    exact .tup hs.sq (dps_of ds vs ps hr e1)
  | .lst ds, v, p, r, e => by
    simp only [RV] at r; simp only [py] at e
    obtain ⟨ps, e1, rfl⟩ := Option.map_eq_some_iff.mp e
    obtain ⟨a, vs, rfl, _, hs, _, hr⟩ := r
    exact .lst (.of hs) (dps_of ds vs ps hr e1)
  | .dct _, v, p, r, e => by simp only [py] at e; cases e
  | .ref _, v, p, r, e => by simp only [py] at e; cases e
  | .scr _, v, p, r, e => by simp only [py] at e; cases e
theorem dps_of {K : PySem.W.Frag} {H : Hp} {μ : Mu} : ∀ (ds : List D) (vs : List V) (ps : List PyData), RVs K H μ ds vs → pyL ds = some ps → DpAll K H vs ps
  | [], vs, ps, r, e => by simp only [RVs] at r; simp only [pyL] at e; cases e; subst r; exact .nil
  | d :: ds, vs, ps, r, e => by
    simp only [RVs] at r; simp only [pyL] at e
    obtain ⟨v, vr, rfl, r1, r2⟩ := r
    obtain ⟨p, e1, e2⟩ := Option.bind_eq_some_iff.mp e
    obtain ⟨ps', e3, rfl⟩ := Option.map_eq_some_iff.mp e2
    exact .cons (dp_of d v p r1 e1) (dps_of ds vr ps' r2 e3)
end
theorem dp_view {K : PySem.W.Frag} {H : Hp} {μ : Mu} {m : Me} {d : D} {v : V} {p : PyData} (hH : RH K H μ m) (r : RV K H μ d v) (e : py (view m d) = some p) : Dp K H v p := by
  cases e1 : view m d with
  | lst xs =>
    rw [e1] at e
    simp only [py] at e
    obtain ⟨ps, e2, rfl⟩ := Option.map_eq_some_iff.mp e
    obtain ⟨a, vs, rfl, hs, _, hr⟩ := view_lst hH r e1
    exact .lst (.of hs) (dps_of xs vs ps hr e2)
  | tup xs => rw [e1] at e; have := view_tup e1; subst this; exact dp_of _ v p r e
  | dct _ => rw [e1] at e; simp only [py] at e; cases e
  | ref _ => rw [e1] at e; simp only [py] at e; cases e
  | scr _ => rw [e1] at e; simp only [py] at e; cases e
  | fn _ => rw [e1] at e; simp only [py] at e; cases e
  | int i => rw [e1] at e; have := view_int e1; subst this; exact dp_of _ v p r e
  | str i => rw [e1] at e; have := view_str e1; subst this; exact dp_of _ v p r e
  | non =>
    have : d = .non := by
      cases d with
      | ref i => unfold view at e1; dsimp only at e1; split at e1 <;> cases e1
      | _ => exact e1
    subst this
    rw [e1] at e; exact dp_of _ v p r e
  | bl b =>
    have : d = .bl b := by
      cases d with
      | ref i => unfold view at e1; dsimp only at e1; split at e1 <;> cases e1
      | _ => exact e1
    subst this
    rw [e1] at e; exact dp_of _ v p r e
def eqRes (m : Me) (neg : Bool) (a b : Option PyData) : Res D := match a, b with
  | some p, some q => if SeqAt.shaped p = true ∧ SeqAt.shaped q = true then .ok (.bl (if neg then !PyData.eqv p q else PyData.eqv p q)) m else .no
  | _, _ => .no
def gEq (d d' : D) (m : Me) : Res D := eqRes m false (py (view m d)) (py (view m d'))
def gNe (d d' : D) (m : Me) : Res D := eqRes m true (py (view m d)) (py (view m d'))
theorem g_eq {K : PySem.W.Frag} : G2 K (rEqD K) gEq := fun Ex H μ m d d' x y Q hH r1 r2 q => by
  unfold gEq eqRes at q
  split at q
  · rename_i p p' e1 e2
    split at q
    · rename_i hs
      exact ⟨p, p', dp_view hH r1 e1, dp_view hH r2 e2, hs.1, hs.2, q _ H μ .refl hH (by simp [RV])⟩
    · exact q.elim
  · exact q.elim
theorem g_ne {K : PySem.W.Frag} : G2 K (rNeD K) gNe := fun Ex H μ m d d' x y Q hH r1 r2 q => by
  unfold gNe eqRes at q
  split at q
  · rename_i p p' e1 e2
    split at q
    · rename_i hs
      exact ⟨p, p', dp_view hH r1 e1, dp_view hH r2 e2, hs.1, hs.2, q _ H μ .refl hH (by simp [RV])⟩
    · exact q.elim
  · exact q.elim

/-! ### in -/
def flatD : D → Bool
  | .non => true
  | .bl _ => true
  | .int _ => true
  | .str _ => true
  | _ => false
def eqF : D → D → Bool
  | .non, .non => true
  | .bl a, .bl b => a == b
  | .bl a, .int b => (if a then 1 else 0) == b
  | .int a, .bl b => a == (if b then 1 else 0)
  | .int a, .int b => a == b
  | .str a, .str b => a == b
  | _, _ => false
theorem flat_eq {K : PySem.W.Frag} {H : Hp} {μ : Mu} {d : D} {v : V} (r : RV K H μ d v) : flatD d = flatV v := by
  cases d <;> simp only [RV] at r
  case non => subst r; rfl
  case bl => subst r; rfl
  case int => subst r; rfl
  case str => subst r; rfl
  case tup => obtain ⟨_, _, rfl, _⟩ := r; rfl
  case lst => obtain ⟨_, _, rfl, _⟩ := r; rfl
  case dct => obtain ⟨_, _, rfl, _⟩ := r; rfl
  case ref => obtain ⟨_, rfl, _⟩ := r; rfl
  case scr => obtain ⟨_, rfl, _⟩ := r; rfl
  case fn => obtain ⟨_, rfl, _⟩ := r; rfl
theorem eqF_eq {K : PySem.W.Frag} {H : Hp} {μ : Mu} {d d' : D} {v v' : V} (r : RV K H μ d v) (r' : RV K H μ d' v') (f : flatD d = true) (f' : flatD d' = true) : eqF d d' = eqV v v' := by
  cases d <;> (try cases f) <;> cases d' <;> (try cases f') <;> simp only [RV] at r r' <;> subst r r' <;> rfl
theorem inD_eq {K : PySem.W.Frag} {H : Hp} {μ : Mu} {d : D} {v : V} (r : RV K H μ d v) (f : flatD d = true) : ∀ {ds : List D} {vs : List V}, RVs K H μ ds vs → ds.all flatD = true → (vs.all flatV = true ∧ (ds.any fun e => eqF e d) = inV v vs)
  | [], vs, h, _ => by simp only [RVs] at h; subst h; exact ⟨rfl, rfl⟩
  | e :: ds, vs, h, c => by
    simp only [RVs] at h
    obtain ⟨u, us, rfl, h1, h2⟩ := h
    simp only [List.all_cons, Bool.and_eq_true] at c
    obtain ⟨i1, i2⟩ := inD_eq r f h2 c.2
    refine ⟨by simp [List.all_cons, ← flat_eq h1, c.1, i1], ?_⟩
    unfold inV at i2 ⊢
    rw [List.any_cons, List.any_cons, i2, eqF_eq h1 r c.1 f]
def seqV (m : Me) (d : D) : Option (List D) := match view m d with
  | .tup xs => some xs
  | .lst xs => some xs
  | _ => none
theorem seqV_of {K : PySem.W.Frag} {H : Hp} {μ : Mu} {m : Me} {d : D} {v : V} {xs : List D} (hH : RH K H μ m) (r : RV K H μ d v) (e : seqV m d = some xs) : ∃ a vs, v = .ref a ∧ (SqL K H a vs ∨ SqT K H a vs) ∧ vs.length ≤ sizeLine ∧ RVs K H μ xs vs := by
  unfold seqV at e
  split at e
  · rename_i ys e1
    cases e
    have := view_tup e1; subst this
    obtain ⟨a, vs, rfl, s1, z1, w1⟩ := rv_tup r
    exact ⟨a, vs, rfl, .inr s1.sq, z1, w1⟩
  · rename_i ys e1
    cases e
    obtain ⟨a, vs, rfl, s1, z1, w1⟩ := view_lst hH r e1
    exact ⟨a, vs, rfl, .inl (.of s1), z1, w1⟩
  · cases e
def gInN (neg : Bool) (d d' : D) (m : Me) : Res D := match seqV m d' with
  | some xs => if flatD d = true ∧ xs.all flatD = true then .ok (.bl (if neg then !(xs.any fun e => eqF e d) else xs.any fun e => eqF e d)) m else .no
  | none => .no
def gIn := gInN false
def gNotIn := gInN true
theorem g_inN {K : PySem.W.Frag} {neg : Bool} : G2 K (rIn K neg) (gInN neg) := fun Ex H μ m d d' x y Q hH r1 r2 q => by
  unfold gInN at q
  split at q
  · rename_i xs e
    obtain ⟨a, vs, rfl, hs, _, hr⟩ := seqV_of hH r2 e
    split at q
    · rename_i hf
      obtain ⟨h1, h2⟩ := inD_eq r1 hf.1 hr hf.2
      exact ⟨a, vs, rfl, hs, by rw [← flat_eq r1]; exact hf.1, h1, q _ H μ .refl hH (by simp [RV, h2])⟩
    · exact q.elim
  · exact q.elim
/-- a text in a text -/
def gInS (neg : Bool) (d d' : D) (m : Me) : Res D := match d, d' with
  | .str i, .str j => .ok (.bl (if neg then !(!(Builtin.Str.occurrences j i 0 j.length 1).isEmpty) else !(Builtin.Str.occurrences j i 0 j.length 1).isEmpty)) m
  | _, _ => .no
theorem g_inS {K : PySem.W.Frag} : G2 K (fun x y H Q => ∃ i j, x = .str i ∧ y = .str j ∧ Q (.bl (!(Builtin.Str.occurrences j i 0 j.length 1).isEmpty)) H) (gInS false) := fun Ex H μ m d d' x y Q hH r1 r2 q => by
  cases d <;> (try exact q.elim) <;> cases d' <;> (try exact q.elim)
  simp only [RV] at r1 r2
  exact ⟨_, _, r1, r2, q _ H μ .refl hH (by simp [RV])⟩
theorem g_notInS {K : PySem.W.Frag} : G2 K (fun x y H Q => ∃ i j, x = .str i ∧ y = .str j ∧ Q (.bl (!(!(Builtin.Str.occurrences j i 0 j.length 1).isEmpty))) H) (gInS true) := fun Ex H μ m d d' x y Q hH r1 r2 q => by
  cases d <;> (try exact q.elim) <;> cases d' <;> (try exact q.elim)
  simp only [RV] at r1 r2
  exact ⟨_, _, r1, r2, q _ H μ .refl hH (by simp [RV])⟩

/-! ### items -/
def gIx (d d' : D) (m : Me) : Res D := match d' with
  | .int i => match view m d with
    | .tup xs => match atI xs i with
      | some x => .ok x m
      | none => .no
    | .lst xs => match atI xs i with
      | some x => .ok x m
      | none => .no
    | .scr ns => match atI ns i with
      | some n => .ok (.int n) m
      | none => .no
    | .str z => if z.length ≤ sizeLine then match atI z.cps.toList i with
      | some c => .ok (.str ⟨#[c]⟩) m
      | none => .no
      else .no
    | _ => .no
  | _ => .no
theorem atI_rv {K : PySem.W.Frag} {H : Hp} {μ : Mu} {ds : List D} {vs : List V} {i : Int} {d : D} (r : RVs K H μ ds vs) (e : atI ds i = some d) : ∃ v, atI vs i = some v ∧ RV K H μ d v := by
  unfold atI at e ⊢
  rw [← r.length]
  obtain ⟨j, h1, h2⟩ := Option.bind_eq_some_iff.mp e
  obtain ⟨v, h3, h4⟩ := r.get h2
  exact ⟨v, by rw [h1]; exact h3, h4⟩
theorem atI_map {α β : Type} {f : α → β} {xs : List α} {i : Int} {x : α} (e : atI xs i = some x) : atI (xs.map f) i = some (f x) := by
  unfold atI at e ⊢
  obtain ⟨j, h1, h2⟩ := Option.bind_eq_some_iff.mp e
  rw [List.length_map, h1]
  simp [h2]
theorem g_ix {K : PySem.W.Frag} : G2 K (rIx K) gIx := fun Ex H μ m d d' x y Q hH r1 r2 q => by
  unfold gIx at q
  split at q
  · rename_i i
    simp only [RV] at r2
    split at q
    · rename_i xs e1
      have := view_tup e1; subst this
      obtain ⟨a, vs, rfl, s1, z1, w1⟩ := rv_tup r1
      split at q
      · rename_i z e2
        obtain ⟨v, h1, h2⟩ := atI_rv w1 e2
        exact .inr (.inl ⟨a, vs, i, v, rfl, r2, s1.sq, h1, q v H μ .refl hH h2⟩)
      · exact q.elim
    · rename_i xs e1
      obtain ⟨a, vs, rfl, s1, z1, w1⟩ := view_lst hH r1 e1
      split at q
      · rename_i z e2
        obtain ⟨v, h1, h2⟩ := atI_rv w1 e2
        exact .inl ⟨a, vs, i, v, rfl, r2, .of s1, h1, q v H μ .refl hH h2⟩
      · exact q.elim
    · rename_i ns e1
      have : d = .scr ns := by
        cases d with
        | ref i => unfold view at e1; dsimp only at e1; split at e1 <;> cases e1
        | _ => exact e1
      subst this
      simp only [RV] at r1
      obtain ⟨a, rfl, hs⟩ := r1
      split at q
      · rename_i z e2
        refine .inl ⟨a, ns.map V.int, i, .int z, rfl, r2, ?_, atI_map e2, q _ H μ .refl hH (by simp [RV])⟩
        rcases hs with ⟨_, hs⟩ | hs
        · exact .inl hs
        · rcases hs with (z | ⟨_, z⟩) | hs
          · cases z
          · cases z
          · exact .inr hs
      · exact q.elim
    · rename_i z e1
      have := view_str e1; subst this
      simp only [RV] at r1
      split at q
      · rename_i hz
        split at q
        · rename_i c e2
          exact .inr (.inr ⟨z, i, c, r1, r2, hz, e2, q _ H μ .refl hH (by simp [RV])⟩)
        · exact q.elim
      · exact q.elim
    · exact q.elim
  · exact q.elim
theorem pd_at (ha : PD X W a fa) (hb : PD X W b fb) (hs : PlainIx b := by exact fun _ _ => rfl) : PD X W (.Subscript a b pos) (m2 gIx fa fb) := pd_ix ix_seq g_ix ha hb hs
end
end FL

set_option maxRecDepth 100000
namespace FL
open PySem PySem.Spec PyProof.Rows L2

/-! ### built-ins by name -/
def GC (K : PySem.W.Frag) (r : List V → Hp → VK → Prop) (g : List D → Me → Res D) : Prop := ∀ (Ex : XK) (H : Hp) (μ : Mu) (m : Me) (ds : List D) (vs : List V) (Q : VK), RH K H μ m → RVs K H μ ds vs → Ok K Ex H μ (RVv K) Q (g ds m) → r vs H Q
def mArgs (g : List D → Me → Res D) (fa : MA) : ME := fun ρ m => (fa ρ m).bind g
section
variable {X : Cx} {W : WX} {x : Str} {p pos : Pos} {e : Expr} {es : List Expr} {id T : String} {r : List V → Hp → VK → Prop} {g : List D → Me → Res D} {n : Nat} {fa : MA}
theorem pd_callB (hc : CallR X (.builtin id) r) (hr : GC X.K r g) (hg : Gl X x) (hm : X.mg x = none) (hv : bootBuiltins x = some (.builtin id)) (ha : PDA X W n (e :: es) fa) (hn : x ≠ "__name__" := by decide) (hdb : (x == ("__debug__" : Str)) = false := by decide)
    (he : starEach (e :: es) X.env = (false, eval e X.env) :: starEach es X.env := by rfl) (hpl : (backTo pos (starEach es X.env)).any (·.1) = false := by rfl) : PD X W (.Call (.Name x p) (e :: es) [] pos) (mArgs g fa) :=
  PE.imp (pe_callB hc hg hm hv ha hn hdb he hpl) fun σ H Q ⟨μ, ρ, m, hH, hS, q⟩ => seqR q hH hS fun ds m1 vs H1 μ1 e1 hH1 r1 hS1 q1 => hr _ H1 μ1 m1 ds vs Q hH1 r1.1 q1
theorem pd_callTy (hc : CallR X (.type T) r) (hr : GC X.K r g) (hg : Gl X x) (hm : X.mg x = none) (hv : bootBuiltins x = some (.type T)) (ha : PDA X W n (e :: es) fa) (hn : x ≠ "__name__" := by decide) (hdb : (x == ("__debug__" : Str)) = false := by decide)
    (he : starEach (e :: es) X.env = (false, eval e X.env) :: starEach es X.env := by rfl) (hpl : (backTo pos (starEach es X.env)).any (·.1) = false := by rfl) : PD X W (.Call (.Name x p) (e :: es) [] pos) (mArgs g fa) :=
  PE.imp (pe_callTy hc hg hm hv ha hn hdb he hpl) fun σ H Q ⟨μ, ρ, m, hH, hS, q⟩ => seqR q hH hS fun ds m1 vs H1 μ1 e1 hH1 r1 hS1 q1 => hr _ H1 μ1 m1 ds vs Q hH1 r1.1 q1
end
section
variable {K : PySem.W.Frag} {H : Hp} {μ : Mu} {m : Me}
theorem rvs1 {d : D} {vs : List V} (r : RVs K H μ [d] vs) : ∃ v, vs = [v] ∧ RV K H μ d v := by
  simp only [RVs] at r
  obtain ⟨v, r, rfl, h, rfl⟩ := r
  exact ⟨v, rfl, h⟩
theorem rvs2 {d d' : D} {vs : List V} (r : RVs K H μ [d, d'] vs) : ∃ v v', vs = [v, v'] ∧ RV K H μ d v ∧ RV K H μ d' v' := by
  simp only [RVs] at r
  obtain ⟨v, r, rfl, h, v', r', rfl, h', rfl⟩ := r
  exact ⟨v, v', rfl, h, h'⟩
end
/-! ### dicts as lists of pairs -/
section
variable {κ : Type} [DecidableEq κ]
def getK (kvs : List (κ × D)) (k : κ) : Option D := (kvs.find? fun kv => decide (kv.1 = k)).map (·.2)
def setK (kvs : List (κ × D)) (k : κ) (v : D) : List (κ × D) :=
  if (kvs.any fun kv => decide (kv.1 = k)) = true then kvs.map (fun kv => if kv.1 = k then (kv.1, v) else kv) else kvs ++ [(k, v)]
abbrev RVq (K : PySem.W.Frag) (H : Hp) (μ : Mu) : List (κ × D) → List (κ × V) → Prop := Paired fun p q => p.1 = q.1 ∧ RV K H μ p.2 q.2
variable {K : PySem.W.Frag} {H : Hp} {μ : Mu}
theorem rvq_len {kvs : List (κ × D)} {ps : List (κ × V)} (r : RVq K H μ kvs ps) : kvs.length = ps.length := Paired.length r
theorem rvq_any {k : κ} {kvs : List (κ × D)} {ps : List (κ × V)} (r : RVq K H μ kvs ps) : (kvs.any fun kv => decide (kv.1 = k)) = ps.any fun kv => decide (kv.1 = k) := by
  induction r with
  | nil => rfl
  | cons h t ih => rw [List.any_cons, List.any_cons, ih, h.1]
theorem rvq_get {k : κ} {kvs : List (κ × D)} {ps : List (κ × V)} (r : RVq K H μ kvs ps) : match getK kvs k with
    | some d => ∃ v, valV ps k = some v ∧ RV K H μ d v
    | none => valV ps k = none := by
  induction r with
  | nil => rfl
  | @cons p q kvs ps h t ih =>
    by_cases hk : p.1 = k
    · have e1 : getK (p :: kvs) k = some p.2 := by simp [getK, List.find?_cons, hk]
      rw [e1]
      exact ⟨q.2, valV_pos (h.1 ▸ hk), h.2⟩
    · have e1 : getK (p :: kvs) k = getK kvs k := by simp [getK, List.find?_cons, hk]
      rw [e1, valV_neg (h.1 ▸ hk)]
      exact ih
theorem rvq_set {k : κ} {d : D} {v : V} (hv : RV K H μ d v) {kvs : List (κ × D)} {ps : List (κ × V)} (r : RVq K H μ kvs ps) : RVq K H μ (setK kvs k d) (putK ps k v) := by
  unfold setK putK
  rw [rvq_any r]
  split
  · have : ∀ {kvs : List (κ × D)} {ps : List (κ × V)}, RVq K H μ kvs ps → RVq K H μ (kvs.map fun kv => if kv.1 = k then (kv.1, d) else kv) (ps.map fun kv => if kv.1 = k then (kv.1, v) else kv) := by
      intro kvs ps r
      induction r with
      | nil => exact .nil
      | @cons p q kvs ps h t ih =>
        refine .cons ?_ ih
        by_cases hk : p.1 = k
        · have hk' : q.1 = k := h.1 ▸ hk
          simp only [hk, hk', if_true]; exact ⟨trivial, hv⟩
        · have hk' : ¬ q.1 = k := h.1 ▸ hk
          simp only [hk, hk', if_false]; exact h
    exact this r
  · have : ∀ {kvs : List (κ × D)} {ps : List (κ × V)}, RVq K H μ kvs ps → RVq K H μ (kvs ++ [(k, d)]) (ps ++ [(k, v)]) := by
      intro kvs ps r
      induction r with
      | nil => exact .cons ⟨rfl, hv⟩ .nil
      | cons h t ih => exact .cons h ih
    exact this r
end
theorem rvk_iff {K : PySem.W.Frag} {H : Hp} {μ : Mu} : ∀ {kvs : List (Key × D)} {ps : List (Key × V)}, RVk K H μ kvs ps ↔ RVq K H μ kvs ps
  | [], ps => by
    simp only [RVk]
    constructor
    · rintro rfl; exact .nil
    · intro h; cases h; rfl
  | (k, d) :: kvs, ps => by
    simp only [RVk, RVp]
    constructor
    · rintro ⟨v, q, rfl, h1, h2⟩
      exact .cons ⟨rfl, h1⟩ (rvk_iff.mp h2)
    · intro h
      cases h with
      | @cons _ q _ qs h t => exact ⟨q.2, qs, by rw [show (k, q.2) = q from Prod.ext h.1 rfl], h.2, rvk_iff.mpr t⟩
def keyD : D → Option Key
  | .int i => some (.inl i)
  | .str x => some (.inr x)
  | _ => none
theorem keyD_rv {K : PySem.W.Frag} {H : Hp} {μ : Mu} {d : D} {v : V} {k : Key} (r : RV K H μ d v) (e : keyD d = some k) : v = kV k := by
  cases d <;> cases e <;> simp only [RV] at r <;> exact r
def keysD : List D → Option (List Key)
  | [] => some []
  | d :: ds => (keyD d).bind fun k => (keysD ds).map fun ks => k :: ks
theorem keysD_rv {K : PySem.W.Frag} {H : Hp} {μ : Mu} : ∀ {ds : List D} {vs : List V} {ks : List Key}, RVs K H μ ds vs → keysD ds = some ks → vs = ks.map kV
  | [], vs, ks, r, e => by simp only [RVs] at r; cases e; exact r
  | d :: ds, vs, ks, r, e => by
    simp only [RVs] at r
    obtain ⟨v, r, rfl, h1, h2⟩ := r
    simp only [keysD] at e
    obtain ⟨k, e1, e2⟩ := Option.bind_eq_some_iff.mp e
    obtain ⟨ks', e3, rfl⟩ := Option.map_eq_some_iff.mp e2
    rw [List.map_cons, keyD_rv h1 e1, keysD_rv h2 e3]
/-- the dict's entry at a key: none if it is no dict or the key none -/
def look (m : Me) (d k : D) : Option (Option D) := match view m d with
  | .dct kvs => (keyD k).map fun k => getK kvs k
  | _ => none
section
variable {K : PySem.W.Frag} {H : Hp} {μ : Mu} {m : Me} {d k : D} {v u : V}
def LookOk (K : PySem.W.Frag) (H : Hp) (μ : Mu) (a : Addr) (u : V) (o : Option D) : Prop := match o with
    | some y => ∃ z, DGet H a u (some z) ∧ RV K H μ y z
    | none => DGet H a u none
theorem look_of {o : Option D} (hH : RH K H μ m) (r : RV K H μ d v) (rk : RV K H μ k u) (e : look m d k = some o) : ∃ a, v = .ref a ∧ IsD H a ∧ LookOk K H μ a u o := by
  unfold look at e
  split at e
  · rename_i kvs e1
    obtain ⟨k', e2, e3⟩ := Option.map_eq_some_iff.mp e
    obtain ⟨a, ps, rfl, hs, hr⟩ := view_dct hH r e1
    refine ⟨a, rfl, .inl ⟨ps, hs⟩, ?_⟩
    have g := rvq_get (k := k') (rvk_iff.mp hr)
    have ek := keyD_rv rk e2
    rw [e3] at g
    cases o with
    | none => exact .inl ⟨ps, k', hs, ek, g.symm⟩
    | some y => obtain ⟨z, h1, h2⟩ := g; exact ⟨z, .inl ⟨ps, k', hs, ek, h1.symm⟩, h2⟩
  · cases e
theorem isD_of {x : D} (hH : RH K H μ m) (r : RV K H μ d v) {kvs : List (Key × D)} (e : view m d = .dct kvs) : ∃ a, v = .ref a ∧ IsD H a := by
  obtain ⟨a, ps, rfl, hs, hr⟩ := view_dct hH r e
  exact ⟨a, rfl, .inl ⟨ps, hs⟩⟩
end
section
variable {X : Cx} {W : WX} {o i e value : Expr} {pos pos' tpos apos cpos : Pos} {fo fi fe fv : ME}
/-- d[k] -/
def gDget (d k : D) (m : Me) : Res D := match look m d k with
  | some (some y) => .ok y m
  | _ => .no
theorem pd_dget (hu : X.A.units + 1 < cLine) (ho : PD X W o fo) (hi : PD X W i fi) (hs : NoSl i := by exact fun _ _ => rfl) : PD X W (.Subscript o i pos) (m2 gDget fo fi) :=
  PE.imp (pe_dget hu ho hi hs) fun σ H Q ⟨μ, ρ, m, hH, hS, q⟩ => by
    refine seqR q hH hS fun d m1 v H1 μ1 e1 hH1 r1 hS1 q1 => ?_
    refine seqR q1 hH1 hS1 fun d' m2 v' H2 μ2 e2 hH2 r2 hS2 q2 => ?_
    unfold gDget at q2
    split at q2
    · rename_i y e3
      obtain ⟨a, rfl, _, z, h1, h2⟩ := look_of hH2 (RV.ext e2 d v r1) r2 e3
      exact ⟨a, z, rfl, h1, q2 z H2 μ2 .refl hH2 h2⟩
    · exact q2.elim
/-- k in d, k not in d -/
def gDin (neg : Bool) (k d : D) (m : Me) : Res D := match look m d k with
  | some o => .ok (.bl (if neg then !o.isSome else o.isSome)) m
  | none => .no
theorem look_get {K : PySem.W.Frag} {H : Hp} {μ : Mu} {m : Me} {d k : D} {v u : V} {o : Option D} (hH : RH K H μ m) (r : RV K H μ d v) (rk : RV K H μ k u) (e : look m d k = some o) : ∃ a o', v = .ref a ∧ DGet H a u o' ∧ o'.isSome = o.isSome := by
  obtain ⟨a, rfl, _, h⟩ := look_of hH r rk e
  cases o with
  | none => exact ⟨a, none, rfl, h, rfl⟩
  | some y => obtain ⟨z, h1, _⟩ := h; exact ⟨a, some z, rfl, h1, rfl⟩
theorem pc_in (hu : X.A.units + 1 < cLine) (hi : PD X W i fi) (ho : PD X W o fo) : PC X .In i o (tR X.K W (RVv X.K) (m2 (gDin false) fi fo)) :=
  ⟨fun pins s σ H Q I h => (pc_din hu hi ho).run pins s σ H Q I (by
    obtain ⟨μ, ρ, m, hH, hS, q⟩ := h
    refine seqR q hH hS fun d m1 v H1 μ1 e1 hH1 r1 hS1 q1 => ?_
    refine seqR q1 hH1 hS1 fun d' m2 v' H2 μ2 e2 hH2 r2 hS2 q2 => ?_
    unfold gDin at q2
    split at q2
    · rename_i oo e3
      obtain ⟨a, o', rfl, h1, h2⟩ := look_get hH2 r2 (RV.ext e2 d v r1) e3
      exact ⟨a, o', rfl, h1, q2 _ H2 μ2 .refl hH2 (by simp [RV, h2])⟩
    · exact q2.elim)⟩
theorem pc_notin (hu : X.A.units + 1 < cLine) (hi : PD X W i fi) (ho : PD X W o fo) : PC X .NotIn i o (tR X.K W (RVv X.K) (m2 (gDin true) fi fo)) :=
  ⟨fun pins s σ H Q I h => (pc_dnotin hu hi ho).run pins s σ H Q I (by
    obtain ⟨μ, ρ, m, hH, hS, q⟩ := h
    refine seqR q hH hS fun d m1 v H1 μ1 e1 hH1 r1 hS1 q1 => ?_
    refine seqR q1 hH1 hS1 fun d' m2 v' H2 μ2 e2 hH2 r2 hS2 q2 => ?_
    unfold gDin at q2
    split at q2
    · rename_i oo e3
      obtain ⟨a, o', rfl, h1, h2⟩ := look_get hH2 r2 (RV.ext e2 d v r1) e3
      exact ⟨a, o', rfl, h1, q2 _ H2 μ2 .refl hH2 (by simp [RV, h2])⟩
    · exact q2.elim)⟩
theorem pd_din (hu : X.A.units + 1 < cLine) (hi : PD X W i fi) (ho : PD X W o fo) (h1 : behindInMarks .In o = false := by rfl) : PD X W (.Compare i [.In] [o] pos) (m2 (gDin false) fi fo) := pe_cmp (pc_in hu hi ho) h1
theorem pd_dnotin (hu : X.A.units + 1 < cLine) (hi : PD X W i fi) (ho : PD X W o fo) (h1 : behindInMarks .NotIn o = false := by rfl) : PD X W (.Compare i [.NotIn] [o] pos) (m2 (gDin true) fi fo) := pe_cmp (pc_notin hu hi ho) h1
theorem tB_imp {f : ME} {σ : L2.St} {H : Hp} {Q : Bool → Hp → Prop} (h : tR X.K W RVB (mB f) σ H Q) : tB (tR X.K W (RVv X.K) f) σ H Q := by
  obtain ⟨μ, ρ, m, hH, hS, q⟩ := h
  exact seqR q hH hS fun d m1 v H1 μ1 e1 hH1 r1 hS1 q1 => okB hH1 r1 q1
theorem pdt_din (hu : X.A.units + 1 < cLine) (hi : PD X W i fi) (ho : PD X W o fo) (h1 : behindInMarks .In o = false := by rfl) : PDT X W (.Compare i [.In] [o] pos) (mB (m2 (gDin false) fi fo)) := PT.imp (pt_cmp (pc_in hu hi ho) h1) fun σ H Q h => tB_imp h
theorem pdt_dnotin (hu : X.A.units + 1 < cLine) (hi : PD X W i fi) (ho : PD X W o fo) (h1 : behindInMarks .NotIn o = false := by rfl) : PDT X W (.Compare i [.NotIn] [o] pos) (mB (m2 (gDin true) fi fo)) := PT.imp (pt_cmp (pc_notin hu hi ho) h1) fun σ H Q h => tB_imp h
/-- d.get(k, x) -/
def m3 (g : D → D → D → Me → Res D) (fa fb fc : ME) : ME := fun ρ m => (fa ρ m).bind fun d m => match view m d with
  | .dct _ => (fb ρ m).bind fun d' m => (fc ρ m).bind fun d'' m => g d d' d'' m
  | _ => .no
def gDget2 (d k x : D) (m : Me) : Res D := match look m d k with
  | some (some y) => .ok y m
  | some none => .ok x m
  | none => .no
theorem pd_dget2 (hu : X.A.units + 1 < cLine) (ho : PD X W o fo) (hi : PD X W i fi) (he : PD X W e fe) (hm : M2 X o "get" apos i e cpos) : PD X W (.Call (.Attribute o "get" apos) [i, e] [] cpos) (m3 gDget2 fo fi fe) :=
  PE.imp (pe_dget2 hu ho hi he hm) fun σ H Q ⟨μ, ρ, m, hH, hS, q⟩ => by
    refine seqR q hH hS fun d m1 v H1 μ1 e1 hH1 r1 hS1 q1 => ?_
    split at q1
    · rename_i kvs ev
      obtain ⟨a, rfl, hd⟩ := isD_of (x := d) hH1 r1 ev
      refine ⟨a, rfl, hd, ?_⟩
      refine seqR q1 hH1 hS1 fun d' m2 v' H2 μ2 e2 hH2 r2 hS2 q2 => ?_
      refine seqR q2 hH2 hS2 fun d'' m3 v'' H3 μ3 e3 hH3 r3 hS3 q3 => ?_
      unfold gDget2 at q3
      split at q3
      · rename_i y e4
        obtain ⟨a', ea, _, z, h1, h2⟩ := look_of hH3 (RV.ext e3 d _ (RV.ext e2 d _ r1)) (RV.ext e3 d' v' r2) e4
        cases ea
        exact ⟨some z, h1, q3 z H3 μ3 .refl hH3 h2⟩
      · rename_i e4
        obtain ⟨a', ea, _, h1⟩ := look_of hH3 (RV.ext e3 d _ (RV.ext e2 d _ r1)) (RV.ext e3 d' v' r2) e4
        cases ea
        exact ⟨none, h1, q3 v'' H3 μ3 .refl hH3 r3⟩
      · exact q3.elim
    · exact q1.elim
/-- d[k] = v, d a thing of the store -/
def dput (m : Me) (d k y : D) : Option Me := match d, keyD k with
  | .ref i, some k => match m[i]? with
    | some (.dK kvs) => if kvs.length < 1000000 then some (m.set i (.dK (setK kvs k y))) else none
    | _ => none
  | _, _ => none
theorem dput_of {K : PySem.W.Frag} {H : Hp} {μ : Mu} {m m' : Me} {d k y : D} {v u z : V} (hH : RH K H μ m) (r : RV K H μ d v) (rk : RV K H μ k u) (ry : RV K H μ y z) (e : dput m d k y = some m') :
    ∃ a H', v = .ref a ∧ DPut H a u z H' ∧ Ext K H μ H' μ ∧ RH K H' μ m' := by
  unfold dput at e
  split at e
  · rename_i i k' e1
    simp only [RV] at r
    obtain ⟨a, rfl, ha⟩ := r
    cases e2 : m[i]? with
    | none => simp only [e2] at e; cases e
    | some c =>
      cases c with
      | dK kvs =>
        simp only [e2] at e
        split at e
        · rename_i hl
          cases e
          obtain ⟨a', ea, ps, hs, hr⟩ := hH.at' i _ e2
          rw [ha] at ea; cases ea
          have hq := rvk_iff.mp hr
          have hlen : ps.length < sizeLine := by rw [← rvq_len hq, sizeLine_eq]; omega
          have x := Ext.wr (o := .dK (putK ps k' z)) hH ha
          refine ⟨a, _, rfl, .inl ⟨ps, k', hs, keyD_rv rk e1, hlen, rfl⟩, x, hH.wr ha ⟨_, upd_same, rvk_iff.mpr ?_⟩⟩
          exact L2.Paired.mapP (rvq_set ry hq) fun p q z => ⟨z.1, RV.ext x _ _ z.2⟩
        · cases e
      | _ => simp only [e2] at e; cases e
  · cases e
def sDput (fo fi fv : ME) : MS := fun ρ m => bindS (fv ρ m) ρ fun y m => bindS (fo ρ m) ρ fun d m => bindS (fi ρ m) ρ fun k m => match dput m d k y with
  | some m' => .nx ρ m'
  | none => .no
theorem pds_dput (hu : X.A.units + 1 < cLine) (ho : PD X W o fo) (hi : PD X W i fi) (hv : PD X W value fv) (hs : swapsWith value (some (.Subscript o i pos')) pos.line X.env = pure false := by rfl) : PDS X W (.Assign [.Subscript o i pos'] value pos) (sDput fo fi fv) :=
  PS.imp (ps_dput hu ho hi hv hs) fun D σ H ⟨μ, ρ, m, hH, hS, q⟩ => by
    refine seqS q hH hS fun y m1 z H1 μ1 e1 hH1 r1 hS1 q1 => ?_
    refine seqS q1 hH1 hS1 fun d m2 v H2 μ2 e2 hH2 r2 hS2 q2 => ?_
    refine seqS q2 hH2 hS2 fun k m3 u H3 μ3 e3 hH3 r3 hS3 q3 => ?_
    cases e4 : dput m3 d k y with
    | none => rw [e4] at q3; exact q3.elim
    | some m' =>
      rw [e4] at q3
      obtain ⟨a, H4, rfl, h1, x, h2⟩ := dput_of hH3 (RV.ext e3 d v r2) r3 (RV.ext e3 y z (RV.ext e2 y z r1)) e4
      exact ⟨a, H4, rfl, h1, q3 σ H4 μ3 x h2 (hS3.ext x)⟩
/-- d[k] += e of whole numbers -/
def sDaug (fo fi fe : ME) : MS := fun ρ m => bindS (fo ρ m) ρ fun d m => bindS (fi ρ m) ρ fun k m => match look m d k with
  | some (some (.int i)) => bindS (fe ρ m) ρ fun y m => match y with
    | .int j => match dput m d k (.int (i + j)) with
      | some m' => .nx ρ m'
      | none => .no
    | _ => .no
  | _ => .no
theorem pds_daug (hu : X.A.units + 1 < cLine) (ho : PD X W o fo) (hi : PD X W i fi) (he : PD X W e fe)
    (ha : ∀ ov iv new, augStore i ov iv new = (do holding [new, ov, iv] (setItem ov iv new); release [new, ov, iv] []; pure .next) := by exact fun _ _ _ => rfl) : PDS X W (.AugAssign (.Subscript o i tpos) .Add e pos) (sDaug fo fi fe) :=
  PS.imp (ps_daug hu ho hi he in_add ha) fun D σ H ⟨μ, ρ, m, hH, hS, q⟩ => by
    refine seqS q hH hS fun d m1 v H1 μ1 e1 hH1 r1 hS1 q1 => ?_
    refine seqS q1 hH1 hS1 fun k m2 u H2 μ2 e2 hH2 r2 hS2 q2 => ?_
    split at q2
    · rename_i i0 e3
      obtain ⟨a, rfl, _, z, h1, h2⟩ := look_of hH2 (RV.ext e2 d v r1) r2 e3
      simp only [RV] at h2
      subst h2
      refine ⟨a, _, rfl, h1, ?_⟩
      refine seqS q2 hH2 hS2 fun y m3 w H3 μ3 e3 hH3 r3 hS3 q3 => ?_
      cases y with
      | int j =>
        simp only [RVv, RV] at r3
        subst r3
        refine ⟨i0, j, rfl, rfl, ?_⟩
        dsimp only at q3
        cases e4 : dput m3 d k (.int (i0 + j)) with
        | none => rw [e4] at q3; exact q3.elim
        | some m' =>
          rw [e4] at q3
          obtain ⟨a', H4, ea, h1, x, h2⟩ := dput_of hH3 (RV.ext e3 d _ (RV.ext e2 d _ r1)) (RV.ext e3 k u r2) (z := .int (i0 + j)) (by simp [RV]) e4
          cases ea
          exact ⟨H4, h1, q3 σ H4 μ3 x h2 (hS3.ext x)⟩
      | _ => exact q3.elim
    · exact q2.elim

/-! ### slices -/
def mOpt (f : ME) : En → Me → Res (Option Int) := fun ρ m => (f ρ m).bind fun d m => match d with
  | .int i => .ok (some i) m
  | _ => .no
def mNo : En → Me → Res (Option Int) := fun _ m => .ok none m
abbrev RO : Hp → Mu → Option Int → Option Int → Prop := fun _ _ a b => a = b
abbrev PDO (X : Cx) (W : WX) (e : Option Expr) (f : En → Me → Res (Option Int)) : Prop := PO X e (tR X.K W RO f)
theorem _root_.L2.PO.imp {e : Option Expr} {t t' : TO} (h : PO X e t) (w : ∀ σ H Q, t' σ H Q → t σ H Q) : PO X e t' := ⟨fun pins s σ H Q I q => h.run pins s σ H Q I (w σ H Q q)⟩
theorem pdo_none : PDO X W none mNo := PO.imp po_none fun σ H Q ⟨μ, ρ, m, hH, hS, q⟩ => q none H μ .refl hH rfl
theorem pdo_some (h : PD X W e fe) : PDO X W (some e) (mOpt fe) := PO.imp (po_some h) fun σ H Q ⟨μ, ρ, m, hH, hS, q⟩ => seqR q hH hS fun d m1 v H1 μ1 e1 hH1 r1 hS1 q1 => by
  cases d with
  | int i => simp only [RVv, RV] at r1; exact ⟨i, r1, q1 _ H1 μ1 .refl hH1 rfl⟩
  | _ => exact q1.elim
def cutD {α : Type} (xs : List α) (lo hi : Option Int) : List α := (xs.drop (HT.sIx xs.length 0 lo)).take (HT.sIx xs.length xs.length hi - HT.sIx xs.length 0 lo)
def gSl (d : D) (lo hi : Option Int) (m : Me) : Res D := match view m d with
  | .tup xs => .ok (.tup (cutD xs lo hi)) m
  | .lst xs => .ok (.lst (cutD xs lo hi)) m
  | .str z => if z.length ≤ sizeLine then .ok (.str (cutS z lo hi)) m else .no
  | _ => .no
def mSl (fa : ME) (fl fh : En → Me → Res (Option Int)) : ME := fun ρ m => (fa ρ m).bind fun d m => (fl ρ m).bind fun lo m => (fh ρ m).bind fun hi m => gSl d lo hi m
theorem cut_rv {K : PySem.W.Frag} {H : Hp} {μ : Mu} {ds : List D} {vs : List V} {lo hi : Option Int} (r : RVs K H μ ds vs) : RVs K H μ (cutD ds lo hi) (cutV vs lo hi) := by
  unfold cutD cutV
  rw [r.length]
  exact (r.drop _).take _
theorem cut_whole {α : Type} {xs : List α} {lo hi : Option Int} (h : HT.sIx xs.length 0 lo = 0 ∧ HT.sIx xs.length xs.length hi = xs.length) : cutD xs lo hi = xs := by
  unfold cutD; rw [h.1, h.2]; simp
theorem pd_slice {a : Expr} {lo hi : Option Expr} {p2 : Pos} {fa : ME} {fl fh : En → Me → Res (Option Int)} (ha : PD X W a fa) (hl : PDO X W lo fl) (hh : PDO X W hi fh) : PD X W (.Subscript a (.Slice lo hi none p2) pos) (mSl fa fl fh) :=
  PE.imp (pe_slice (sl_tupN.or (sl_list.or sl_str)) ha hl hh) fun σ H Q ⟨μ, ρ, m, hH, hS, q⟩ => by
    refine seqR q hH hS fun d m1 v H1 μ1 e1 hH1 r1 hS1 q1 => ?_
    refine seqR q1 hH1 hS1 fun lo m2 lo' H2 μ2 e2 hH2 r2 hS2 q2 => ?_
    refine seqR q2 hH2 hS2 fun hi m3 hi' H3 μ3 e3 hH3 r3 hS3 q3 => ?_
    subst r2 r3
    have r := RV.ext e3 d v (RV.ext e2 d v r1)
    unfold gSl at q3
    split at q3
    · rename_i xs e4
      have := view_tup e4; subst this
      obtain ⟨a, vs, rfl, s1, z1, w1⟩ := rv_tup r
      refine .inl ⟨a, vs, rfl, s1.sq, fun hw => ?_, fun hw p o hd hp => ?_⟩
      · refine q3 _ H3 μ3 .refl hH3 ?_
        simp only [RV]
        rw [cut_whole (by rw [w1.length]; exact hw)]
        exact ⟨a, vs, rfl, s1, z1, w1⟩
      · have ex := Ext.new (o := .frz o (.tup (cutV vs lo hi))) hH3 hp
        refine q3 _ _ μ3 ex (hH3.new hp) ?_
        simp only [RV]
        exact ⟨p, _, rfl, .inl ⟨o, upd_same, hd⟩, Nat.le_trans (cutV_length vs lo hi) z1, RVs.ext ex _ _ (cut_rv w1)⟩
    · rename_i xs e4
      obtain ⟨a, vs, rfl, s1, z1, w1⟩ := view_lst hH3 r e4
      refine .inr (.inl ⟨a, vs, rfl, .of s1, fun p hp => ?_⟩)
      have ex := Ext.new (o := .lst (cutV vs lo hi)) hH3 hp
      refine q3 _ _ μ3 ex (hH3.new hp) ?_
      simp only [RV]
      exact ⟨p, _, rfl, ⟨hH3.notin hp, fun z => hH3.hid _ z hp⟩, upd_same, Nat.le_trans (cutV_length vs lo hi) z1, RVs.ext ex _ _ (cut_rv w1)⟩
    · rename_i z e4
      have := view_str e4; subst this
      simp only [RV] at r
      split at q3
      · rename_i hz
        exact .inr (.inr ⟨z, r, hz, q3 _ H3 μ3 .refl hH3 (by simp [RV])⟩)
      · exact q3.elim
    · exact q3.elim
end
end FL

set_option maxRecDepth 100000
namespace FL
open PySem PySem.Spec PyProof.Rows L2

/-! ### order of texts -/
def leS (a b : Str) : Bool := decide (¬ b.cps.toList < a.cps.toList)
theorem leS_trans (a b c : Str) (h1 : leS a b = true) (h2 : leS b c = true) : leS a c = true := by
  have h1 := of_decide_eq_true h1; have h2 := of_decide_eq_true h2
  exact decide_eq_true (List.not_lt.mpr (List.le_trans (List.not_lt.mp h1) (List.not_lt.mp h2)))
theorem leS_total (a b : Str) : (leS a b || leS b a) = true := by
  rw [Bool.or_eq_true]
  rcases List.le_total a.cps.toList b.cps.toList with h | h
  · exact .inl (decide_eq_true (List.not_lt.mpr h))
  · exact .inr (decide_eq_true (List.not_lt.mpr h))
theorem leS_anti {a b : Str} (h1 : leS a b = true) (h2 : leS b a = true) : a = b := by
  have h1 := of_decide_eq_true h1; have h2 := of_decide_eq_true h2
  have := List.le_antisymm (List.not_lt.mp h1) (List.not_lt.mp h2)
  obtain ⟨⟨a⟩⟩ := a; obtain ⟨⟨b⟩⟩ := b
  simp at this; subst this; rfl
theorem sortedS_pw : ∀ {xs : List Str}, sortedS xs = true → xs.Pairwise fun a b => leS a b = true
  | [], _ => .nil
  | x :: r, h => by
    have aux : ∀ (r : List Str) (p : Str), risingS p r = true → (p :: r).Pairwise fun a b => leS a b = true := by
      intro r
      induction r with
      | nil => intro p _; exact List.pairwise_singleton _ _
      | cons y r ih =>
        intro p h
        simp only [risingS, Bool.and_eq_true] at h
        have h1 : leS p y = true := by
          have := h.1
          rw [ltCps_eq] at this
          unfold leS
          simpa using this
        have h2 := ih y h.2
        refine List.pairwise_cons.mpr ⟨fun z hz => ?_, h2⟩
        rcases List.mem_cons.mp hz with e | hz
        · subst e; exact h1
        · exact leS_trans p y z h1 ((List.pairwise_cons.mp h2).1 z hz)
    exact aux r x h
def sortS (xs : List Str) : List Str := xs.mergeSort leS
theorem sortS_eq {xs ys : List Str} (p : ys.Perm xs) (s : sortedS ys = true) : ys = sortS xs :=
  List.Perm.eq_of_pairwise (le := fun a b => leS a b = true) (fun a b _ _ h1 h2 => leS_anti h1 h2) (sortedS_pw s) (List.pairwise_mergeSort leS_trans leS_total xs) (p.trans (List.mergeSort_perm xs leS).symm)

/-! ### built-in functions -/
section
variable {X : Cx}
/-- len of a dict that may be known -/
theorem call_lenR : CallR X (.builtin "len") (fun xs H Q => ∃ a kvs, xs = [V.ref a] ∧ Rd H a (.dK kvs) ∧ Q (.int kvs.length) H) := by
  rintro pins s σ H xs us Q I r ⟨a, kvs, rfl, ha, q⟩
  obtain ⟨u, rfl, ru⟩ := vals1 r
  cases ru
  exact d_len I ha fun t s' I' => ⟨.int kvs.length, H, I', ⟨t, rfl⟩, q⟩
def gLen (ds : List D) (m : Me) : Res D := match ds with
  | [d] => match view m d with
    | .tup xs => .ok (.int xs.length) m
    | .lst xs => .ok (.int xs.length) m
    | .scr xs => .ok (.int xs.length) m
    | .dct xs => .ok (.int xs.length) m
    | .str z => if z.length ≤ sizeLine then .ok (.int z.length) m else .no
    | _ => .no
  | _ => .no
theorem view_scr {m : Me} {d : D} {i : List Int} (e : view m d = .scr i) : d = .scr i := by
  cases d with
  | ref i => unfold view at e; dsimp only at e; split at e <;> cases e
  | _ => exact e
theorem scr_sq {K : PySem.W.Frag} {H : Hp} {μ : Mu} {ns : List Int} {v : V} (r : RV K H μ (.scr ns) v) : ∃ a, v = .ref a ∧ SqL K H a (ns.map V.int) := by
  simp only [RV] at r
  obtain ⟨a, rfl, hs⟩ := r
  refine ⟨a, rfl, ?_⟩
  rcases hs with ⟨_, hs⟩ | hs
  · exact .inl hs
  · rcases hs with (z | ⟨_, z⟩) | hs
    · cases z
    · cases z
    · exact .inr hs
theorem g_len {K : PySem.W.Frag} : GC K (fun xs H Q => (∃ x n, xs = [x] ∧ LenV K x H n ∧ Q (.int n) H) ∨ ∃ a kvs, xs = [V.ref a] ∧ Rd H a (.dK kvs) ∧ Q (.int kvs.length) H) gLen := fun Ex H μ m ds vs Q hH rr q => by
  unfold gLen at q
  split at q
  · rename_i d
    obtain ⟨v, rfl, r⟩ := rvs1 rr
    split at q
    · rename_i xs e
      have := view_tup e; subst this
      obtain ⟨a, vs, rfl, s1, z1, w1⟩ := rv_tup r
      exact .inl ⟨_, vs.length, rfl, .inr ⟨vs, s1.sq, rfl⟩, by rw [← w1.length]; exact q _ H μ .refl hH (by simp [RV])⟩
    · rename_i xs e
      obtain ⟨a, vs, rfl, s1, z1, w1⟩ := view_lst hH r e
      exact .inl ⟨_, vs.length, rfl, .inl ⟨vs, .of s1, rfl⟩, by rw [← w1.length]; exact q _ H μ .refl hH (by simp [RV])⟩
    · rename_i ns e
      have := view_scr e; subst this
      obtain ⟨a, rfl, hs⟩ := scr_sq r
      exact .inl ⟨_, ns.length, rfl, .inl ⟨_, hs, by simp⟩, q _ H μ .refl hH (by simp [RV])⟩
    · rename_i kvs e
      obtain ⟨a, ps, rfl, hs, hr⟩ := view_dct hH r e
      exact .inr ⟨a, ps, rfl, hs, by rw [← rvq_len (rvk_iff.mp hr)]; exact q _ H μ .refl hH (by simp [RV])⟩
    · rename_i z e
      have := view_str e; subst this
      simp only [RV] at r
      subst r
      split at q
      · rename_i hz
        exact .inl ⟨_, z.length, rfl, ⟨hz, rfl⟩, q _ H μ .refl hH (by simp [RV])⟩
      · exact q.elim
    · exact q.elim
  · exact q.elim
def gInt (ds : List D) (m : Me) : Res D := match ds with
  | [.int i] => .ok (.int i) m
  | [.bl k] => .ok (.int (if k then 1 else 0)) m
  | _ => .no
theorem g_int {K : PySem.W.Frag} : GC K (fun xs H Q => (∃ i, xs = [.int i] ∧ Q (.int i) H) ∨ ∃ k, xs = [.bl k] ∧ Q (.int (if k then 1 else 0)) H) gInt := fun Ex H μ m ds vs Q hH rr q => by
  unfold gInt at q
  split at q
  · obtain ⟨v, rfl, r⟩ := rvs1 rr
    simp only [RV] at r; subst r
    exact .inl ⟨_, rfl, q _ H μ .refl hH (by simp [RV])⟩
  · obtain ⟨v, rfl, r⟩ := rvs1 rr
    simp only [RV] at r; subst r
    exact .inr ⟨_, rfl, q _ H μ .refl hH (by simp [RV])⟩
  · exact q.elim
def gAbs (ds : List D) (m : Me) : Res D := match ds with
  | [.int i] => .ok (.int (if i < 0 then -i else i)) m
  | _ => .no
theorem g_abs {K : PySem.W.Frag} : GC K (fun xs H Q => ∃ i, xs = [.int i] ∧ Q (.int (if i < 0 then -i else i)) H) gAbs := fun Ex H μ m ds vs Q hH rr q => by
  unfold gAbs at q
  split at q
  · obtain ⟨v, rfl, r⟩ := rvs1 rr
    simp only [RV] at r; subst r
    exact ⟨_, rfl, q _ H μ .refl hH (by simp [RV])⟩
  · exact q.elim
def gMax2 (ds : List D) (m : Me) : Res D := match ds with
  | [.int i, .int j] => .ok (.int (if j > i then j else i)) m
  | _ => .no
theorem g_max2 {K : PySem.W.Frag} : GC K (fun xs H Q => ∃ i j, xs = [.int i, .int j] ∧ Q (.int (if j > i then j else i)) H) gMax2 := fun Ex H μ m ds vs Q hH rr q => by
  unfold gMax2 at q
  split at q
  · exact ⟨_, _, ints2 rr, q _ H μ .refl hH (by simp [RV])⟩
  · exact q.elim
def gStr (ds : List D) (m : Me) : Res D := match ds with
  | [.int i] => if i.natAbs < 2 ^ 64 then .ok (.str (toString i)) m else .no
  | _ => .no
theorem g_str {K : PySem.W.Frag} : GC K (fun xs H Q => ∃ i, xs = [.int i] ∧ i.natAbs.log2 < 1920 ∧ Q (.str (toString i)) H) gStr := fun Ex H μ m ds vs Q hH rr q => by
  unfold gStr at q
  split at q
  · obtain ⟨v, rfl, r⟩ := rvs1 rr
    simp only [RV] at r; subst r
    split at q
    · rename_i i hi
      refine ⟨_, rfl, ?_, q _ H μ .refl hH (by simp [RV])⟩
      exact Nat.lt_of_lt_of_le (PySem.Flt.log2_lt_of (by decide) hi) (by decide)
    · exact q.elim
  · exact q.elim
/-- tuple(x) of a list or a tuple -/
def gTuple (ds : List D) (m : Me) : Res D := match ds with
  | [d] => match view m d with
    | .tup xs => .ok (.tup xs) m
    | .lst xs => .ok (.tup xs) m
    | _ => .no
  | _ => .no
theorem g_tuple {K : PySem.W.Frag} : GC K (rTupOfN K) gTuple := fun Ex H μ m ds vs Q hH rr q => by
  unfold gTuple at q
  split at q
  · rename_i d
    obtain ⟨v, rfl, r⟩ := rvs1 rr
    split at q
    · rename_i xs e
      have := view_tup e; subst this
      have r0 := r
      obtain ⟨a, vs, rfl, s1, z1, w1⟩ := rv_tup r
      exact ⟨a, vs, rfl, .inr ⟨s1.sq, q _ H μ .refl hH r0⟩⟩
    · rename_i xs e
      obtain ⟨a, vs, rfl, s1, z1, w1⟩ := view_lst hH r e
      refine ⟨a, vs, rfl, .inl ⟨.of s1, fun p o hd hp => ?_⟩⟩
      have ex := Ext.new (o := .frz o (.tup vs)) hH hp
      refine q _ _ μ ex (hH.new hp) ?_
      simp only [RV]
      exact ⟨p, vs, rfl, .inl ⟨o, upd_same, hd⟩, z1, RVs.ext ex _ _ w1⟩
    · exact q.elim
  · exact q.elim
def gList (ds : List D) (m : Me) : Res D := match ds with
  | [d] => match seqV m d with
    | some xs => .ok (.lst xs) m
    | none => .no
  | _ => .no
theorem g_list {K : PySem.W.Frag} : GC K (fun xs H Q => ∃ p ys, xs = [.ref p] ∧ (SqL K H p ys ∨ SqT K H p ys) ∧ ∀ l, H l = none → Q (.ref l) (upd H l (.lst ys))) gList := fun Ex H μ m ds vs Q hH rr q => by
  unfold gList at q
  split at q
  · rename_i d
    obtain ⟨v, rfl, r⟩ := rvs1 rr
    split at q
    · rename_i xs e
      obtain ⟨a, vs, rfl, s1, z1, w1⟩ := seqV_of hH r e
      refine ⟨a, vs, rfl, s1, fun p hp => ?_⟩
      have ex := Ext.new (o := .lst vs) hH hp
      refine q _ _ μ ex (hH.new hp) ?_
      simp only [RV]
      exact ⟨p, vs, rfl, ⟨hH.notin hp, fun z => hH.hid _ z hp⟩, upd_same, z1, RVs.ext ex _ _ w1⟩
    · exact q.elim
  · exact q.elim
/-- a list of truths, of ints, of texts -/
def blsD : List D → Option (List Bool)
  | [] => some []
  | .bl b :: r => (blsD r).map fun bs => b :: bs
  | _ => none
def intsD : List D → Option (List Int)
  | [] => some []
  | .int b :: r => (intsD r).map fun bs => b :: bs
  | _ => none
def strsD : List D → Option (List Str)
  | [] => some []
  | .str b :: r => (strsD r).map fun bs => b :: bs
  | _ => none
theorem blsD_rv {K : PySem.W.Frag} {H : Hp} {μ : Mu} : ∀ {ds : List D} {vs : List V} {bs : List Bool}, RVs K H μ ds vs → blsD ds = some bs → vs = bs.map V.bl
  | [], vs, bs, r, e => by simp only [RVs] at r; cases e; exact r
  | d :: ds, vs, bs, r, e => by
    cases d <;> simp only [blsD] at e <;> (try cases e)
    simp only [RVs, RV] at r
    obtain ⟨v, r, rfl, rfl, h2⟩ := r
    obtain ⟨bs', e3, rfl⟩ := Option.map_eq_some_iff.mp e
    rw [List.map_cons, blsD_rv h2 e3]
theorem intsD_rv {K : PySem.W.Frag} {H : Hp} {μ : Mu} : ∀ {ds : List D} {vs : List V} {bs : List Int}, RVs K H μ ds vs → intsD ds = some bs → vs = bs.map V.int
  | [], vs, bs, r, e => by simp only [RVs] at r; cases e; exact r
  | d :: ds, vs, bs, r, e => by
    cases d <;> simp only [intsD] at e <;> (try cases e)
    simp only [RVs, RV] at r
    obtain ⟨v, r, rfl, rfl, h2⟩ := r
    obtain ⟨bs', e3, rfl⟩ := Option.map_eq_some_iff.mp e
    rw [List.map_cons, intsD_rv h2 e3]
theorem strsD_rv {K : PySem.W.Frag} {H : Hp} {μ : Mu} : ∀ {ds : List D} {vs : List V} {bs : List Str}, RVs K H μ ds vs → strsD ds = some bs → vs = bs.map V.str
  | [], vs, bs, r, e => by simp only [RVs] at r; cases e; exact r
  | d :: ds, vs, bs, r, e => by
    cases d <;> simp only [strsD] at e <;> (try cases e)
    simp only [RVs, RV] at r
    obtain ⟨v, r, rfl, rfl, h2⟩ := r
    obtain ⟨bs', e3, rfl⟩ := Option.map_eq_some_iff.mp e
    rw [List.map_cons, strsD_rv h2 e3]
def lstV (m : Me) (d : D) : Option (List D) := match view m d with
  | .lst xs => some xs
  | _ => none
theorem lstV_of {K : PySem.W.Frag} {H : Hp} {μ : Mu} {m : Me} {d : D} {v : V} {xs : List D} (hH : RH K H μ m) (r : RV K H μ d v) (e : lstV m d = some xs) : ∃ a vs, v = .ref a ∧ H a = some (.lst vs) ∧ vs.length ≤ sizeLine ∧ RVs K H μ xs vs := by
  unfold lstV at e
  split at e
  · rename_i ys e1
    cases e
    exact view_lst hH r e1
  · cases e
def gAll (ds : List D) (m : Me) : Res D := match ds with
  | [d] => match (lstV m d).bind blsD with
    | some bs => .ok (.bl (bs.all id)) m
    | none => .no
  | _ => .no
def gAny (ds : List D) (m : Me) : Res D := match ds with
  | [d] => match (lstV m d).bind blsD with
    | some bs => .ok (.bl (bs.any id)) m
    | none => .no
  | _ => .no
def gSum (ds : List D) (m : Me) : Res D := match ds with
  | [d] => match (lstV m d).bind intsD with
    | some bs => .ok (.int bs.sum) m
    | none => .no
  | _ => .no
theorem g_all {K : PySem.W.Frag} : GC K (rAll K) gAll := fun Ex H μ m ds vs Q hH rr q => by
  unfold gAll at q
  split at q
  · obtain ⟨v, rfl, r⟩ := rvs1 rr
    split at q
    · rename_i d bs e
      obtain ⟨xs, e1, e2⟩ := Option.bind_eq_some_iff.mp e
      obtain ⟨a, vs, rfl, s1, z1, w1⟩ := lstV_of hH r e1
      have := blsD_rv w1 e2; subst this
      exact ⟨a, bs, rfl, .of s1, q _ H μ .refl hH (by simp [RV])⟩
    · exact q.elim
  · exact q.elim
theorem g_any {K : PySem.W.Frag} : GC K (rAny K) gAny := fun Ex H μ m ds vs Q hH rr q => by
  unfold gAny at q
  split at q
  · obtain ⟨v, rfl, r⟩ := rvs1 rr
    split at q
    · rename_i d bs e
      obtain ⟨xs, e1, e2⟩ := Option.bind_eq_some_iff.mp e
      obtain ⟨a, vs, rfl, s1, z1, w1⟩ := lstV_of hH r e1
      have := blsD_rv w1 e2; subst this
      exact ⟨a, bs, rfl, .of s1, q _ H μ .refl hH (by simp [RV])⟩
    · exact q.elim
  · exact q.elim
theorem g_sum {K : PySem.W.Frag} : GC K (rSum K) gSum := fun Ex H μ m ds vs Q hH rr q => by
  unfold gSum at q
  split at q
  · obtain ⟨v, rfl, r⟩ := rvs1 rr
    split at q
    · rename_i d bs e
      obtain ⟨xs, e1, e2⟩ := Option.bind_eq_some_iff.mp e
      obtain ⟨a, vs, rfl, s1, z1, w1⟩ := lstV_of hH r e1
      have := intsD_rv w1 e2; subst this
      exact ⟨a, bs, rfl, .of s1, q _ H μ .refl hH (by simp [RV])⟩
    · exact q.elim
  · exact q.elim
/-- sorted(d), d a dict of few texts -/
def skeys : List (Key × D) → Option (List Str)
  | [] => some []
  | (.inr x, _) :: r => (skeys r).map fun xs => x :: xs
  | _ => none
theorem skeys_rv {K : PySem.W.Frag} {H : Hp} {μ : Mu} : ∀ {kvs : List (Key × D)} {ps : List (Key × V)} {ks : List Str}, RVq K H μ kvs ps → skeys kvs = some ks → ps.map (·.1) = ks.map Sum.inr
  | [], _, ks, .nil, e => by cases e; rfl
  | (k, d) :: kvs, _, ks, .cons h t, e => by
    cases k with
    | inl i => cases e
    | inr x =>
      simp only [skeys] at e
      obtain ⟨ks', e1, rfl⟩ := Option.map_eq_some_iff.mp e
      rw [List.map_cons, List.map_cons, skeys_rv t e1, ← h.1]
def gSortD (ds : List D) (m : Me) : Res D := match ds with
  | [d] => match view m d with
    | .dct kvs => match skeys kvs with
      | some ks => if ks.length < 64 then .ok (.lst ((sortS ks).map .str)) m else .no
      | none => .no
    | _ => .no
  | _ => .no
theorem strs_rv {K : PySem.W.Frag} {H : Hp} {μ : Mu} : ∀ (ks : List Str), RVs K H μ (ks.map D.str) (ks.map V.str)
  | [] => by simp [RVs]
  | k :: ks => by simp only [List.map_cons, RVs]; exact ⟨_, _, rfl, by simp [RV], strs_rv ks⟩
theorem g_sortD {K : PySem.W.Frag} : GC K (fun xs H Q => ∃ (a : Addr) (kvs : List (Key × V)) (ks : List Str), xs = [.ref a] ∧ Rd H a (.dK kvs) ∧ kvs.map (·.1) = ks.map Sum.inr ∧ ks.length < 64 ∧
    ∀ ys p, ys.Perm ks → sortedS ys = true → H p = none → Q (.ref p) (upd H p (.lst (ys.map V.str)))) gSortD := fun Ex H μ m ds vs Q hH rr q => by
  unfold gSortD at q
  split at q
  · obtain ⟨v, rfl, r⟩ := rvs1 rr
    split at q
    · rename_i d kvs e
      obtain ⟨a, ps, rfl, hs, hr⟩ := view_dct hH r e
      split at q
      · rename_i ks e2
        split at q
        · rename_i h64
          refine ⟨a, ps, ks, rfl, hs, skeys_rv (rvk_iff.mp hr) e2, h64, fun ys p hp hsd hn => ?_⟩
          have ey := sortS_eq hp hsd
          have ex := Ext.new (o := .lst (ys.map V.str)) hH hn
          refine q _ _ μ ex (hH.new hn) ?_
          simp only [RV]
          refine ⟨p, _, rfl, ⟨hH.notin hn, fun z => hH.hid _ z hn⟩, upd_same, ?_, ?_⟩
          · rw [List.length_map, hp.length_eq, sizeLine_eq]; omega
          · rw [ey]; exact strs_rv _
        · exact q.elim
      · exact q.elim
    · exact q.elim
  · exact q.elim

/-! ### isinstance with a built-in type -/
def tyD (m : Me) (d : D) : Option String := match view m d with
  | .non => some "NoneType"
  | .bl _ => some "bool"
  | .int _ => some "int"
  | .str _ => some "str"
  | .tup _ => some "tuple"
  | .lst _ => some "list"
  | .dct _ => some "dict"
  | .scr _ => some "list"
  | .ref _ => none
  | .fn _ => none
theorem tyD_of {K : PySem.W.Frag} {H : Hp} {μ : Mu} {m : Me} {d : D} {v : V} {t : String} (hH : RH K H μ m) (r : RV K H μ d v) (e : tyD m d = some t) : TyX K H v (.type t) := by
  unfold tyD at e
  split at e <;> cases e
  · rename_i e1
    have : d = .non := by
      cases d with
      | ref i => unfold view at e1; dsimp only at e1; split at e1 <;> cases e1
      | _ => exact e1
    subst this; simp only [RV] at r; subst r; exact .base .non
  · rename_i b e1
    have : d = .bl b := by
      cases d with
      | ref i => unfold view at e1; dsimp only at e1; split at e1 <;> cases e1
      | _ => exact e1
    subst this; simp only [RV] at r; subst r; exact .base (.bl b)
  · rename_i i e1; have := view_int e1; subst this; simp only [RV] at r; subst r; exact .base (.int i)
  · rename_i i e1; have := view_str e1; subst this; simp only [RV] at r; subst r; exact .base (.str i)
  · rename_i xs e1
    have := view_tup e1; subst this
    obtain ⟨a, vs, rfl, s1, _, _⟩ := rv_tup r
    rcases s1 with ⟨o, s1, _⟩ | ⟨o, its, n, hk, hc, _⟩
    · exact .fTuple s1
    · exact .kTuple hk hc
  · rename_i xs e1
    obtain ⟨a, vs, rfl, s1, _, _⟩ := view_lst hH r e1
    exact .base (.lst s1)
  · rename_i xs e1
    obtain ⟨a, ps, rfl, s1, _⟩ := view_dct hH r e1
    rcases s1 with s1 | ⟨o, s1⟩
    · exact .base (.dK s1)
    · exact .fDict s1
  · rename_i xs e1
    have := view_scr e1; subst this
    obtain ⟨a, rfl, s1⟩ := scr_sq r
    rcases s1 with (s1 | ⟨o, s1⟩) | ⟨o, its, n, hk, hc, _⟩
    · exact .base (.lst s1)
    · exact .base (.frz s1)
    · exact .kList hk hc
def gIsi (T : String) (d : D) (m : Me) : Res D := match (tyD m d).bind fun t => kitB t T with
  | some b => .ok (.bl b) m
  | none => .no
variable {W : WX} {a : Expr} {fa : ME} {p p2 pos : Pos} {y : Str} {T : String}
theorem pd_isi (hg : Gl X "isinstance") (hm : X.mg "isinstance" = none) (hg2 : Gl X y) (hm2 : X.mg y = none) (hv2 : bootBuiltins y = some (.type T)) (ha : PD X W a fa) (hn2 : y ≠ "__name__" := by decide) (hd2 : (y == ("__debug__" : Str)) = false := by decide)
    (he : starEach [a, .Name y p2] X.env = (false, eval a X.env) :: starEach [.Name y p2] X.env := by rfl) (hpl : (backTo pos (starEach [.Name y p2] X.env)).any (·.1) = false := by rfl) (he2 : starEach [.Name y p2] X.env = (false, eval (.Name y p2) X.env) :: starEach [] X.env := by rfl) :
    PD X W (.Call (.Name "isinstance" p) [a, .Name y p2] [] pos) (m1 (gIsi T) fa) :=
  PE.imp (pe_callB call_isi hg hm (by decide +kernel) (pa_cons ha (pa_cons (pe_bltn (v := .ty T) hg2 hm2 hv2 rfl hn2 hd2) pa_nil he2) he) (by decide) (by decide) he hpl) fun σ H Q ⟨μ, ρ, m, hH, hS, q⟩ => by
    refine seqR q hH hS fun d m1 v H1 μ1 e1 hH1 r1 hS1 q1 => ?_
    unfold gIsi at q1
    split at q1
    · rename_i b e
      obtain ⟨t, e1, e2⟩ := Option.bind_eq_some_iff.mp e
      exact ⟨v, .ty T, .type t, .type T, b, rfl, .ty T, tyD_of hH1 r1 e1, kit_ty e2, q1 _ H1 μ1 .refl hH1 (by simp [RV])⟩
    · exact q1.elim

/-! ### methods of lists of the store -/
variable {o e : Expr} {fo fe : ME} {apos cpos : Pos}
def mAppend (fo fe : ME) : ME := fun ρ m => (fo ρ m).bind fun d m => match d with
  | .ref i => match m[i]? with
    | some (.lst _) => (fe ρ m).bind fun y m => match m[i]? with
      | some (.lst xs) => if xs.length < 1000000 then .ok .non (m.set i (.lst (xs ++ [y]))) else .no
      | _ => .no
    | _ => .no
  | _ => .no
theorem pd_append (ho : PD X W o fo) (he : PD X W e fe) (hbase : attributeBase o "append" X.env (eval o X.env) = eval o X.env := by rfl)
    (hfew : ((backTo cpos (starEach [e] X.env)).all (fun x => !x.1) && (backToKw cpos (keywordEach [] X.env)).all (fun x => x.1.isSome)
      && decide (([e] : List Expr).length + ([] : List Keyword).length + (if ([] : List Keyword).isEmpty then 0 else 1) < 30)) = true := by rfl)
    (hline : (apos.endLine == cpos.line) = true := by rfl) (hs : starEach [e] X.env = (false, eval e X.env) :: starEach [] X.env := by rfl) (hplain : (backTo cpos (starEach [] X.env)).any (·.1) = false := by rfl) :
    PD X W (.Call (.Attribute o "append" apos) [e] [] cpos) (mAppend fo fe) :=
  PE.imp (pe_bm PySem.F.plainAttrs_list PySem.F.slot_list_append PySem.F.type_list_append mt_append ho (pa_cons he pa_nil hs) hbase hfew hline hs hplain) fun σ H Q ⟨μ, ρ, m, hH, hS, q⟩ => by
    refine seqR q hH hS fun d m1 v H1 μ1 e1 hH1 r1 hS1 q1 => ?_
    cases d with
    | ref i =>
      simp only [RVv, RV] at r1
      obtain ⟨a, rfl, ha⟩ := r1
      cases e2 : m1[i]? with
      | none => simp only [e2] at q1; exact q1.elim
      | some c =>
        cases c with
        | lst xs0 =>
          simp only [e2] at q1
          obtain ⟨a', ea, vs0, hs0, _, _⟩ := hH1.at' i _ e2
          rw [ha] at ea; cases ea
          refine ⟨.inl ⟨rfl, vs0, .of hs0⟩, ?_⟩
          refine seqR q1 hH1 hS1 fun y m2 z H2 μ2 e2' hH2 r2 hS2 q2 => ?_
          cases e3 : m2[i]? with
          | none => simp only [e3] at q2; exact q2.elim
          | some c =>
            cases c with
            | lst xs =>
              simp only [e3] at q2
              split at q2
              · rename_i hl
                have ha2 := e2'.get ha
                obtain ⟨a', ea, vs, hs, hz, hr⟩ := hH2.at' i _ e3
                rw [ha2] at ea; cases ea
                have hlen := hr.length
                have ex := Ext.wr (o := .lst (vs ++ [z])) hH2 ha2
                refine ⟨a, vs, z, rfl, rfl, hs, by rw [sizeLine_eq]; omega, ?_⟩
                refine q2 _ _ μ2 ex (hH2.wr ha2 ⟨_, upd_same, ?_, RVs.ext ex _ _ (hr.append (RVs.one r2))⟩) (by simp [RV])
                rw [List.length_append, List.length_singleton, sizeLine_eq]; omega
              · exact q2.elim
            | _ => simp only [e3] at q2; exact q2.elim
        | _ => simp only [e2] at q1; exact q1.elim
    | _ => exact q1.elim
def mExtend (fo fe : ME) : ME := fun ρ m => (fo ρ m).bind fun d m => match d with
  | .ref i => match m[i]? with
    | some (.lst _) => (fe ρ m).bind fun y m => match m[i]?, lstV m y with
      | some (.lst xs), some ys => if xs.length + ys.length < 1000000 then .ok .non (m.set i (.lst (xs ++ ys))) else .no
      | _, _ => .no
    | _ => .no
  | _ => .no
theorem pd_extend (ho : PD X W o fo) (he : PD X W e fe) (hbase : attributeBase o "extend" X.env (eval o X.env) = eval o X.env := by rfl)
    (hfew : ((backTo cpos (starEach [e] X.env)).all (fun x => !x.1) && (backToKw cpos (keywordEach [] X.env)).all (fun x => x.1.isSome)
      && decide (([e] : List Expr).length + ([] : List Keyword).length + (if ([] : List Keyword).isEmpty then 0 else 1) < 30)) = true := by rfl)
    (hline : (apos.endLine == cpos.line) = true := by rfl) (hs : starEach [e] X.env = (false, eval e X.env) :: starEach [] X.env := by rfl) (hplain : (backTo cpos (starEach [] X.env)).any (·.1) = false := by rfl) :
    PD X W (.Call (.Attribute o "extend" apos) [e] [] cpos) (mExtend fo fe) :=
  PE.imp (pe_bm PySem.F.plainAttrs_list PySem.F.slot_list_extend PySem.F.type_list_extend mt_extend ho (pa_cons he pa_nil hs) hbase hfew hline hs hplain) fun σ H Q ⟨μ, ρ, m, hH, hS, q⟩ => by
    refine seqR q hH hS fun d m1 v H1 μ1 e1 hH1 r1 hS1 q1 => ?_
    cases d with
    | ref i =>
      simp only [RVv, RV] at r1
      obtain ⟨a, rfl, ha⟩ := r1
      cases e2 : m1[i]? with
      | none => simp only [e2] at q1; exact q1.elim
      | some c =>
        cases c with
        | lst xs0 =>
          simp only [e2] at q1
          obtain ⟨a', ea, vs0, hs0, _, _⟩ := hH1.at' i _ e2
          rw [ha] at ea; cases ea
          refine ⟨.inl ⟨rfl, vs0, .of hs0⟩, ?_⟩
          refine seqR q1 hH1 hS1 fun y m2 z H2 μ2 e2' hH2 r2 hS2 q2 => ?_
          cases e3 : m2[i]? with
          | none => simp only [e3] at q2; exact q2.elim
          | some c =>
            cases c with
            | lst xs =>
              cases e4 : lstV m2 y with
              | none => simp only [e3, e4] at q2; exact q2.elim
              | some ys =>
                simp only [e3, e4] at q2
                split at q2
                · rename_i hl
                  have ha2 := e2'.get ha
                  obtain ⟨a', ea, vs, hs, hz, hr⟩ := hH2.at' i _ e3
                  rw [ha2] at ea; cases ea
                  obtain ⟨b, us, rfl, hb, hzb, hrb⟩ := lstV_of hH2 r2 e4
                  have hlen := hr.length
                  have hlenb := hrb.length
                  have ex := Ext.wr (o := .lst (vs ++ us)) hH2 ha2
                  refine ⟨a, b, vs, us, rfl, rfl, hs, hb, by rw [sizeLine_eq]; omega, ?_⟩
                  refine q2 _ _ μ2 ex (hH2.wr ha2 ⟨_, upd_same, ?_, RVs.ext ex _ _ (hr.append hrb)⟩) (by simp [RV])
                  rw [List.length_append, sizeLine_eq]; omega
                · exact q2.elim
            | _ => simp only [e3] at q2; exact q2.elim
        | _ => simp only [e2] at q1; exact q1.elim
    | _ => exact q1.elim
variable {i value : Expr} {fi fv : ME} {pos' : Pos}
def sSetIx (fo fi fv : ME) : MS := fun ρ m => bindS (fv ρ m) ρ fun y m => bindS (fo ρ m) ρ fun d m => bindS (fi ρ m) ρ fun k m => match d, k with
  | .ref i, .int k => match m[i]? with
    | some (.lst xs) => match ixN xs.length k with
      | some j => .nx ρ (m.set i (.lst (xs.set j y)))
      | none => .no
    | _ => .no
  | _, _ => .no
theorem RVs.set {K : PySem.W.Frag} {H : Hp} {μ : Mu} {y : D} {z : V} (h : RV K H μ y z) : ∀ {ds : List D} {vs : List V} (j : Nat), RVs K H μ ds vs → RVs K H μ (ds.set j y) (vs.set j z)
  | [], vs, j, r => by simp only [RVs] at r; subst r; simp [RVs]
  | d :: ds, vs, 0, r => by
    simp only [RVs] at r
    obtain ⟨v, r, rfl, h1, h2⟩ := r
    simp only [List.set_cons_zero, RVs]
    exact ⟨z, r, rfl, h, h2⟩
  | d :: ds, vs, j + 1, r => by
    simp only [RVs] at r
    obtain ⟨v, r, rfl, h1, h2⟩ := r
    simp only [List.set_cons_succ, RVs]
    exact ⟨v, _, rfl, h1, RVs.set h j h2⟩
theorem pds_setix (ho : PD X W o fo) (hi : PD X W i fi) (hv : PD X W value fv) (hs : swapsWithSole [.Subscript o i pos'] value pos.line X.env = pure false := by rfl) (hw : swappedStores [.Subscript o i pos'] value X.env = pure none := by rfl)
    (h1 : (assignEach [.Subscript o i pos'] X.env).map (·.2) = [assign (.Subscript o i pos') X.env] := by rfl)
    (ha : ∀ v, assign (.Subscript o i pos') X.env v = (do
      let ov ← holding [v] (eval o X.env)
      let iv ← holding [v, ov] (eval i X.env)
      standAt pos'
      holding [v, ov, iv] (setItem ov iv v)
      release [v, ov, iv] []) := by intro _; rfl) : PDS X W (.Assign [.Subscript o i pos'] value pos) (sSetIx fo fi fv) :=
  PS.imp (ps_asg hv (pg_sub ho hi set_list ha) hs hw h1) fun D σ H ⟨μ, ρ, m, hH, hS, q⟩ => by
    refine seqS q hH hS fun y m1 z H1 μ1 e1 hH1 r1 hS1 q1 => ?_
    refine seqS q1 hH1 hS1 fun d m2 v H2 μ2 e2 hH2 r2 hS2 q2 => ?_
    refine seqS q2 hH2 hS2 fun k m3 u H3 μ3 e3 hH3 r3 hS3 q3 => ?_
    cases d with
    | ref i =>
      cases k with
      | int k =>
        simp only [RVv, RV] at r2 r3
        subst r3
        obtain ⟨a, rfl, ha⟩ := r2
        have ha3 := e3.get ha
        dsimp only at q3
        cases e4 : m3[i]? with
        | none => simp only [e4] at q3; exact q3.elim
        | some c =>
          cases c with
          | lst xs =>
            simp only [e4] at q3
            cases e5 : ixN xs.length k with
            | none => simp only [e5] at q3; exact q3.elim
            | some j =>
              simp only [e5] at q3
              obtain ⟨a', ea, vs, hs, hz, hr⟩ := hH3.at' i _ e4
              rw [ha3] at ea; cases ea
              have ex := Ext.wr (o := .lst (vs.set j z)) hH3 ha3
              refine ⟨a, vs, k, j, rfl, rfl, hs, by rw [← hr.length]; exact e5, ?_⟩
              refine q3 σ _ μ3 ex (hH3.wr ha3 ⟨_, upd_same, by rw [List.length_set]; exact hz, RVs.ext ex _ _ (RVs.set (RV.ext e3 y z (RV.ext e2 y z r1)) j hr)⟩) (hS3.ext ex)
          | _ => simp only [e4] at q3; exact q3.elim
      | _ => exact q3.elim
    | _ => exact q3.elim
/-- name += e, whole numbers or texts -/
def sAug (i : Nat) (f : D → D → Me → Res D) (fe : ME) : MS := fun ρ m => match ρ[i]? with
  | some (some d) => bindS (fe ρ m) ρ fun y m => bindS (f d y m) ρ fun z m => .nx (ρ.set i (some z)) m
  | _ => .no
def gIAdd (d d' : D) (m : Me) : Res D := match d, d' with
  | .int i, .int j => .ok (.int (i + j)) m
  | .str x, .str y => if x.length + y.length ≤ sizeLine then .ok (.str (x ++ y)) m else .no
  | _, _ => .no
def gISub (d d' : D) (m : Me) : Res D := match d, d' with
  | .int i, .int j => .ok (.int (i - j)) m
  | _, _ => .no
theorem g_iadd {K : PySem.W.Frag} : G2 K (fun x y H Q => rI0 (fun i j => .int (i + j)) x y H Q ∨ rAddS x y H Q) gIAdd := fun Ex H μ m d d' x y Q hH r1 r2 q => by
  unfold gIAdd at q
  split at q
  · simp only [RV] at r1 r2
    exact .inl ⟨_, _, r1, r2, q _ H μ .refl hH (by simp [RV])⟩
  · simp only [RV] at r1 r2
    split at q
    · rename_i hz
      exact .inr ⟨_, _, r1, r2, hz, q _ H μ .refl hH (by simp [RV])⟩
    · exact q.elim
  · exact q.elim
theorem g_isub {K : PySem.W.Frag} : G2 K (rI0 (fun i j => .int (i - j))) gISub := fun Ex H μ m d d' x y Q hH r1 r2 q => by
  unfold gISub at q
  split at q
  · simp only [RV] at r1 r2
    exact ⟨_, _, r1, r2, q _ H μ .refl hH (by simp [RV])⟩
  · exact q.elim
theorem pds_aug (j : Nat) {x : Str} {op : Operator} {r : R2} {g : D → D → Me → Res D} (hN : X.N.Nodup) (ho : OpR X (inplaceOp op) r) (hg : G2 X.K r g) (he : PD X W e fe) (hi : X.N[j]? = some x := by rfl) (hx : Loc X.env.scope x := by first | exact .inl rfl | exact .inr rfl)
    (hf : X.fn x = true ∨ X.env.scope.names.lookup x = some .local := by first | exact .inl rfl | exact .inr rfl | assumption) : PDS X W (.AugAssign (.Name x pos') op e pos) (sAug j g fe) :=
  PS.imp (ps_aug (i := j) hN hi hx he ho hf) fun D σ H ⟨μ, ρ, m, hH, hS, q⟩ => by
    unfold sAug at q
    cases e1 : ρ[j]? with
    | none => simp only [e1] at q; exact q.elim
    | some od =>
      cases od with
      | none => simp only [e1] at q; exact q.elim
      | some d =>
        simp only [e1] at q
        obtain ⟨v, h1, h2⟩ := hS.2 j d e1
        refine ⟨v, h1, ?_⟩
        refine seqS q hH hS fun y m1 z H1 μ1 e1 hH1 r1 hS1 q1 => ?_
        have key : Ok X.K (fun c d H' => W c d σ H') H1 μ1 (RVv X.K) (fun zz H2 => D.nx (σ.set j (some zz)) H2) (g d y m1) := by
          cases e2 : g d y m1 with
          | no => rw [e2] at q1; exact q1
          | exc x mm => rw [e2] at q1; exact fun H' μ' c dd x' hH' r => q1 σ H' μ' c dd x' hH' (hS1.ext x') r
          | ok dd mm => rw [e2] at q1; exact fun zz H' μ' x' hH' r => q1 _ H' μ' x' hH' ((hS1.ext x').set r j)
        exact hg _ H1 μ1 m1 d y v z _ hH1 (RV.ext e1 d v h2) r1 key
/-- a list times an int -/
noncomputable def gRep (d d' : D) (m : Me) : Res D := match view m d, d' with
  | .lst xs, .int k => if (-1000 ≤ k ∧ k ≤ 1000) ∧ xs.length * k.toNat ≤ 1000000 then .ok (.lst (List.replicate k.toNat xs).flatten) m else .no
  | .int i, .int j => gMul (.int i) (.int j) m
  | _, _ => .no
theorem rep_rv {K : PySem.W.Frag} {H : Hp} {μ : Mu} {ds : List D} {vs : List V} (r : RVs K H μ ds vs) : ∀ k : Nat, RVs K H μ (List.replicate k ds).flatten (List.replicate k vs).flatten
  | 0 => by simp [RVs]
  | k + 1 => by rw [List.replicate_succ, List.replicate_succ, List.flatten_cons, List.flatten_cons]; exact r.append (rep_rv r k)
theorem g_rep {K : PySem.W.Frag} : G2 K (fun x y H Q => rRep x y H Q ∨ rI CMul (fun i j => .int (i * j)) x y H Q) gRep := fun Ex H μ m d d' x y Q hH r1 r2 q => by
  unfold gRep at q
  split at q
  · rename_i xs k e
    obtain ⟨a, vs, rfl, s1, z1, w1⟩ := view_lst hH r1 e
    simp only [RV] at r2
    split at q
    · rename_i hk
      have hl := w1.length
      have hz : vs.length * k.toNat ≤ sizeLine := by rw [← hl, sizeLine_eq]; omega
      refine .inl ⟨a, k, vs, rfl, r2, s1, by omega, by omega, hz, fun p hp => ?_⟩
      have ex := Ext.new (o := .lst (List.replicate k.toNat vs).flatten) hH hp
      refine q _ _ μ ex (hH.new hp) ?_
      simp only [RV]
      refine ⟨p, _, rfl, ⟨hH.notin hp, fun z => hH.hid _ z hp⟩, upd_same, ?_, RVs.ext ex _ _ (rep_rv w1 _)⟩
      rw [List.length_flatten, List.map_replicate, List.sum_replicate_nat, Nat.mul_comm]; exact hz
    · exact q.elim
  · rename_i i j e
    have := view_int e; subst this
    exact .inr (g_ii (C := fun i j => ((-(2 ^ 64) < i ∧ i < 2 ^ 64) ∨ (-(2 ^ 64) < j ∧ j < 2 ^ 64))) (C' := CMul) (f := fun i j => .int (i * j)) (fun _ _ h => h) (fun _ _ _ _ => by simp [RV, ofD]) Ex H μ m _ _ x y Q hH r1 r2 q)
  · exact q.elim
theorem pd_rep {b : Expr} {fb : ME} (ha : PD X W a fa) (hb : PD X W b fb) : PD X W (.BinOp a .Mult b pos) (m2 gRep fa fb) := pd_op (op_rep.or op_mul) g_rep ha hb
/-- the sum of two lists, to change -/
def gCatC (d d' : D) (m : Me) : Res D := match view m d, view m d' with
  | .lst xs, .lst ys => if xs.length + ys.length ≤ 1000000 then .ok (.ref m.length) (m ++ [.lst (xs ++ ys)]) else .no
  | _, _ => .no
theorem g_catC {K : PySem.W.Frag} : G2 K rCat gCatC := fun Ex H μ m d d' x y Q hH r1 r2 q => by
  unfold gCatC at q
  split at q
  · rename_i xs ys e1 e2
    split at q
    · rename_i hz
      obtain ⟨a, vs, rfl, s1, z1, w1⟩ := view_lst hH r1 e1
      obtain ⟨b, us, rfl, s2, z2, w2⟩ := view_lst hH r2 e2
      have l1 := w1.length; have l2 := w2.length
      have hz' : vs.length + us.length ≤ sizeLine := by rw [sizeLine_eq]; omega
      refine ⟨a, b, vs, us, rfl, rfl, s1, s2, hz', fun p hp => ?_⟩
      have ex := Ext.cell (o := .lst (vs ++ us)) hH hp
      refine q _ _ (μ.add p) ex (hH.cell hp ⟨_, upd_same, by simpa using hz', RVs.ext ex _ _ (w1.append w2)⟩) ?_
      simp only [RV]
      exact ⟨p, rfl, by simp [Mu.add, ← hH.len]⟩
    · exact q.elim
  · exact q.elim
theorem pd_catC {b : Expr} {fb : ME} (ha : PD X W a fa) (hb : PD X W b fb) : PD X W (.BinOp a .Add b pos) (m2 gCatC fa fb) := pd_op op_cat g_catC ha hb

/-! ### what stands at the module's top -/
theorem pd_globS {x s : Str} {t : Tok} (hg : Gl X x) (hm : X.mg x = some (.str s t)) (hd : (x == ("__debug__" : Str)) = false := by decide) : PD X W (.Name x pos) (mC (.str s)) :=
  pd_const (pe_glob (v := .str s) hg hm ⟨t, rfl⟩ hd) fun _ _ => by simp [RV]
/-- a written tuple -/
structure KTup (K : PySem.W.Frag) (mg : Str → Option Value) (x : Str) (ds : List D) : Prop where
  ex : ∃ a vs, mg x = some (.ref a) ∧ TupN K (fun _ => none) a vs ∧ vs.length ≤ sizeLine ∧ ∀ H μ, RVs K H μ ds vs
theorem TupN.lift {K : PySem.W.Frag} {H : Hp} {a : Addr} {vs : List V} (h : TupN K (fun _ => none) a vs) : TupN K H a vs := by
  rcases h with ⟨_, z, _⟩ | h
  · cases z
  · exact .inr h
theorem pd_globT {x : Str} {ds : List D} (hg : Gl X x) (h : KTup X.K X.mg x ds) (hd : (x == ("__debug__" : Str)) = false := by decide) : PD X W (.Name x pos) (mC (.tup ds)) := by
  obtain ⟨a, vs, hm, hs, hz, hr⟩ := h.ex
  refine pd_const (pe_glob (v := .ref a) hg hm rfl hd) fun H μ => ?_
  simp only [RV]
  exact ⟨a, vs, rfl, TupN.lift hs, hz, hr H μ⟩
end

/-! ### {k: v, ..} to change -/
section
variable {X : Cx} {W : WX} {pos : Pos}
structure PDP (X : Cx) (W : WX) (pos : Pos) (keys : List (Option Expr)) (values : List Expr) (f : En → Me → Res (List (Key × D))) : Prop where
  ex : ∃ trs, PPs X pos keys values trs ∧ ∀ σ H (Q : List (V × V) → Hp → Prop), tR X.K W (fun H μ kvs ps => ∃ us, RVk X.K H μ kvs us ∧ ps = us.map fun kv => (kV kv.1, kv.2)) f σ H Q → tPairs trs σ H Q
def pNil : En → Me → Res (List (Key × D)) := fun _ m => .ok [] m
def pCons (fk fv : ME) (fr : En → Me → Res (List (Key × D))) : En → Me → Res (List (Key × D)) := fun ρ m => (fk ρ m).bind fun k m => match keyD k with
  | none => .no
  | some k => (fv ρ m).bind fun v m => (fr ρ m).bind fun r m => .ok ((k, v) :: r) m
theorem pdp_nil : PDP X W pos [] [] pNil := ⟨[], pps_nil, fun σ H Q ⟨μ, ρ, m, hH, hS, q⟩ => q [] H μ .refl hH ⟨[], by simp [RVk], rfl⟩⟩
theorem pdp_cons {k v : Expr} {ks : List (Option Expr)} {vs : List Expr} {fk fv : ME} {fr : En → Me → Res (List (Key × D))} (hk : PD X W k fk) (hv : PD X W v fv) (hr : PDP X W pos ks vs fr) : PDP X W pos (some k :: ks) (v :: vs) (pCons fk fv fr) := by
  obtain ⟨trs, h1, h2⟩ := hr.ex
  refine ⟨_, pps_cons hk hv h1, fun σ H Q ⟨μ, ρ, m, hH, hS, q⟩ => ?_⟩
  refine seqR q hH hS fun d m1 x H1 μ1 e1 hH1 r1 hS1 q1 => ?_
  cases ek : keyD d with
  | none => simp only [ek] at q1; exact q1.elim
  | some k' =>
    simp only [ek] at q1
    have hx := keyD_rv r1 ek
    subst hx
    refine seqR q1 hH1 hS1 fun d2 m2 y H2 μ2 e2 hH2 r2 hS2 q2 => ?_
    refine h2 σ H2 _ ?_
    refine seqR q2 hH2 hS2 fun kvs m3 ps H3 μ3 e3 hH3 r3 hS3 q3 => ?_
    obtain ⟨us, r3, rfl⟩ := r3
    refine q3 _ H3 μ3 .refl hH3 ⟨(k', y) :: us, ?_, rfl⟩
    simp only [RVk, RVp]
    exact ⟨y, us, rfl, RV.ext e3 d2 y r2, r3⟩
def mDisp (f : En → Me → Res (List (Key × D))) : ME := fun ρ m => (f ρ m).bind fun kvs m => if kvs.length ≤ 15 then .ok (.ref m.length) (m ++ [.dK (kvs.foldl (fun acc kv => setK acc kv.1 kv.2) [])]) else .no
theorem merge_rv {K : PySem.W.Frag} {H : Hp} {μ : Mu} : ∀ {kvs : List (Key × D)} {us : List (Key × V)} {acc : List (Key × D)} {ac : List (Key × V)}, RVq K H μ kvs us → RVq K H μ acc ac → RVq K H μ (kvs.foldl (fun acc kv => setK acc kv.1 kv.2) acc) (mergeK ac us)
  | _, _, acc, ac, .nil, h => h
  | _, _, acc, ac, .cons (a := p) (b := q) h t, g => by
    show RVq K H μ (List.foldl _ (setK acc p.1 p.2) _) (mergeK (putK ac q.1 q.2) _)
    refine merge_rv t ?_
    have := rvq_set (k := p.1) h.2 g
    rwa [show putK ac q.1 q.2 = putK ac p.1 q.2 by rw [h.1]]
theorem pd_disp {keys : List (Option Expr)} {values : List Expr} {f : En → Me → Res (List (Key × D))} (h : PDP X W pos keys values f) (hall : keys.all (·.isSome) = true := by rfl) (hl : keys.length = values.length := by rfl) (h0 : keys ≠ [] := by exact fun z => nomatch z) (h15 : keys.length ≤ 15 := by decide) :
    PD X W (.Dict keys values pos) (mDisp f) := by
  obtain ⟨trs, h1, h2⟩ := h.ex
  refine PE.imp (pe_disp h1 hall hl h0 h15) fun σ H Q ⟨μ, ρ, m, hH, hS, q⟩ p hp => ?_
  refine h2 σ _ _ ?_
  have tr := Tr.hide (o := .dK []) hH hp
  refine ⟨⟨μ.l, p :: μ.h⟩, ρ, m, hH.hide hp, hS.map tr, ?_⟩
  unfold mDisp at q
  cases e : f ρ m with
  | no => rw [e] at q; exact q.elim
  | exc x mm =>
    rw [e] at q
    intro H' μ' c d x' hH' r
    obtain ⟨l', h'⟩ := μ'
    have eh : h' = p :: μ.h := x'.hid
    subst eh
    have un : ∀ a, a ∈ μ.h → a ∈ p :: μ.h := fun a z => List.mem_cons_of_mem _ z
    refine q H' ⟨l', μ.h⟩ c d ((Ext.new hH hp).trans (x'.reh fun _ z => List.mem_cons_of_mem _ z)) (hH'.unhide un) ⟨r.1, ?_⟩
    have r2 := r.2
    cases d with
    | none => exact r2
    | some a => obtain ⟨fs, g1, g2⟩ := r2; exact ⟨fs, g1, L2.Paired.mapP g2 fun p q z => ⟨z.1, RV.map (.unhide un) _ _ z.2⟩⟩
  | ok kvs mm =>
    rw [e] at q
    simp only [Res.bind_ok] at q
    split at q
    · rename_i h15'
      intro ps H' μ' x' hH' r
      obtain ⟨l', h'⟩ := μ'
      have eh : h' = p :: μ.h := x'.hid
      subst eh
      obtain ⟨us, r, rfl⟩ := r
      obtain ⟨hp0, nl⟩ := x'.dct p [] (hH.notin hp) upd_same
      have hp' : H' p = some (.dK []) := hp0.resolve_right fun z => z.1 List.mem_cons_self
      have hq := rvk_iff.mp r
      refine ⟨hp', us, rfl, by rw [← rvq_len hq]; exact h15', ?_⟩
      have un : ∀ a, a ∈ μ.h → a ∈ p :: μ.h := fun a z => List.mem_cons_of_mem _ z
      -- the dict becomes a thing of the store
      have pos1 : ∀ {a u}, H a = some u → a ≠ p := fun q => ne_of_none q hp
      have xx : Ext X.K H μ H' ⟨l', μ.h⟩ := (Ext.new hH hp).trans (x'.reh fun _ z => List.mem_cons_of_mem _ z)
      have kp : ∀ {a u}, H' a = some u → a ≠ p → upd H' p (.dK (mergeK [] us)) a = some u := fun q n => by rw [upd_ne n]; exact q
      have trn : Tr X.K H' ⟨l', p :: μ.h⟩ (upd H' p (.dK (mergeK [] us))) ⟨l' ++ [p], μ.h⟩ := by
        refine ⟨fun i a z => ?_, fun a vs z => ?_, fun a u n d z => ?_, fun a o u n z => ?_, fun a kvs n z => ?_, fun a o u z => kp z (ne_of z hp' fun w => nomatch w)⟩
        · show (l' ++ [p])[i]? = some a
          rw [List.getElem?_append_left (List.getElem?_eq_some_iff.mp z).1]; exact z
        · rcases z with ⟨o', z, hd⟩ | z
          · exact .inl ⟨o', kp z (ne_of z hp' fun w => nomatch w), hd⟩
          · exact .inr z
        · have hn : a ≠ p := fun w => n.2 (by rw [w]; exact List.mem_cons_self)
          refine ⟨kp z hn, fun w => ?_, fun w => n.2 (un a w)⟩
          rcases List.mem_append.mp w with w | w
          · exact n.1 w
          · exact hn (List.mem_singleton.mp w)
        · have hn : a ≠ p := fun w => n.2 (by rw [w]; exact List.mem_cons_self)
          refine ⟨kp z hn, fun w => ?_, fun w => n.2 (un a w)⟩
          rcases List.mem_append.mp w with w | w
          · exact n.1 w
          · exact hn (List.mem_singleton.mp w)
        · have hn : a ≠ p := fun w => n.2 (by rw [w]; exact List.mem_cons_self)
          refine ⟨.inl (kp z hn), fun w => ?_, fun w => n.2 (un a w)⟩
          rcases List.mem_append.mp w with w | w
          · exact n.1 w
          · exact hn (List.mem_singleton.mp w)
      refine q _ _ ⟨l' ++ [p], μ.h⟩ ?_ ?_ ?_
      · refine ⟨?_, rfl, fun a vs z => trn.tup a vs (xx.tup a vs z), fun a u n d z => ?_, fun a o u n z => ?_, fun a kvs n z => ?_, fun a o u z => trn.fz a o u (xx.fz a o u z)⟩
        · obtain ⟨l, el⟩ := xx.pre
          exact ⟨l ++ [p], by rw [show l' = μ.l ++ l from el]; simp⟩
        · obtain ⟨g1, g2⟩ := xx.dat a u n d z
          refine ⟨kp g1 (pos1 z), fun w => ?_⟩
          rcases List.mem_append.mp w with w | w
          · exact g2 w
          · exact pos1 z (List.mem_singleton.mp w)
        · obtain ⟨g1, g2⟩ := xx.frz a o u n z
          refine ⟨kp g1 (pos1 z), fun w => ?_⟩
          rcases List.mem_append.mp w with w | w
          · exact g2 w
          · exact pos1 z (List.mem_singleton.mp w)
        · obtain ⟨g1, g2⟩ := xx.dct a kvs n z
          refine ⟨?_, fun w => ?_⟩
          · unfold Dk
            rw [upd_ne (pos1 z)]; exact g1
          rcases List.mem_append.mp w with w | w
          · exact g2 w
          · exact pos1 z (List.mem_singleton.mp w)
      · refine ⟨by simp [hH'.len.symm], ?_, fun i c z => ?_, fun a z => upd_some (hH'.hid a (un a z)), fun a z w => ?_⟩
        · refine List.nodup_append.mpr ⟨hH'.nd, by simp, fun a ha b hb z => ?_⟩
          rw [List.mem_singleton.mp hb] at z
          subst z; exact nl ha
        · by_cases hi : i < mm.length
          · rw [List.getElem?_append_left hi] at z
            obtain ⟨a, ea, rc⟩ := hH'.at' i c z
            refine ⟨a, trn.get i a ea, rc.map trn (upd_ne fun w => nl ?_)⟩
            rw [← w]; exact List.mem_of_getElem? ea
          · have hi' : i = mm.length := by
              have := (List.getElem?_eq_some_iff.mp z).1
              simp at this; omega
            subst hi'
            simp at z; subst z
            have hll := hH'.len
            dsimp only at hll
            refine ⟨p, by rw [← hll]; simp, _, upd_same, rvk_iff.mpr ?_⟩
            exact merge_rv (L2.Paired.mapP hq fun p q z => ⟨z.1, RV.map trn _ _ z.2⟩) .nil
        · rcases List.mem_append.mp z with z | z
          · exact hH'.sep a z (un a w)
          · rw [List.mem_singleton.mp z] at w; exact hH.hid p w hp
      · simp only [RV]
        have hll := hH'.len
        dsimp only at hll
        exact ⟨p, rfl, by rw [← hll]; simp⟩
    · exact q.elim
end
end FL

set_option maxRecDepth 100000
namespace FL
open PySem PySem.Spec PyProof.Rows L2

/-! ### written tuples -/
def isV : D → Value → Bool
  | .non, .none => true
  | .bl b, .bool c => b == c
  | .int i, .int j _ => i == j
  | .str x, .str y _ => x == y
  | _, _ => false
def areV : List D → List Value → Bool
  | [], [] => true
  | d :: ds, v :: vs => isV d v && areV ds vs
  | _, _ => false
def toV : D → V
  | .bl b => .bl b
  | .int i => .int i
  | .str x => .str x
  | _ => .non
theorem isV_ok {d : D} {v : Value} (h : isV d v = true) : RelV (toV d) v ∧ ∀ K H μ, RV K H μ d (toV d) := by
  cases d <;> cases v <;> simp [isV] at h
  · exact ⟨rfl, fun _ _ _ => by simp [RV, toV]⟩
  · subst h; exact ⟨rfl, fun _ _ _ => by simp [RV, toV]⟩
  · subst h; exact ⟨⟨_, rfl⟩, fun _ _ _ => by simp [RV, toV]⟩
  · subst h; exact ⟨⟨_, rfl⟩, fun _ _ _ => by simp [RV, toV]⟩
theorem areV_ok : ∀ {ds : List D} {vs : List Value}, areV ds vs = true → Vals (ds.map toV) vs ∧ ∀ K H μ, RVs K H μ ds (ds.map toV)
  | [], [], _ => ⟨.nil, fun _ _ _ => by simp [RVs]⟩
  | [], _ :: _, h => by cases h
  | _ :: _, [], h => by cases h
  | d :: ds, v :: vs, h => by
    simp only [areV, Bool.and_eq_true] at h
    obtain ⟨h1, h2⟩ := isV_ok h.1
    obtain ⟨h3, h4⟩ := areV_ok h.2
    refine ⟨.cons h1 h3, fun K H μ => ?_⟩
    simp only [List.map_cons, RVs]
    exact ⟨_, _, rfl, h2 K H μ, h4 K H μ⟩
structure WrTup (o : Obj) (its : Array Value) (n : Nat) (ds : List D) : Prop where
  cls : o.cls = .type "tuple"
  data : o.data = .seq its n
  few : ds.length ≤ 1000
  are : areV ds its.toList = true
  nod : PlO o
theorem WrTup.mk' {K : PySem.W.Frag} {mg : Str → Option Value} {x : Str} {o : Obj} {its : Array Value} {n : Nat} {ds : List D} {a : Addr} (h : WrTup o its n ds) (hm : mg x = some (.ref a)) (hk : K.lookup a = some o) : KTup K mg x ds := by
  obtain ⟨h1, h2⟩ := areV_ok h.are
  have hl : (ds.map toV).length = its.toList.length := h1.length
  have hz : (ds.map toV).length ≤ sizeLine := by rw [List.length_map]; exact le_line h.few
  exact ⟨a, ds.map toV, hm, .inr ⟨o, its, n, hk, h.cls, h.data, by rw [← Array.length_toList, ← hl]; exact hz, h1, h.nod⟩, hz, fun H μ => h2 K H μ⟩

/-! ### the end -/
theorem walk_fn {l : PySem.W.OpenLaw} {q : Program} {loose : List Str} {XP : (Str → Option Value) → Heap → Prop} {YP : World → Heap → Prop} {d : DefRec} {K : Params → PySem.W.Frag} {x : Str} {F0 : List D → Me → Res D}
    (hn : l.most = some 63) (hdf : d.params.defaults = []) (hY : ∀ (w : World) (h : Heap), YP w h → (K w.params).In h)
    (F : ∀ (w : World) (mg : Str → Option Value) (fa : Addr) (h : Heap), (K w.params).In h → h.Ns mainGlobals mg → mg d.name = some (.ref fa) →
      ∃ fd : FuncData, (∀ (s : Shared) (u : Value), BindsTo s fd ⟨[u], []⟩ [(x, u)]) ∧ ∀ base : Heap, (K w.params).In base → base.Ns mainGlobals mg → FnOk l.prog w (K w.params) mg base CX0 230 fa fd [x] (spF (K w.params) 1 F0))
    (L : ∀ ns : List Int, ns.length ≤ 63 → ∃ m', F0 [.scr ns] [] = .ok (.bl true) m') :
    PySem.W.WalkO q loose XP YP l.row.toRowW d [] (fun f vs => PySem.call f vs) :=
  L2.walk_of (n := 63) (k := 230) (x := x) (CX := fun _ => CX0) (sp := fun w => spF (K w.params) 1 F0) hn (by decide) hdf ⟨rfl, by decide, by decide⟩ hY F (fun w H a ns hl _ hS => by
    obtain ⟨m', e⟩ := L ns hl
    refine ⟨⟨[], []⟩, [], [.scr ns], ⟨rfl, List.nodup_nil, fun i c h => by simp at h, fun a h => by simp at h, fun a h => by simp at h⟩, ?_, rfl, ?_⟩
    · simp only [RVs, RV]
      refine ⟨.ref a, [], rfl, ⟨a, rfl, ?_⟩, rfl⟩
      rcases hS with hS | hS
      · exact .inl ⟨⟨by simp, by simp⟩, hS⟩
      · exact .inr (.inr hS)
    · rw [e]
      intro v H' μ' _ _ r
      simpa [RV] using r) fun _ _ _ _ _ z => z
end FL

set_option maxRecDepth 100000
namespace FL
open PySem PySem.Spec PyProof.Rows L2

/-! ### dict(d): a copy, to change -/
def gDictC (ds : List D) (m : Me) : Res D := match ds with
  | [d] => match view m d with
    | .dct kvs => .ok (.ref m.length) (m ++ [.dK kvs])
    | _ => .no
  | _ => .no
theorem g_dictC {K : PySem.W.Frag} : GC K (fun xs H Q => ∃ (a : Addr) (kvs : List (Key × V)), xs = [.ref a] ∧ Rd H a (.dK kvs) ∧ ∀ p, H p = none → Q (.ref p) (upd H p (.dK kvs))) gDictC := fun Ex H μ m ds vs Q hH rr q => by
  unfold gDictC at q
  split at q
  · obtain ⟨v, rfl, r⟩ := rvs1 rr
    split at q
    · rename_i d kvs e
      obtain ⟨a, ps, rfl, hs, hr⟩ := view_dct hH r e
      refine ⟨a, ps, rfl, hs, fun p hp => ?_⟩
      have ex := Ext.cell (o := .dK ps) hH hp
      refine q _ _ (μ.add p) ex (hH.cell hp ⟨_, upd_same, RVk.ext ex _ _ hr⟩) ?_
      simp only [RV]
      exact ⟨p, rfl, by simp [Mu.add, ← hH.len]⟩
    · exact q.elim
  · exact q.elim

/-! ### d[k], e[l] = x, y -/
theorem pset_dict {X : Cx} (hu : X.A.units + 1 < cLine) : PSet X (fun o i v H Q => ∃ a H', o = .ref a ∧ DPut H a i v H' ∧ Q H') := fun pins s σ H o i v ov iv u Q I ro ri rv ⟨a, H', eo, g, q⟩ => by
  subst eo
  obtain rfl : ov = Value.ref a := ro
  exact d_setItem hu I g ri rv fun s4 I4 => ⟨H', I4, q⟩
def sPut2 (fo fi fo' fi' fv : ME) : MS := fun ρ m => bindS (fv ρ m) ρ fun d m => match d with
  | .tup [x, y] => bindS (fo ρ m) ρ fun d m => bindS (fi ρ m) ρ fun k m => match dput m d k x with
    | none => .no
    | some m => bindS (fo' ρ m) ρ fun d m => bindS (fi' ρ m) ρ fun k m => match dput m d k y with
      | none => .no
      | some m => .nx ρ m
  | _ => .no
section
variable {X : Cx} {W : WX} {o i o' i' value : Expr} {pos p1 p2 : Pos} {fo fi fo' fi' fv : ME} {k : Nat} {pt : Pos}
theorem pds_put2 (hc : X.calm = true) (hu : X.A.units + 1 < cLine) (ho : PD X W o fo) (hi : PD X W i fi) (ho' : PD X W o' fo') (hi' : PD X W i' fi') (hv : PD X W value fv)
    (a1 : ∀ v, assign (.Subscript o i p1) X.env v = (do
      let ov ← holding [v] (eval o X.env)
      let iv ← holding [v, ov] (eval i X.env)
      standAt p1
      holding [v, ov, iv] (setItem ov iv v)
      release [v, ov, iv] []) := by intro _; rfl)
    (a2 : ∀ v, assign (.Subscript o' i' p2) X.env v = (do
      let ov ← holding [v] (eval o' X.env)
      let iv ← holding [v, ov] (eval i' X.env)
      standAt p2
      holding [v, ov, iv] (setItem ov iv v)
      release [v, ov, iv] []) := by intro _; rfl)
    (hs : swapsWithSole [.Tuple [.Subscript o i p1, .Subscript o' i' p2] k pt] value pos.line X.env = pure false := by rfl)
    (hw : swappedStores [.Tuple [.Subscript o i p1, .Subscript o' i' p2] k pt] value X.env = pure none := by rfl)
    (hn : (assignEach [.Subscript o i p1, .Subscript o' i' p2] X.env).length = 2 := by rfl)
    (hst : (assignEach [.Subscript o i p1, .Subscript o' i' p2] X.env).findIdx? (·.1) = none := by rfl)
    (h1 : (assignEach [.Tuple [.Subscript o i p1, .Subscript o' i' p2] k pt] X.env).map (·.2) = [assign (.Tuple [.Subscript o i p1, .Subscript o' i' p2] k pt) X.env] := by rfl)
    (h2 : (assignEach [.Subscript o i p1, .Subscript o' i' p2] X.env).map (·.2) = assign (.Subscript o i p1) X.env :: (assignEach [.Subscript o' i' p2] X.env).map (·.2) := by rfl)
    (h3 : (assignEach [.Subscript o' i' p2] X.env).map (·.2) = assign (.Subscript o' i' p2) X.env :: (assignEach [] X.env).map (·.2) := by rfl) :
    PDS X W (.Assign [.Tuple [.Subscript o i p1, .Subscript o' i' p2] k pt] value pos) (sPut2 fo fi fo' fi' fv) :=
  PS.imp (ps_asg hv (pg_tup hc (pgs_cons (pg_sub ho hi (pset_dict hu) a1) (pgs_cons (pg_sub ho' hi' (pset_dict hu) a2) pgs_nil h3) h2) hn hst) hs hw h1) fun D σ H ⟨μ, ρ, m, hH, hS, q⟩ => seqS q hH hS fun d m1 v H1 μ1 e1 hH1 r1 hS1 q1 => by
    split at q1
    · rename_i x y
      simp only [RV] at r1
      obtain ⟨a, vs, rfl, hs1, hz, hr⟩ := r1
      simp only [RVs] at hr
      obtain ⟨v1, r', rfl, rx, v2, r'', rfl, ry, rfl⟩ := hr
      refine ⟨a, _, rfl, hs1.sq, rfl, v1, _, rfl, ?_⟩
      refine seqS q1 hH1 hS1 fun d2 m2 w H2 μ2 e2 hH2 r2 hS2 q2 => ?_
      refine seqS q2 hH2 hS2 fun k2 m3 u H3 μ3 e3 hH3 r3 hS3 q3 => ?_
      cases e4 : dput m3 d2 k2 x with
      | none => rw [e4] at q3; exact q3.elim
      | some m' =>
        rw [e4] at q3
        obtain ⟨b, H4, rfl, g1, x4, g2⟩ := dput_of hH3 (RV.ext e3 d2 w r2) r3 (RV.ext e3 x v1 (RV.ext e2 x v1 rx)) e4
        refine ⟨b, H4, rfl, g1, v2, _, rfl, ?_⟩
        have hS4 := hS3.ext x4
        refine seqS (OkS.ext q3 x4) g2 hS4 fun d5 m5 w5 H5 μ5 e5 hH5 r5 hS5 q5 => ?_
        refine seqS q5 hH5 hS5 fun k6 m6 u6 H6 μ6 e6 hH6 r6 hS6 q6 => ?_
        cases e7 : dput m6 d5 k6 y with
        | none => rw [e7] at q6; exact q6.elim
        | some m' =>
          rw [e7] at q6
          have ry' := RV.ext e6 y v2 (RV.ext e5 y v2 (RV.ext x4 y v2 (RV.ext e3 y v2 (RV.ext e2 y v2 ry))))
          obtain ⟨c, H7, rfl, g3, x7, g4⟩ := dput_of hH6 (RV.ext e6 d5 w5 r5) r6 ry' e7
          exact ⟨c, H7, rfl, g3, rfl, q6 σ H7 μ6 x7 g4 (hS6.ext x7)⟩
    · exact q1.elim
end
/-! ### a, b = x, y -/
def sPar (i j : Nat) (fa : MA) : MS := fun ρ m => bindS (fa ρ m) ρ fun ds m => match ds with
  | [x, y] => .nx ((ρ.set i (some x)).set j (some y)) m
  | _ => .no
theorem pds_par {X : Cx} {W : WX} {i j : Nat} {x y : Str} {a b : Expr} {fa : MA} {px py pt pos : Pos} {kt k2 pt2} (hc : X.calm = true) (hN : X.N.Nodup) (hi : X.N[i]? = some x) (hj : X.N[j]? = some y) (hij : i ≠ j)
    (hx : X.env.scope.names.lookup x = some .local) (hy : X.env.scope.names.lookup y = some .local) (ha : PDA X W 2 [a, b] fa)
    (hw : swappedStores [.Tuple [.Name x px, .Name y py] kt pt] (.Tuple [a, b] k2 pt2) X.env = pure (some [x, y]))
    (hs : swapsWithSole [.Tuple [.Name x px, .Name y py] kt pt] (.Tuple [a, b] k2 pt2) pos.line X.env = pure false := by rfl) :
    PDS X W (.Assign [.Tuple [.Name x px, .Name y py] kt pt] (.Tuple [a, b] k2 pt2) pos) (sPar i j fa) :=
  PS.imp (ps_par hc hN hi hj hij hx hy ha hw hs) fun D σ H ⟨μ, ρ, m, hH, hS, q⟩ => seqS q hH hS fun ds m1 vs H1 μ1 e1 hH1 r1 hS1 q1 => by
    split at q1
    · rename_i d d'
      have r1 := r1.1
      simp only [RVs] at r1
      obtain ⟨v1, r', rfl, rx, v2, r'', rfl, ry, rfl⟩ := r1
      exact ⟨v1, v2, rfl, q1 _ H1 μ1 .refl hH1 ((hS1.set rx i).set ry j)⟩
    · exact q1.elim
end FL

set_option maxRecDepth 100000
namespace FL
open PySem PySem.Spec PyProof.Rows L2

/-! ### set(xs), xs a list of ints: the road of a tuple's, over the list's iterator -/
abbrev nSet (w : World) : Obj := { cls := .type "set", dict := none, data := .set #[] 0 (.fresh 0 0 (!w.params.followText "set-order")) }
abbrev pSet (w : World) (s : Shared) : Heap := s.heap.push (nSet w)
section
variable {P : Program} {w : World} {A : Around} {E : Value → Shared → Prop} {s : Shared}
set_option maxHeartbeats 3200000 in
theorem set_of_ints {l : Addr} {its : Array Value} (ns : List Int) {Q : Value → Shared → Prop} (h0 : A.handled = none) (hl : s.heap.IsList l its) (hi : IntsAre its.toList ns) (hb : ns.length + 1 < scanBound)
    (h : ∀ (g : Heap) (tk c : Nat), SetR w g s.heap.objs.size (fun j => decide (j ∈ ns)) c → c ≤ ns.length → (∀ b o, s.heap.get? b = some o → g.get? b = some o) → Q (.ref s.heap.objs.size) { s with heap := g, toks := tk }) : wpAny (model P w) A (call (.type "set") [.ref l]) Q E s := by
  have hz : its.size = ns.length := by have q := IntsAre.length hi; rw [Array.length_toList] at q; exact q
  obtain ⟨c0, tl, hmro⟩ := F.called_set.mro
  have made := F.called_set.made
  have sub := F.called_set.sub
  refine wpAny_call (codeAny_of_tree ?_); show wpAny _ _ (callAny (.type "set") _) _ _ _
  refine wpAny_pure ⟨Code.quiet_builtin _ (by decide +kernel), codeAny_builtin F.entry_type_call ?_⟩; rw [Around.under_plain (weight_type_call_type "set" [.ref l] []) rfl]
  have t1 := F.called_set.notType
  have t2 := F.called_set.canCreate
  have t3 := F.typeCall_set_1 (.ref l)
  repeat (any_goals (first | assumption | wp_step))
  refine codeAny_mono (code_set_led1 (.ref l) (E := E) (Q₁ := fun x t => x = .ref s.heap.objs.size ∧ t = { s with heap := pSet w s }) ⟨rfl, rfl⟩) fun r t hr => ?_
  rcases r with e | f
  · exact hr
  · cases f <;> first | exact hr.elim | skip
    obtain ⟨rfl, rfl⟩ := hr
    have hS : (pSet w s).get? s.heap.objs.size = some (nSet w) := Heap.get?_push_size _ rfl
    have hT : Shared.TypeIs { s with heap := pSet w s } (.ref s.heap.objs.size) "set" := ⟨_, hS, rfl⟩
    have hli := F.called_set.init.lookup
    have hbi := F.called_set.init.bind (.ref s.heap.objs.size)
    repeat (any_goals (first | assumption | wp_step))
    refine codeAny_mono (codeAny_call_builtin (R := wants (fun r t => r = .none ∧ ∃ g tk c, t = { s with heap := g, toks := tk } ∧ SetR w g s.heap.objs.size (fun j => decide (j ∈ ns)) c ∧ c ≤ ns.length ∧ (∀ b o, s.heap.get? b = some o → g.get? b = some o)) E) F.called_set.init.plain F.entry_set_init (check_set_init_1 hT ?_)) fun r t hr => ?_
    · obtain ⟨⟨kc, kd, ka, ks⟩, ho, hc, nl, hd⟩ := hl
      simp only at hc hd
      subst hc; subst hd
      have ho' : (pSet w s).get? l = some { cls := .type "list", dict := kd, data := .seq its nl, slots := ks } := Heap.get?_push_of_some _ ho
      have u1 := F.sub_list_set
      have u2 := F.sub_list_frozenset
      have u3 : (Value.type "list" == Value.type "dict") = false := by decide
      have hl1 : (pSet w s).IsList l its := ⟨_, ho', rfl, nl, rfl⟩
      unfold Builtin.«set.__init__» noKeywords Builtin.Frozenset.updateFrom
      generalize hPI : pyIter = PI
      wp_walk
      subst hPI
      refine wpAny_pyIter_list hl1 (wpAny_bind (wpAny_runValue ?_))
      have lt : l < s.heap.objs.size := Heap.lt_size ho
      have h3 : A.in1.in1.in1.handled = none := by simp [h0]
      have ne1 : l ≠ (pSet w s).objs.size := by rw [Heap.size_push]; exact fun z => Nat.ne_of_lt (Nat.lt_succ_of_lt lt) z
      have ne2 : s.heap.objs.size ∉ [(pSet w s).objs.size, l] := by
        rw [Heap.size_push]; simp only [List.mem_cons, List.not_mem_nil, or_false, not_or]; exact ⟨Nat.ne_of_lt (Nat.lt_succ_self _), fun z => Nat.ne_of_lt lt z.symm⟩
      have hv : ∀ (i : Nat) (v : Value), its[i]? = some v → ∃ k t, ns[i]? = some k ∧ v = .int k t := fun i v e => by
        have lt : i < ns.length := by rw [← hz]; exact (Array.getElem?_eq_some_iff.mp e).1
        obtain ⟨t, e⟩ := PyProof.Rows.IntsAre.int_at hi i v (by rw [Array.getElem?_toList]; exact e)
        exact ⟨ns[i], t, List.getElem?_eq_getElem lt, by rw [e, List.getD_eq_getElem?_getD, List.getElem?_eq_getElem lt] <;> rfl⟩
      refine set_update_ints ((Walks.list h3 _ l ne1 its).toS) s.heap.objs.size ne2 ns hz hb hv (its.size - 0) 0 _ (by omega) (Nat.zero_le _) ⟨⟨_, Heap.get?_push_size _ rfl, rfl, rfl⟩, (hl1.push _)⟩ ⟨0, Nat.le_refl 0, setR_new_at (Heap.get?_push_of_some _ hS)⟩ fun t c hm hc hS' => ?_
      obtain ⟨g, g2, d', tk, os'⟩ := t
      obtain rfl : g2 = s.gens := hm.gens
      obtain rfl : d' = s.drawn := hm.drawn
      obtain rfl : os' = s.os := hm.os
      show wpAny _ _ _ _ _ _
      refine wpAny_pure ?_
      show wpAny _ _ (ret Value.none) _ _ _
      rw [hz] at hc
      refine wpAny_pure ⟨rfl, g, tk, c, rfl, hS', hc, fun b o e => ?_⟩
      have hb0 : b < s.heap.objs.size := Heap.lt_size e
      refine hm.heap b o ?_ (Heap.get?_push_of_some _ (Heap.get?_push_of_some _ e))
      rw [Heap.size_push]; simp only [List.mem_cons, List.not_mem_nil, or_false, not_or]; exact ⟨Nat.ne_of_lt hb0, fun z => Nat.ne_of_lt (Nat.lt_succ_of_lt hb0) z⟩
    · rcases r with e | f
      · exact hr
      · cases f <;> first | exact hr.elim | skip
        obtain ⟨rfl, g, tk, c, rfl, k1, k2, k3⟩ := hr
        repeat (any_goals (first | assumption | wp_step))
        exact h _ _ _ k1 k2 k3
end
/-- strictly rising lists with the same members are equal -/
theorem rise_eq : ∀ {a b : List Int}, a.Pairwise (· < ·) → b.Pairwise (· < ·) → (∀ k, k ∈ a ↔ k ∈ b) → a = b
  | [], [], _, _, _ => rfl
  | [], y :: b, _, _, h => absurd ((h y).mpr List.mem_cons_self) (by simp)
  | x :: a, [], _, _, h => absurd ((h x).mp List.mem_cons_self) (by simp)
  | x :: a, y :: b, ha, hb, h => by
    obtain ⟨h1, h2⟩ := List.pairwise_cons.mp ha
    obtain ⟨h3, h4⟩ := List.pairwise_cons.mp hb
    have e : x = y := by
      rcases List.mem_cons.mp ((h x).mp List.mem_cons_self) with e | e
      · exact e
      · rcases List.mem_cons.mp ((h y).mpr List.mem_cons_self) with e' | e'
        · exact e'.symm
        · have := h3 x e; have := h1 y e'; omega
    subst e
    congr 1
    refine rise_eq h2 h4 fun k => ⟨fun hk => ?_, fun hk => ?_⟩
    · rcases List.mem_cons.mp ((h k).mp (List.mem_cons_of_mem _ hk)) with e | e
      · have := h1 k hk; omega
      · exact e
    · rcases List.mem_cons.mp ((h k).mpr (List.mem_cons_of_mem _ hk)) with e | e
      · have := h3 k hk; omega
      · exact e
def insU (k : Int) : List Int → List Int
  | [] => [k]
  | x :: xs => if k < x then k :: x :: xs else if k = x then x :: xs else x :: insU k xs
def sortU (ns : List Int) : List Int := ns.foldr insU []
theorem insU_mem (k j : Int) : ∀ l : List Int, j ∈ insU k l ↔ j = k ∨ j ∈ l
  | [] => by simp [insU]
  | x :: xs => by
    unfold insU
    split
    · simp
    · split
      · rename_i e; subst e; simp
      · simp [insU_mem k j xs]; constructor <;> (intro h; rcases h with h | h | h <;> simp [h])
theorem insU_rise (k : Int) : ∀ l : List Int, l.Pairwise (· < ·) → (insU k l).Pairwise (· < ·)
  | [], _ => by simp [insU]
  | x :: xs, h => by
    obtain ⟨h1, h2⟩ := List.pairwise_cons.mp h
    unfold insU
    split
    · rename_i q
      refine List.pairwise_cons.mpr ⟨fun y hy => ?_, h⟩
      rcases List.mem_cons.mp hy with e | e
      · omega
      · have := h1 y e; omega
    · split
      · exact h
      · refine List.pairwise_cons.mpr ⟨fun y hy => ?_, insU_rise k xs h2⟩
        rcases (insU_mem k y xs).mp hy with e | e
        · omega
        · exact h1 y e
theorem sortU_rise : ∀ ns : List Int, (sortU ns).Pairwise (· < ·)
  | [] => List.Pairwise.nil
  | k :: ns => insU_rise k _ (sortU_rise ns)
theorem sortU_mem (j : Int) : ∀ ns : List Int, j ∈ sortU ns ↔ j ∈ ns
  | [] => by simp [sortU]
  | k :: ns => by
    have := sortU_mem j ns
    simp only [sortU, List.foldr_cons] at this ⊢
    rw [insU_mem, this]; simp
end FL

set_option maxRecDepth 100000
namespace FL
open PySem PySem.Spec PyProof.Rows L2

theorem setR_card {w : World} {h : Heap} {a : Addr} {c : Nat} {ns : List Int} (R : SetR w h a (fun j => decide (j ∈ ns)) c) : c = (sortU ns).length := by
  obtain ⟨o, es, ep, t, _, _, _, _, nd, hm, _, _, hs, _⟩ := R
  have nd2 : (sortU ns).Nodup := (sortU_rise ns).imp fun h => by omega
  have p : (es.toList.map keyOf).Perm (sortU ns) := (List.perm_ext_iff_of_nodup nd nd2).mpr fun k => by rw [← hm k, sortU_mem]; simp
  have := p.length_eq
  rw [List.length_map, Array.length_toList] at this
  omega
theorem rise_len : ∀ (l : List Int) (a b : Int), l.Pairwise (· < ·) → (∀ k ∈ l, a ≤ k ∧ k < b) → (l.length : Int) ≤ max 0 (b - a)
  | [], a, b, _, _ => by simp; omega
  | x :: l, a, b, h, hb => by
    obtain ⟨h1, h2⟩ := List.pairwise_cons.mp h
    have := hb x List.mem_cons_self
    have := rise_len l (x + 1) b h2 fun k hk => ⟨by have := h1 k hk; omega, (hb k (List.mem_cons_of_mem _ hk)).2⟩
    simp only [List.length_cons]; omega
section
variable {X : Cx}
def rSetI (w : World) : List V → Hp → VK → Prop := fun vs H Q => ∃ (a : Addr) (ns : List Int), vs = [V.ref a] ∧ H a = some (.lst (ns.map V.int)) ∧ ns.length + 1 < scanBound ∧ ∀ (n : Nat) (p : Addr), n = (sortU ns).length → H p = none → Q (.ref p) (upd H p (SetO w p (fun j => decide (j ∈ ns)) n))
theorem cr_setI (hc : X.calm = true) : CallR X (.type "set") (rSetI X.w) := by
  intro pins s σ H vs us Q I r h
  obtain ⟨a, ns, rfl, ha, hb, q⟩ := h
  rw [Vals.ref1 r]
  obtain ⟨z, its, n, rr, hl, e⟩ := I.lstM ha
  refine set_of_ints (its := its.toArray) ns (I.ok.hd hc) ⟨_, e, rfl, n, rfl⟩ (by simpa using ints_of_vals rr) hb fun g tk c R hc keep => ?_
  exact ⟨.ref s.heap.objs.size, upd H s.heap.objs.size (SetO X.w s.heap.objs.size (fun j => decide (j ∈ ns)) c), I.laid (t' := tk) (fun b u e => keep b u e) (Nat.le_refl _) (setO_new R), rfl, q c _ (setR_card R) (I.hok.fresh (Nat.le_refl _))⟩
end
/-! ### sorted(set(xs)), xs ints -/
def gSortSet (d : D) (m : Me) : Res D := match view m d with
  | .lst xs => match intsD xs with
    | some ns => if (sortU ns).length < 64 ∧ ns.length < 4095 then .ok (.lst ((sortU ns).map .int)) m else .no
    | none => .no
  | _ => .no
theorem ints_rv {K : PySem.W.Frag} {H : Hp} {μ : Mu} : ∀ (ks : List Int), RVs K H μ (ks.map D.int) (ks.map V.int)
  | [] => by simp [RVs]
  | k :: ks => by simp only [List.map_cons, RVs]; exact ⟨_, _, rfl, by simp [RV], ints_rv ks⟩
theorem pd_sortSet {X : Cx} {W : WX} {x y : Str} {e : Expr} {f : ME} {p1 p2 p3 pos : Pos} (hc : X.calm = true) (g1 : Gl X x) (n1 : X.mg x = none) (b1 : bootBuiltins x = some (.builtin "sorted")) (g2 : Gl X y) (n2 : X.mg y = none) (b2 : bootBuiltins y = some (.type "set")) (he : PD X W e f)
    (hx : x ≠ "__name__" := by decide) (dx : (x == ("__debug__" : Str)) = false := by decide) (hy : y ≠ "__name__" := by decide) (dy : (y == ("__debug__" : Str)) = false := by decide)
    (s1 : starEach [.Call (.Name y p2) [e] [] p3] X.env = (false, eval (.Call (.Name y p2) [e] [] p3) X.env) :: starEach [] X.env := by rfl) (s2 : starEach [e] X.env = (false, eval e X.env) :: starEach [] X.env := by rfl)
    (l1 : (backTo pos (starEach [] X.env)).any (·.1) = false := by rfl) (l2 : (backTo p3 (starEach [] X.env)).any (·.1) = false := by rfl) :
    PD X W (.Call (.Name x p1) [.Call (.Name y p2) [e] [] p3] [] pos) (m1 gSortSet f) :=
  PE.imp (pe_callB (cr_sortedSet hc) g1 n1 b1 (pa_cons (pe_callTy (cr_setI hc) g2 n2 b2 (pa_cons he pa_nil s2) hy dy s2 l2) pa_nil s1) hx dx s1 l1) fun σ H Q ⟨μ, ρ, m, hH, hS, q⟩ => by
    refine seqR q hH hS fun d m1 v H1 μ1 e1 hH1 r1 hS1 q1 => ?_
    unfold gSortSet at q1
    split at q1
    · rename_i xs ev
      split at q1
      · rename_i ns ei
        split at q1
        · rename_i h64
          obtain ⟨a, vs, rfl, ha, hz, w1⟩ := view_lst hH1 r1 ev
          have := intsD_rv w1 ei
          subst this
          refine ⟨a, ns, rfl, ha, by unfold scanBound; omega, fun n p hn hp => ?_⟩
          refine ⟨p, fun j => decide (j ∈ ns), n, rfl, upd_same, by omega, fun ks p' hr hm hl hp' => ?_⟩
          have ek : ks = sortU ns := rise_eq hr (sortU_rise ns) fun k => by rw [hm k, sortU_mem]; simp
          have x1 := Ext.new (o := SetO X.w p (fun j => decide (j ∈ ns)) n) hH1 hp
          have hN := hH1.new (o := SetO X.w p (fun j => decide (j ∈ ns)) n) hp
          have x2 := Ext.new (o := .lst (ks.map V.int)) hN hp'
          refine q1 _ _ μ1 (x1.trans x2) (hN.new hp') ?_
          simp only [RV]
          refine ⟨p', _, rfl, ⟨hN.notin hp', fun z => hN.hid _ z hp'⟩, upd_same, ?_, ?_⟩
          · rw [List.length_map, hl, sizeLine_eq]; omega
          · rw [ek]; exact ints_rv _
        · exact q1.elim
      · exact q1.elim
    · exact q1.elim
end FL

set_option maxRecDepth 100000
namespace FL
open PySem PySem.Spec PyProof.Rows L2

/-! ### index of a tuple, flat items -/
section
variable {X : Cx}
def rIndexT (K : PySem.W.Frag) : V → List V → Hp → VK → Prop := fun x xs H Q => ∃ (a : Addr) (ys : List V) (y : V) (j : Nat) (z : V), x = V.ref a ∧ xs = [y] ∧ SqT K H a ys ∧ flatV y = true ∧ ys.all flatV = true ∧ ys[j]? = some z ∧ eqV z y = true ∧
  (∀ (m : Nat) (z' : V), m < j → ys[m]? = some z' → eqV z' y = false) ∧ Q (.int (j : Nat)) H
theorem mt_indexT : MtR X "tuple.index" (rIndexT X.K) := by
  intro pins s σ H x xs v us Q I rx rxs h
  obtain ⟨a, ys, y, j, z, rfl, rfl, hs, fy, fys, hz, hzj, hno, q⟩ := h
  cases rx
  cases rxs with
  | cons ry rt =>
    rename_i uy ut
    cases rt
    obtain ⟨its, rv, pl, hlen⟩ := I.tuple hs
    obtain ⟨⟨cls, dd, data, sl⟩, ho, hc, n, hd⟩ := pl
    simp only at hc hd
    subst hc hd
    obtain ⟨u, hu, ru⟩ := rv.get hz
    obtain ⟨hjl, hje⟩ := List.getElem?_eq_some_iff.mp hu
    have hvl := rv.length
    have hj : j < its.toArray.size := by simpa using hjl
    refine call_meets PySem.F.slot_tuple_index ⟨_, ho, rfl⟩ PySem.F.entry_tuple_index (PySem.F.args_tuple_index_2 _ _)
      (TI.tuple_indexAt a its.toArray n dd sl uy (eqU y) j hj ?_ ?_) ⟨ho, fun u' hu' => mem_eqAt ry fy rv fys u' (by simpa using hu'), ?_⟩
    · have e1 : its.toArray[j] = u := by simpa using hje
      rw [e1, eqU_of ru (flat_at fys hz)]
      exact hzj
    · intro m hm hmj
      have hml : m < its.length := by simpa using hm
      have hmy : m < ys.length := by omega
      have hy' : ys[m]? = some ys[m] := List.getElem?_eq_getElem hmy
      obtain ⟨u2, hu2, ru2⟩ := rv.get hy'
      obtain ⟨_, hme⟩ := List.getElem?_eq_some_iff.mp hu2
      have e1 : its.toArray[m] = u2 := by simpa using hme
      rw [e1, eqU_of ru2 (flat_at fys hy')]
      exact hno m _ hmj hy'
    · exact ⟨.int (j : Nat), H, I.tok _, ⟨_, rfl⟩, q⟩
variable {o e : Expr} {es : List Expr} {to : TE} {t : TA} {apos cpos : Pos}
/-- x.index(y), x a list or a tuple -/
def tIdx (K : PySem.W.Frag) (to : TE) (t : TA) : TE := fun σ H Q => to σ H fun x H1 => (tyV K "list" x H1 ∧ t σ H1 fun xs H2 => rIndex K x xs H2 Q) ∨ ((∃ a ys, x = .ref a ∧ TupN K H1 a ys) ∧ t σ H1 fun xs H2 => rIndexT K x xs H2 Q)
theorem tupN_ty {pins : List (Addr × Obj)} {σ : L2.St} {H : Hp} {s : Shared} {a : Addr} {ys : List V} (I : Inv X pins σ H s) (h : TupN X.K H a ys) : s.TypeIs (.ref a) "tuple" ∧ ∃ ob, s.heap.get? a = some ob ∧ ob.dict = none := by
  rcases h with ⟨o, h, hd⟩ | ⟨o, its, n, hk, hc, _, _, _, hd⟩
  · obtain ⟨e, _, its, _, ob, e2, hc, _⟩ := I.hok a _ h
    rw [e] at e2; cases e2
    exact ⟨⟨o, e, hc⟩, o, e, hd.1⟩
  · exact ⟨⟨o, I.kIn _ o hk, hc⟩, o, I.kIn _ o hk, hd.1⟩
theorem pe_idx (ho : PE X o to) (ha : PA X (e :: es) t)
    (hbase : attributeBase o "index" X.env (eval o X.env) = eval o X.env := by rfl)
    (hfew : ((backTo cpos (starEach (e :: es) X.env)).all (fun x => !x.1) && (backToKw cpos (keywordEach [] X.env)).all (fun x => x.1.isSome)
      && decide ((e :: es).length + ([] : List Keyword).length + (if ([] : List Keyword).isEmpty then 0 else 1) < 30)) = true := by rfl)
    (hline : (apos.endLine == cpos.line) = true := by rfl) (hs : starEach (e :: es) X.env = (false, eval e X.env) :: starEach es X.env := by rfl) (hplain : (backTo cpos (starEach es X.env)).any (·.1) = false := by rfl) :
    PE X (.Call (.Attribute o "index" apos) (e :: es) [] cpos) (tIdx X.K to t) := by
  refine ⟨fun pins s σ H Q I h => ?_⟩
  refine wpAny_Call_method_late hbase hfew hline rfl (thn (ho.run pins s σ H _ I h) fun v s1 ⟨x, H1, I1, r1, q1⟩ => ?_)
  rcases q1 with ⟨ty, q1⟩ | ⟨⟨a, ys, rfl, ty⟩, q1⟩
  · obtain ⟨h1, h2⟩ := tyV_is I1 r1 ty
    refine ⟨"list", "list.index", PySem.F.plainAttrs_list, PySem.F.slot_list_index, PySem.F.type_list_index, h1, h2, ?_⟩
    have hA := ha.run cpos pins s1 σ H1 _ I1 q1
    rw [hs] at hA ⊢
    refine Calls.callWith_builtin (by show (false || (backTo cpos (starEach es X.env)).any (·.1)) = false; rw [hplain] <;> rfl) (Calls.evalArgs_plain ?_)
    exact thn hA fun us s2 ⟨vs, H2, I2, r2, q2⟩ => mt_index pins s2 σ H2 x vs v us Q I2 r1 r2 q2
  · cases r1
    obtain ⟨h1, h2⟩ := tupN_ty I1 ty
    refine ⟨"tuple", "tuple.index", PySem.F.plainAttrs_tuple, PySem.F.slot_tuple_index, PySem.F.type_tuple_index, h1, fun b e => by cases e; exact h2, ?_⟩
    have hA := ha.run cpos pins s1 σ H1 _ I1 q1
    rw [hs] at hA ⊢
    refine Calls.callWith_builtin (by show (false || (backTo cpos (starEach es X.env)).any (·.1)) = false; rw [hplain] <;> rfl) (Calls.evalArgs_plain ?_)
    exact thn hA fun us s2 ⟨vs, H2, I2, r2, q2⟩ => mt_indexT pins s2 σ H2 (V.ref a) vs (.ref a) us Q I2 (by rfl) r2 q2
end
/-- the first place of an equal flat item -/
def idxD (y : D) : List D → Option Nat
  | [] => none
  | x :: xs => if eqF x y = true then some 0 else (idxD y xs).map (· + 1)
theorem idx_rv {K : PySem.W.Frag} {H : Hp} {μ : Mu} {y : D} {u : V} (ry : RV K H μ y u) (fy : flatD y = true) : ∀ {ds : List D} {vs : List V} {j : Nat}, RVs K H μ ds vs → ds.all flatD = true → idxD y ds = some j →
    ∃ z, vs[j]? = some z ∧ eqV z u = true ∧ ∀ (m : Nat) (z' : V), m < j → vs[m]? = some z' → eqV z' u = false
  | [], _, _, _, _, e => by cases e
  | d :: ds, vs, j, r, f, e => by
    simp only [RVs] at r
    obtain ⟨v, w, rfl, r1, r2⟩ := r
    simp only [List.all_cons, Bool.and_eq_true] at f
    have q := eqF_eq r1 ry f.1 fy
    simp only [idxD] at e
    split at e
    · rename_i h
      cases e
      exact ⟨v, rfl, by rw [← q]; exact h, fun m z hm => by omega⟩
    · rename_i h
      obtain ⟨k, hk, rfl⟩ := Option.map_eq_some_iff.mp e
      obtain ⟨z, h1, h2, h3⟩ := idx_rv ry fy r2 f.2 hk
      refine ⟨z, h1, h2, fun m z' hm hz => ?_⟩
      cases m with
      | zero =>
        cases hz
        rw [← q]; simpa using h
      | succ m => exact h3 m z' (by omega) hz
/-- what may be indexed: a list, a tuple -/
def isSeq (m : Me) (d : D) : Bool := (seqV m d).isSome
def gIndex (d y : D) (m : Me) : Res D := match seqV m d with
  | some xs => if flatD y = true ∧ xs.all flatD = true then match idxD y xs with
    | some j => .ok (.int (j : Int)) m
    | none => .no
    else .no
  | none => .no
def mIndex (fo fe : ME) : ME := fun ρ m => (fo ρ m).bind fun d m => if isSeq m d = true then (fe ρ m).bind fun y m => gIndex d y m else .no
theorem seqV_ty {K : PySem.W.Frag} {H : Hp} {μ : Mu} {m : Me} {d : D} {v : V} {xs : List D} (hH : RH K H μ m) (r : RV K H μ d v) (e : seqV m d = some xs) : ∃ a vs, v = .ref a ∧ RVs K H μ xs vs ∧ ((view m d = .lst xs ∧ SqL K H a vs) ∨ (d = .tup xs ∧ TupN K H a vs)) := by
  unfold seqV at e
  split at e
  · rename_i ys e1
    cases e
    have := view_tup e1; subst this
    obtain ⟨a, vs, rfl, h1, _, h3⟩ := rv_tup r
    exact ⟨a, vs, rfl, h3, .inr ⟨rfl, h1⟩⟩
  · rename_i ys e1
    cases e
    obtain ⟨a, vs, rfl, h1, _, h3⟩ := view_lst hH r e1
    exact ⟨a, vs, rfl, h3, .inl ⟨e1, .of h1⟩⟩
  · cases e
theorem pd_index {X : Cx} {W : WX} {o e : Expr} {apos cpos : Pos} {fo fe : ME} (ho : PD X W o fo) (he : PD X W e fe) (hbase : attributeBase o "index" X.env (eval o X.env) = eval o X.env := by rfl)
    (hfew : ((backTo cpos (starEach [e] X.env)).all (fun x => !x.1) && (backToKw cpos (keywordEach [] X.env)).all (fun x => x.1.isSome)
      && decide (([e] : List Expr).length + ([] : List Keyword).length + (if ([] : List Keyword).isEmpty then 0 else 1) < 30)) = true := by rfl)
    (hline : (apos.endLine == cpos.line) = true := by rfl) (hs : starEach [e] X.env = (false, eval e X.env) :: starEach [] X.env := by rfl) (hplain : (backTo cpos (starEach [] X.env)).any (·.1) = false := by rfl) :
    PD X W (.Call (.Attribute o "index" apos) [e] [] cpos) (mIndex fo fe) :=
  PE.imp (pe_idx ho (pa_cons he pa_nil hs) hbase hfew hline hs hplain) fun σ H Q ⟨μ, ρ, m, hH, hS, q⟩ => by
    refine seqR q hH hS fun d m1 v H1 μ1 e1 hH1 r1 hS1 q1 => ?_
    split at q1
    case isFalse => exact q1.elim
    rename_i hseq
    obtain ⟨xs, ex⟩ := Option.isSome_iff_exists.mp hseq
    obtain ⟨a, vs, rfl, _, hk⟩ := seqV_ty hH1 r1 ex
    have fin : ∀ (y : D) (m2 : Me) (z : V) (H2 : Hp) (μ2 : Mu), Ext X.K H1 μ1 H2 μ2 → RH X.K H2 μ2 m2 → RV X.K H2 μ2 y z → RS X.K H2 μ2 ρ σ → Ok X.K (fun c d H' => W c d σ H') H2 μ2 (RVv X.K) Q (gIndex d y m2) →
        ∃ (vs : List V) (j : Nat) (w : V), ((∃ ys, view m2 d = .lst ys ∧ SqL X.K H2 a vs) ∨ ((∃ ys, d = .tup ys) ∧ SqT X.K H2 a vs)) ∧ flatV z = true ∧ vs.all flatV = true ∧ vs[j]? = some w ∧ eqV w z = true ∧ (∀ (m : Nat) (z' : V), m < j → vs[m]? = some z' → eqV z' z = false) ∧ Q (.int (j : Nat)) H2 := by
      intro y m2 z H2 μ2 x2 hH2 r2 hS2 q2
      unfold gIndex at q2
      split at q2
      case h_2 => exact q2.elim
      rename_i ys ey
      obtain ⟨b, ws, eb, hr, hk2⟩ := seqV_ty hH2 (RV.ext x2 d _ r1) ey
      cases eb
      split at q2
      case isFalse => exact q2.elim
      rename_i hf
      split at q2
      case h_2 => exact q2.elim
      rename_i j ej
      obtain ⟨w, w1, w2, w3⟩ := idx_rv r2 hf.1 hr hf.2 ej
      obtain ⟨f2, _⟩ := inD_eq r2 hf.1 hr hf.2
      refine ⟨ws, j, w, ?_, by rw [← flat_eq r2]; exact hf.1, f2, w1, w2, w3, q2 _ H2 μ2 .refl hH2 (by simp [RV])⟩
      rcases hk2 with ⟨g1, g2⟩ | ⟨g1, g2⟩
      · exact .inl ⟨ys, g1, g2⟩
      · exact .inr ⟨⟨ys, g1⟩, g2.sq⟩
    rcases hk with ⟨g1, g2⟩ | ⟨g1, g2⟩
    · refine .inl ⟨.inl ⟨rfl, _, g2⟩, ?_⟩
      refine seqR q1 hH1 hS1 fun y m2 z H2 μ2 x2 hH2 r2 hS2 q2 => ?_
      obtain ⟨ws, j, w, hk2, h1, h2, h3, h4, h5, h6⟩ := fin y m2 z H2 μ2 x2 hH2 r2 hS2 q2
      rcases hk2 with ⟨_, _, hk2⟩ | ⟨⟨ys, e2⟩, hk2⟩
      · exact ⟨a, ws, z, j, w, rfl, rfl, hk2, h1, h2, h3, h4, h5, h6⟩
      · rw [e2] at g1; cases g1
    · refine .inr ⟨⟨a, _, rfl, g2⟩, ?_⟩
      refine seqR q1 hH1 hS1 fun y m2 z H2 μ2 x2 hH2 r2 hS2 q2 => ?_
      obtain ⟨ws, j, w, hk2, h1, h2, h3, h4, h5, h6⟩ := fin y m2 z H2 μ2 x2 hH2 r2 hS2 q2
      rcases hk2 with ⟨ys, e2, hk2⟩ | ⟨_, hk2⟩
      · rw [g1] at e2; cases e2
      · exact ⟨a, ws, z, j, w, rfl, rfl, hk2, h1, h2, h3, h4, h5, h6⟩
end FL

set_option maxRecDepth 100000
namespace FL
open PySem PySem.Spec PyProof.Rows L2

/-! ### tuple(range(..)), list(range(..)) -/
section
variable {X : Cx} {W : WX} {e a b : Expr} {te : L2.St → Hp → (Int → Int → Hp → Prop) → Prop} {p p2 pos : Pos}
def tTupRgN (te : L2.St → Hp → (Int → Int → Hp → Prop) → Prop) : TE := fun σ H Q => te σ H fun a b H1 => RgOk a b ∧ ∀ q (o : Obj), PlO o → H1 q = none → Q (.ref q) (upd H1 q (.frz o (.tup (rgV a b))))
theorem pe_tupRgN (hc : X.calm = true) (hg : Gl X "tuple") (hm : X.mg "tuple" = none) (he : PRg X e te) (na : starEach [e] X.env = (false, eval e X.env) :: starEach [] X.env := by rfl) : PE X (.Call (.Name "tuple" p) [e] [] pos) (tTupRgN te) := by
  refine ⟨fun pins s σ H Q I h => ?_⟩
  refine Call_ (ld_blt I hg hm boot_tuple (PyProof.Rows.callWith_type1 (args_cons (thn (he pins s σ H _ I h) fun x s1 ⟨r, a, b, t, u, v, H1, ex, hr, I1, ok, q⟩ => args_nil ?_) na) na))
  subst ex
  obtain ⟨b1, b2, b3, b4, b5⟩ := ok
  refine call_tuple_range (n := (b - a).toNat) (I1.ok.hd hc) hr (small_one b1 b2 b3 b4) (rangeSize_nat a b) b5 fun h' tk acc hk hi => ?_
  have I2 : Inv X pins σ H1 { s1 with heap := h', toks := tk } := I1.kept hk
  refine ⟨.ref h'.objs.size, upd H1 h'.objs.size (.frz { cls := .type "tuple", data := .seq acc } (.tup (rgV a b))), I2.laid (t' := tk) (fun c o e => Heap.get?_push_of_some _ e) (Nat.le_refl _) (show ObjOk X.prog X.w _ _ _ (.frz _ (.tup (rgV a b))) from ⟨Heap.get?_push_size _ rfl, ?_, acc.toList, vals_rg hi, ?_⟩), rfl, q _ _ ⟨rfl, rfl⟩ (I2.hok.fresh (Nat.le_refl _))⟩
  · rw [rgV_length, sizeLine_eq]; omega
  · rw [Array.toArray_toList]; exact PyProof.Rows.IsTup.new _ _
/-- an expression that makes a range -/
abbrev PDRg (X : Cx) (W : WX) (e : Expr) (f : En → Me → Res (Int × Int)) : Prop := ∃ te, PRg X e te ∧ ∀ σ H (Q : Int → Int → Hp → Prop), tR X.K W (fun _ _ a b => a = b) f σ H (fun p H => Q p.1 p.2 H) → te σ H Q
def mRg1 (fa : ME) : En → Me → Res (Int × Int) := fun ρ m => (fa ρ m).bind fun d m => match d with
  | .int j => .ok (0, j) m
  | _ => .no
def mRg2 (fa fb : ME) : En → Me → Res (Int × Int) := fun ρ m => (fa ρ m).bind fun d m => (fb ρ m).bind fun d' m => match d, d' with
  | .int i, .int j => .ok (i, j) m
  | _, _ => .no
theorem pdrg_1 {fa : ME} (hg : Gl X "range") (hm : X.mg "range" = none) (ha : PD X W a fa) (na : starEach [a] X.env = (false, eval a X.env) :: starEach [] X.env := by rfl) : PDRg X W (.Call (.Name "range" p) [a] [] pos) (mRg1 fa) :=
  ⟨_, prg_1 hg hm ha na, fun σ H Q ⟨μ, ρ, m, hH, hS, q⟩ => by
    refine seqR q hH hS fun d m1 v H1 μ1 e1 hH1 r1 hS1 q1 => ?_
    cases d with
    | int j => simp only [RVv, RV] at r1; exact ⟨j, r1, q1 (0, j) H1 μ1 .refl hH1 rfl⟩
    | _ => exact q1.elim⟩
theorem pdrg_2 {fa fb : ME} (hg : Gl X "range") (hm : X.mg "range" = none) (ha : PD X W a fa) (hb : PD X W b fb) (na : starEach [a, b] X.env = (false, eval a X.env) :: starEach [b] X.env := by rfl)
    (nb : starEach [b] X.env = (false, eval b X.env) :: starEach [] X.env := by rfl) (hp : (backTo pos (starEach [b] X.env)).any (·.1) = false := by rfl) : PDRg X W (.Call (.Name "range" p) [a, b] [] pos) (mRg2 fa fb) :=
  ⟨_, prg_2 hg hm ha hb na nb hp, fun σ H Q ⟨μ, ρ, m, hH, hS, q⟩ => by
    refine seqR q hH hS fun d m1 v H1 μ1 e1 hH1 r1 hS1 q1 => ?_
    refine seqR q1 hH1 hS1 fun d' m2 v' H2 μ2 e2 hH2 r2 hS2 q2 => ?_
    cases d with
    | int i =>
      cases d' with
      | int j => simp only [RVv, RV] at r1 r2; exact ⟨i, j, r1, r2, q2 (i, j) H2 μ2 .refl hH2 rfl⟩
      | _ => exact q2.elim
    | _ => exact q2.elim⟩
theorem rg_rv {K : PySem.W.Frag} {H : Hp} {μ : Mu} (a b : Int) : RVs K H μ (rngL a (b - a).toNat) (rgV a b) := by
  unfold rngL rgV
  generalize List.range (b - a).toNat = l
  induction l with
  | nil => simp [RVs]
  | cons k l ih => simp only [List.map_cons, RVs]; exact ⟨_, _, rfl, by simp [RV], ih⟩
def mTupRg (g : En → Me → Res (Int × Int)) : ME := fun ρ m => (g ρ m).bind fun p m => if (p.1 ≤ 1000000 ∧ -1000000 ≤ p.1) ∧ p.2 ≤ 1000000 ∧ -1000000 ≤ p.2 then .ok (.tup (rngL p.1 (p.2 - p.1).toNat)) m else .no
def mLstRg (g : En → Me → Res (Int × Int)) : ME := fun ρ m => (g ρ m).bind fun p m => if (p.1 ≤ 1000000 ∧ -1000000 ≤ p.1) ∧ p.2 ≤ 1000000 ∧ -1000000 ≤ p.2 then .ok (.lst (rngL p.1 (p.2 - p.1).toNat)) m else .no
theorem rg_ok {a b : Int} (h : (a ≤ 1000000 ∧ -1000000 ≤ a) ∧ b ≤ 1000000 ∧ -1000000 ≤ b) : RgOk a b := ⟨by omega, by omega, by omega, by omega, by omega⟩
theorem rgV_line {a b : Int} (h : (a ≤ 1000000 ∧ -1000000 ≤ a) ∧ b ≤ 1000000 ∧ -1000000 ≤ b) : (rgV a b).length ≤ sizeLine := by rw [rgV_length, sizeLine_eq]; omega
theorem pd_tupRg {g : En → Me → Res (Int × Int)} (hc : X.calm = true) (hg : Gl X "tuple") (hm : X.mg "tuple" = none) (h : PDRg X W e g) (na : starEach [e] X.env = (false, eval e X.env) :: starEach [] X.env := by rfl) :
    PD X W (.Call (.Name "tuple" p2) [e] [] pos) (mTupRg g) := by
  obtain ⟨te, h1, h2⟩ := h
  refine PE.imp (pe_tupRgN hc hg hm h1 na) fun σ H Q ⟨μ, ρ, m, hH, hS, q⟩ => h2 σ H _ ?_
  refine seqR q hH hS fun pr m1 pr' H1 μ1 e1 hH1 r1 hS1 q1 => ?_
  subst r1
  split at q1
  case isFalse => exact q1.elim
  rename_i hb
  refine ⟨rg_ok hb, fun p o hd hp => ?_⟩
  have ex := Ext.new (o := .frz o (.tup (rgV pr.1 pr.2))) hH1 hp
  refine q1 _ _ μ1 ex (hH1.new hp) ?_
  simp only [RV]
  exact ⟨p, _, rfl, .inl ⟨o, upd_same, hd⟩, rgV_line hb, rg_rv _ _⟩
theorem pd_lstRg {g : En → Me → Res (Int × Int)} (hc : X.calm = true) (hg : Gl X "list") (hm : X.mg "list" = none) (h : PDRg X W e g) (na : starEach [e] X.env = (false, eval e X.env) :: starEach [] X.env := by rfl) :
    PD X W (.Call (.Name "list" p2) [e] [] pos) (mLstRg g) := by
  obtain ⟨te, h1, h2⟩ := h
  refine PE.imp (pe_listRg hc hg hm h1 na) fun σ H Q ⟨μ, ρ, m, hH, hS, q⟩ => h2 σ H _ ?_
  refine seqR q hH hS fun pr m1 pr' H1 μ1 e1 hH1 r1 hS1 q1 => ?_
  subst r1
  split at q1
  case isFalse => exact q1.elim
  rename_i hb
  refine ⟨rg_ok hb, fun p hp => ?_⟩
  have ex := Ext.new (o := .lst (rgV pr.1 pr.2)) hH1 hp
  refine q1 _ _ μ1 ex (hH1.new hp) ?_
  simp only [RV]
  exact ⟨p, _, rfl, ⟨hH1.notin hp, fun z => hH1.hid _ z hp⟩, upd_same, rgV_line hb, rg_rv _ _⟩
end
end FL

set_option maxRecDepth 100000
namespace FL
open PySem PySem.Spec PyProof.Rows L2

/-! ### instances -/
def putA (f : Str) (d : D) : List (Str × D) → List (Str × D)
  | [] => [(f, d)]
  | (g, x) :: r => if g = f then (g, d) :: r else (g, x) :: putA f d r
abbrev FsV (K : PySem.W.Frag) (H : Hp) (μ : Mu) : List (Str × D) → List (Str × V) → Prop := Paired (fun (p : Str × D) (q : Str × V) => p.1 = q.1 ∧ RV K H μ p.2 q.2)
section
variable {K : PySem.W.Frag} {H : Hp} {μ : Mu} {m : Me}
theorem putA_rv {f : Str} {d : D} {v : V} (r : RV K H μ d v) : ∀ {fs : List (Str × D)} {gs : List (Str × V)}, FsV K H μ fs gs → FsV K H μ (putA f d fs) (putF f v gs)
  | [], _, .nil => .cons ⟨rfl, r⟩ .nil
  | (g, x) :: fs, (g', y) :: gs, .cons h t => by
    obtain ⟨e, h2⟩ := h
    dsimp only at e h2
    subst e
    by_cases q : g = f
    · simp only [putA, putF, if_pos q]; exact .cons ⟨rfl, r⟩ t
    · simp only [putA, putF, if_neg q]; exact .cons ⟨rfl, h2⟩ (putA_rv r t)
theorem lookA {f : Str} : ∀ {fs : List (Str × D)} {gs : List (Str × V)}, FsV K H μ fs gs → match fs.lookup f with
    | some d => ∃ v, gs.lookup f = some v ∧ RV K H μ d v
    | none => gs.lookup f = none
  | [], _, .nil => rfl
  | (g, x) :: fs, (g', y) :: gs, .cons h t => by
    obtain ⟨e, h2⟩ := h
    dsimp only at e h2
    subst e
    by_cases q : (f == g) = true
    · simp only [List.lookup, q]; exact ⟨y, rfl, h2⟩
    · simp only [Bool.not_eq_true] at q
      simp only [List.lookup, q]; exact lookA t
theorem ins_of (hH : RH K H μ m) {i : Nat} {v : V} (r : RV K H μ (.ref i) v) {C : Addr} {fs : List (Str × D)} (e : m[i]? = some (.ins C fs)) : ∃ a dx gs, v = .ref a ∧ μ.l[i]? = some a ∧ H a = some (.ins C dx gs) ∧ FsV K H μ fs gs := by
  simp only [RV] at r
  obtain ⟨a, rfl, ha⟩ := r
  obtain ⟨a', e', dx, gs, h1, h2⟩ := hH.at' i _ e
  rw [ha] at e'; cases e'
  exact ⟨a, dx, gs, rfl, ha, h1, h2⟩
end
section
variable {X : Cx} {W : WX} {o e value : Expr} {pos pos' apos tpos p : Pos} {fo fe fv : ME} {x y : Str} {C : Addr} {es : List Expr}
/-- o.x -/
def mFld (C : Addr) (x : Str) (fo : ME) : ME := fun ρ m => (fo ρ m).bind fun d m => match d with
  | .ref i => match m[i]? with
    | some (.ins C' fs) => if C' = C then match fs.lookup x with
      | some d => .ok d m
      | none => .no
      else .no
    | _ => .no
  | _ => .no
theorem pd_fld (c : Cls X.K C) (nA : NoAttr X.K C x) (ho : PD X W o fo) (hb : attributeBase o x X.env (eval o X.env) = eval o X.env := by rfl) : PD X W (.Attribute o x pos) (mFld C x fo) :=
  PE.imp (pe_fld ho hb) fun σ H Q ⟨μ, ρ, m, hH, hS, q⟩ => by
    refine seqR q hH hS fun d m1 v H1 μ1 e1 hH1 r1 hS1 q1 => ?_
    split at q1
    case h_2 => exact q1.elim
    rename_i i
    split at q1
    case h_2 => exact q1.elim
    rename_i C' fs ei
    split at q1
    case isFalse => exact q1.elim
    rename_i hC
    subst hC
    obtain ⟨a, dx, gs, rfl, ha, h1, h2⟩ := ins_of hH1 r1 ei
    have hl := lookA (f := x) h2
    split at q1
    case h_2 => exact q1.elim
    rename_i d' ed
    rw [ed] at hl
    obtain ⟨w, h3, h4⟩ := hl
    exact ⟨a, _, dx, gs, w, rfl, h1, c, nA, h3, q1 w H1 μ1 .refl hH1 h4⟩
/-- o.x = e -/
def sFldD (C : Addr) (x : Str) (fo fv : ME) : MS := fun ρ m => bindS (fv ρ m) ρ fun y m => bindS (fo ρ m) ρ fun d m => match d with
  | .ref i => match m[i]? with
    | some (.ins C' fs) => if C' = C ∧ fs.length < 1000 then .nx ρ (m.set i (.ins C (putA x y fs))) else .no
    | _ => .no
  | _ => .no
theorem fsv_len {K : PySem.W.Frag} {H : Hp} {μ : Mu} {fs : List (Str × D)} {gs : List (Str × V)} (h : FsV K H μ fs gs) : fs.length = gs.length := Paired.length h
theorem pds_fld (c : Cls X.K C) (nA : NoAttr X.K C x) (ho : PD X W o fo) (hv : PD X W value fv) (hs : swapsWith value (some (.Attribute o x pos')) pos.line X.env = pure false := by rfl) : PDS X W (.Assign [.Attribute o x pos'] value pos) (sFldD C x fo fv) :=
  PS.imp (ps_fld ho hv hs) fun D σ H ⟨μ, ρ, m, hH, hS, q⟩ => by
    refine seqS q hH hS fun y m1 z H1 μ1 e1 hH1 r1 hS1 q1 => ?_
    refine seqS q1 hH1 hS1 fun d m2 v H2 μ2 e2 hH2 r2 hS2 q2 => ?_
    split at q2
    case h_2 => exact q2.elim
    rename_i i
    split at q2
    case h_2 => exact q2.elim
    rename_i C' fs ei
    split at q2
    case isFalse => exact q2.elim
    rename_i hC
    obtain ⟨hC, hl⟩ := hC
    subst hC
    obtain ⟨a, dx, gs, rfl, ha, h1, h2⟩ := ins_of hH2 r2 ei
    have ex := Ext.wr (o := .ins C' dx (putF x z gs)) hH2 ha
    refine ⟨a, _, dx, gs, rfl, h1, c, nA, by rw [← fsv_len h2]; exact hl, q2 σ _ μ2 ex (hH2.wr ha ⟨dx, _, upd_same, ?_⟩) (hS2.ext ex)⟩
    exact L2.Paired.mapP (putA_rv (RV.ext e2 y z r1) h2) fun p q z => ⟨z.1, RV.ext ex _ _ z.2⟩
/-- o.x += e, o.x -= e of whole numbers -/
def sFldAug (C : Addr) (x : Str) (g : Int → Int → Int) (fo fe : ME) : MS := fun ρ m => bindS (fo ρ m) ρ fun d m => match d with
  | .ref i => match m[i]? with
    | some (.ins C' fs) => if C' = C then match fs.lookup x with
      | some (.int a) => bindS (fe ρ m) ρ fun y m => match y with
        | .int b => match m[i]? with
          | some (.ins C2 fs2) => if C2 = C ∧ fs2.length < 1000 then .nx ρ (m.set i (.ins C (putA x (.int (g a b)) fs2))) else .no
          | _ => .no
        | _ => .no
      | _ => .no
      else .no
    | _ => .no
  | _ => .no
def rGI (g : Int → Int → Int) : V → V → Hp → VK → Prop := fun x y H Q => ∃ i j, x = .int i ∧ y = .int j ∧ Q (.int (g i j)) H
theorem pds_fldaug {op : Operator} {g : Int → Int → Int} (hop : InOp X op (rGI g)) (c : Cls X.K C) (nA : NoAttr X.K C x) (ho : PD X W o fo) (hv : PD X W e fe) : PDS X W (.AugAssign (.Attribute o x tpos) op e pos) (sFldAug C x g fo fe) :=
  PS.imp (ps_fldaug ho hv hop) fun D σ H ⟨μ, ρ, m, hH, hS, q⟩ => by
    refine seqS q hH hS fun d m1 v H1 μ1 e1 hH1 r1 hS1 q1 => ?_
    split at q1
    case h_2 => exact q1.elim
    rename_i i
    split at q1
    case h_2 => exact q1.elim
    rename_i C' fs ei
    split at q1
    case isFalse => exact q1.elim
    rename_i hC
    subst hC
    obtain ⟨a, dx, gs, rfl, ha, h1, h2⟩ := ins_of hH1 r1 ei
    have hl := lookA (f := x) h2
    split at q1
    case h_2 => exact q1.elim
    rename_i n ed
    rw [ed] at hl
    obtain ⟨w, h3, h4⟩ := hl
    simp only [RV] at h4
    subst h4
    refine ⟨a, _, dx, gs, _, rfl, h1, c, nA, h3, ?_⟩
    refine seqS q1 hH1 hS1 fun y m2 z H2 μ2 e2 hH2 r2 hS2 q2 => ?_
    split at q2
    case h_2 => exact q2.elim
    rename_i b
    simp only [RVv, RV] at r2
    subst r2
    split at q2
    case h_2 => exact q2.elim
    rename_i C2 fs2 ei2
    split at q2
    case isFalse => exact q2.elim
    rename_i hC
    obtain ⟨hC, hl2⟩ := hC
    subst hC
    obtain ⟨a', dx2, gs2, ea, ha2, h1', h2'⟩ := ins_of hH2 (RV.ext e2 _ _ r1) ei2
    cases ea
    have ex := Ext.wr (o := .ins C2 dx2 (putF x (.int (g n b)) gs2)) hH2 ha2
    refine ⟨n, b, rfl, rfl, dx2, gs2, h1', by rw [← fsv_len h2']; exact hl2, q2 σ _ μ2 ex (hH2.wr ha2 ⟨dx2, _, upd_same, ?_⟩) (hS2.ext ex)⟩
    exact L2.Paired.mapP (putA_rv (d := .int (g n b)) (v := .int (g n b)) (by simp [RV]) h2') fun p q z => ⟨z.1, RV.ext ex _ _ z.2⟩
theorem inI_add : InOp X .Add (rGI fun i j => i + j) := in_add
theorem inI_sub : InOp X .Sub (rGI fun i j => i - j) := in_sub
/-- o.x(..) -/
def mMeth (C : Addr) (x : Str) (F : List D → Me → Res D) (fo : ME) (fa : MA) : ME := fun ρ m => (fo ρ m).bind fun d m => match d with
  | .ref i => match m[i]? with
    | some (.ins C' fs) => if C' = C ∧ fs.lookup x = none then (fa ρ m).bind fun ds m => noX (F (.ref i :: ds) m) else .no
    | _ => .no
  | _ => .no
variable {k n : Nat} {f : Addr} {fd : FuncData} {ps : List Str} {Fm : List D → Me → Res D} {fa : MA}
theorem meth_imp {t : TA} {tq : TE} (ht : t = tR X.K W (RVn X.K n) fa) (ho : tq = tR X.K W (RVv X.K) fo) : ∀ σ H Q, tR X.K W (RVv X.K) (mMeth C x Fm fo fa) σ H Q → tMeth C x (spF X.K (n + 1) Fm) [] (fun _ _ _ => False) tq t σ H Q := fun σ H Q ⟨μ, ρ, m, hH, hS, q⟩ => by
  subst ht ho
  refine seqR q hH hS fun d m1 v H1 μ1 e1 hH1 r1 hS1 q1 => ?_
  split at q1
  case h_2 => exact q1.elim
  rename_i i
  split at q1
  case h_2 => exact q1.elim
  rename_i C' fs ei
  split at q1
  case isFalse => exact q1.elim
  rename_i hC
  obtain ⟨hC, hl⟩ := hC
  subst hC
  obtain ⟨a, dx, gs, rfl, ha, h1, h2⟩ := ins_of hH1 r1 ei
  have hl' := lookA (f := x) h2
  rw [hl] at hl'
  refine ⟨a, dx, gs, rfl, h1, hl', ?_⟩
  refine seqR q1 hH1 hS1 fun ds m2 vs H2 μ2 e2 hH2 r2 hS2 q2 => ?_
  refine ⟨μ2, m2, .ref i :: ds, hH2, ?_, by simp [r2.2], Ok.noX' q2⟩
  simp only [RVs]
  exact ⟨_, _, rfl, RV.ext e2 _ _ r1, by simpa using r2.1⟩
theorem pd_meth (pl : Sem Bool) (c : Cls X.K C) (hm : Meth X.K C x f) (G : FnOk X.prog X.w X.K X.mg X.base CX0 k f fd ps (spF X.K (n + 1) Fm)) (hr : Room k X.A) (hb : Binds X.K fd ps []) (ho : PD X W o fo) (ha : PDA X W n (e :: es) fa)
    (hst : starEach (e :: es) X.env = (false, eval e X.env) :: starEach es X.env := by rfl) (hpl : (backTo pos (starEach es X.env)).any (·.1) = false := by rfl)
    (ht : eval (.Call (.Attribute o x apos) (e :: es) [] pos) X.env = (do
      let ov ← eval o X.env
      standAt apos.atName
      let (f, first) ← holding [ov] (getMethod ov x pl)
      callWith pos f first (backTo pos (starEach (e :: es) X.env)) (backToKw pos (keywordEach [] X.env))) := by rfl) : PD X W (.Call (.Attribute o x apos) (e :: es) [] pos) (mMeth C x Fm fo fa) :=
  PE.imp (pe_meth (pl := pl) ho c hm G hr hb .nil pass0 ha hst hpl ht) (meth_imp rfl rfl)
theorem pd_meth0 (pl : Sem Bool) (c : Cls X.K C) (hm : Meth X.K C x f) (G : FnOk X.prog X.w X.K X.mg X.base CX0 k f fd ps (spF X.K (0 + 1) Fm)) (hr : Room k X.A) (hb : Binds X.K fd ps []) (ho : PD X W o fo)
    (ht : eval (.Call (.Attribute o x apos) [] [] pos) X.env = (do
      let ov ← eval o X.env
      standAt apos.atName
      let (f, first) ← holding [ov] (getMethod ov x pl)
      callWith pos f first (backTo pos (starEach [] X.env)) (backToKw pos (keywordEach [] X.env))) := by rfl) : PD X W (.Call (.Attribute o x apos) [] [] pos) (mMeth C x Fm fo mNil) :=
  PE.imp (pe_meth0 (pl := pl) ho c hm G hr hb .nil pass0 ht) fun σ H Q h => by
    have := meth_imp (t := tR X.K W (RVn X.K 0) mNil) (tq := tR X.K W (RVv X.K) fo) rfl rfl σ H Q h
    obtain ⟨μ, ρ, m, hH, hS, q⟩ := h
    refine seqR q hH hS fun d m1 v H1 μ1 e1 hH1 r1 hS1 q1 => ?_
    split at q1
    case h_2 => exact q1.elim
    rename_i i
    split at q1
    case h_2 => exact q1.elim
    rename_i C' fs ei
    split at q1
    case isFalse => exact q1.elim
    rename_i hC
    obtain ⟨hC, hl⟩ := hC
    subst hC
    obtain ⟨a, dx, gs, rfl, ha, h1, h2⟩ := ins_of hH1 r1 ei
    have hl' := lookA (f := x) h2
    rw [hl] at hl'
    refine ⟨a, dx, gs, rfl, h1, hl', μ1, m1, [.ref i], hH1, ?_, rfl, Ok.noX' q1⟩
    simp only [RVs]
    exact ⟨_, _, rfl, r1, rfl⟩
/-! ### a new instance -/
def mkC (C : Addr) (F : List D → Me → Res D) : List D → Me → Res D := fun ds m => (F (.ref m.length :: ds) (m ++ [.ins C []])).bind fun d m' => match d with
  | .non => .ok (.ref m.length) m'
  | _ => .no
def ctF (C : Addr) (Fn : Nat → List D → Me → Res D) : Nat → List D → Me → Res D
  | 0 => fun _ _ => .no
  | k + 1 => mkC C (Fn k)
def CtOk (P : Program) (w : World) (K : PySem.W.Frag) (mg : Str → Option Value) (base : Heap) (f : Addr) (fd : FuncData) (ps : List Str) (np : Nat) (Fn : Nat → List D → Me → Res D) : Nat → Prop
  | 0 => True
  | k + 1 => FnOk P w K mg base CX0 k f fd ps (spF K np (Fn k))
theorem make_imp {H1 : Hp} {μ1 : Mu} {m1 : Me} {ds : List D} {vs : List V} {F : List D → Me → Res D} {np : Nat} {Ex : XK} {Q : VK} (hH1 : RH X.K H1 μ1 m1) (r1 : RVs X.K H1 μ1 ds vs) (hn : ds.length + 1 = np) (q1 : Ok X.K Ex H1 μ1 (RVv X.K) Q (noX (mkC C F ds m1))) :
    ∀ x dx, H1 x = none → H1 dx = none → dx ≠ x → spF X.K np F (.ref x :: vs) (upd (upd H1 dx (.own x)) x (.ins C dx [])) (fun v H2 => v = .non ∧ Q (.ref x) H2) (fun _ _ _ => False) := by
  intro a dx hx hdx hne
  have ex1 := Ext.new (o := .own a) hH1 hdx
  have hH2 := hH1.new (o := .own a) hdx
  have hx2 : upd H1 dx (.own a) a = none := by rw [upd_ne (Ne.symm hne)]; exact hx
  have ex2 := Ext.cell (o := .ins C dx []) hH2 hx2
  have hH3 := hH2.cell (o := .ins C dx []) (c := .ins C []) hx2 ⟨dx, [], upd_same, .nil⟩
  have hlen := hH1.len
  refine ⟨μ1.add a, m1 ++ [.ins C []], .ref m1.length :: ds, hH3, ?_, by simpa using hn, ?_⟩
  · simp only [RVs]
    refine ⟨_, _, rfl, ?_, RVs.ext ex2 _ _ (RVs.ext ex1 _ _ r1)⟩
    simp only [RV]
    exact ⟨a, rfl, by simp [Mu.add, ← hlen]⟩
  · unfold mkC at q1
    cases e : F (.ref m1.length :: ds) (m1 ++ [.ins C []]) with
    | no => rw [e] at q1; exact q1.elim
    | exc y m' => rw [e] at q1; exact q1.elim
    | ok d m' =>
      rw [e] at q1
      simp only [Res.bind_ok] at q1
      cases d with
      | non =>
        intro v H' μ' x' hH' r'
        simp only [RVv, RV] at r'
        refine ⟨r', q1 _ H' μ' (ex1.trans (ex2.trans x')) hH' ?_⟩
        simp only [RVv, RV]
        exact ⟨a, rfl, x'.get (by simp [Mu.add, ← hlen])⟩
      | _ => exact q1.elim
theorem run_ctor {Fn : Nat → List D → Me → Res D} {np : Nat} {H1 : Hp} {μ1 : Mu} {m1 : Me} {ds : List D} {vs : List V} {us : List Value} {Ex : XK} {Q : VK} {pins : List (Addr × Obj)} {σ : L2.St} {s : Shared} (M : Mk X.K C f)
    (h : CtOk X.prog X.w X.K X.mg X.base f fd ps np Fn n) (hr : Room n X.A) (hb : Binds X.K fd ps []) (I : Inv X pins σ H1 s) (r : Vals vs us)
    (hH1 : RH X.K H1 μ1 m1) (r1 : RVs X.K H1 μ1 ds vs) (hn : ds.length + 1 = np) (q1 : Ok X.K Ex H1 μ1 (RVv X.K) Q (noX (ctF C Fn n ds m1))) : wpAny (model X.prog X.w) X.A (call (.ref C) us) (EP X pins σ Q) X.xe s := by
  cases n with
  | zero => exact q1.elim
  | succ n =>
    refine run_make M h hr hb .nil pass0 I r ?_
    have := make_imp hH1 r1 hn q1
    simpa using this
theorem pd_make {Fn : Nat → List D → Me → Res D} {np q : Nat} (M : Mk X.K C f) (h : CtOk X.prog X.w X.K X.mg X.base f fd ps np Fn n) (hr : Room n X.A) (hg : Gl X y) (hm : X.mg y = some (.ref C)) (hb : Binds X.K fd ps [])
    (ha : PDA X W q (e :: es) fa) (hF : Fm = ctF C Fn n) (hq : q + 1 = np := by rfl) (hdb : (y == ("__debug__" : Str)) = false := by decide) (he : starEach (e :: es) X.env = (false, eval e X.env) :: starEach es X.env := by rfl) (hpl : (backTo pos (starEach es X.env)).any (·.1) = false := by rfl) :
    PD X W (.Call (.Name y p) (e :: es) [] pos) (mCall Fm fa) := by
  subst hF
  refine ⟨fun pins s σ H Q I ⟨μ, ρ, m, hH, hS, qq⟩ => ?_⟩
  refine wpAny_Call_Name_kw (ld_glob I hg hm ?_ hdb)
  have h2 : tR X.K W (RVn X.K q) fa σ H (fun vs H1 => ∃ μ1 m1 ds, RH X.K H1 μ1 m1 ∧ RVs X.K H1 μ1 ds vs ∧ ds.length = q ∧ Ok X.K (fun c d H' => W c d σ H') H1 μ1 (RVv X.K) Q (noX (ctF C Fn n ds m1))) :=
    seqR qq hH hS fun ds m1 vs H1 μ1 e1 hH1 r1 hS1 q1 => ⟨μ1, m1, ds, hH1, r1.1, r1.2, q1⟩
  refine PySem.W.callWith_K (h₀ := X.base) I.ok.mod.kin M.kp (thn (ha.run pos pins s σ H _ I h2) fun us s1 ⟨vs, H1, I1, r, μ1, m1, ds, hH1, r1, hn, q1⟩ => ⟨I1.kIn, ?_⟩) he hpl
  exact run_ctor M h hr hb I1 r hH1 r1 (by rw [hn]; exact hq) q1
theorem pd_make0 {Fn : Nat → List D → Me → Res D} {np : Nat} (M : Mk X.K C f) (h : CtOk X.prog X.w X.K X.mg X.base f fd ps np Fn n) (hr : Room n X.A) (hg : Gl X y) (hm : X.mg y = some (.ref C)) (hb : Binds X.K fd ps [])
    (hF : Fm = ctF C Fn n) (hq : 1 = np := by rfl) (hdb : (y == ("__debug__" : Str)) = false := by decide) : PD X W (.Call (.Name y p) [] [] pos) (mCall Fm mNil) := by
  subst hF
  refine ⟨fun pins s σ H Q I ⟨μ, ρ, m, hH, hS, qq⟩ => ?_⟩
  refine wpAny_Call_Name_kw (ld_glob I hg hm ?_ hdb)
  exact PySem.W.callWith_K0 I.kIn M.kp (run_ctor (us := []) (vs := []) (ds := []) M h hr hb I .nil hH rfl hq qq)
end
/-! ### a def that keeps what it made -/
def runDefK (N n : Nat) (f : MS) : List D → Me → Res D := fun ds m => match f (ds.map some ++ List.replicate (N - n) none) m with
  | .nx _ m' => .ok .non m'
  | .rt d m' => .ok d m'
  | _ => .no
section
variable {P : Program} {w : World} {K : PySem.W.Frag} {mg : Str → Option Value} {base : Heap}
theorem fn_okK {x qual : Str} {st : Stmt} {f : Addr} {fd : FuncData} {N ps : List Str} {k : Nat} (F : Fun K x qual st f fd) (S : FnScope N ps (defScope st)) {fm : MS}
    (hbody : ∀ (cdv : Value) (A : Around) (outer : List Env) (s : Shared) (H : Hp) (E : XK), Room k (A.deeper (envOfC qual (defScope st) s.heap.objs.size f cdv)) →
      PDB (cxOf CX0 P w K mg base N qual (defScope st) f cdv A outer s H E).nox WF (defBody st) fm) : FnOk P w K mg base CX0 (k + 1) f fd ps (spF K ps.length (runDefK N.length ps.length fm)) := by
  refine F.ok S (fun vs H Q E h => ?_) (fun cdv A outer s H vs Q E hr h => ?_)
  · obtain ⟨μ, m, ds, _, r, hn, _⟩ := h
    rw [← r.length, hn]
  · obtain ⟨μ, m, ds, hH, r, hn, q⟩ := h
    refine ⟨_, hbody cdv A outer s H E hr, μ, _, m, hH, start_rs r hn, ?_⟩
    unfold runDefK at q
    cases e : fm (ds.map some ++ List.replicate (N.length - ps.length) none) m with
    | no => simp only [e] at q; exact q
    | exc x ρ m' => simp only [e] at q; exact q.elim
    | bk ρ m' => simp only [e] at q; exact q.elim
    | ct ρ m' => simp only [e] at q; exact q.elim
    | nx ρ m' => simp only [e] at q; exact fun σ' H' μ' x hH' hS' => q _ H' μ' x hH' (by simp [RV])
    | rt d m' => simp only [e] at q; exact fun v H' μ' x hH' r' => q v H' μ' x hH' r'
end
end FL

set_option maxRecDepth 100000
namespace FL
open PySem PySem.Spec PyProof.Rows L2

/-! ### dicts whose keys are written tuples -/
section
variable {K : PySem.W.Frag} {H : Hp} {μ : Mu} {m : Me}
theorem dT_of (hH : RH K H μ m) {i : Nat} {v : V} (r : RV K H μ (.ref i) v) {kvs : List (List Key × D)} (e : m[i]? = some (.dT kvs)) : ∃ a ps, v = .ref a ∧ μ.l[i]? = some a ∧ H a = some (.dT ps) ∧ RVq K H μ kvs ps := by
  simp only [RV] at r
  obtain ⟨a, rfl, ha⟩ := r
  obtain ⟨a', e', ps, h1, h2⟩ := hH.at' i _ e
  rw [ha] at e'; cases e'
  exact ⟨a, ps, rfl, ha, h1, h2⟩
/-- the entry at a tuple: none if it is no such dict -/
def lookT (m : Me) (d : D) (ks : List D) : Option (Option D) := match d with
  | .ref i => match m[i]? with
    | some (.dT kvs) => (keysD ks).map fun k => getK kvs k
    | _ => none
  | _ => none
def dputT (m : Me) (d : D) (ks : List D) (y : D) : Option Me := match d, keysD ks with
  | .ref i, some k => match m[i]? with
    | some (.dT kvs) => if kvs.length < 1000000 then some (m.set i (.dT (setK kvs k y))) else none
    | _ => none
  | _, _ => none
theorem lookT_of {d : D} {ks : List D} {v : V} {us : List V} {b : Addr} {o : Option D} (hH : RH K H μ m) (r : RV K H μ d v) (rk : RVs K H μ ks us) (hb : H b = some (.tup us)) (e : lookT m d ks = some o) :
    ∃ a, v = .ref a ∧ match o with
      | some y => ∃ z, DGet H a (.ref b) (some z) ∧ RV K H μ y z
      | none => DGet H a (.ref b) none := by
  obtain ⟨i, kvs, rfl, ei, e⟩ : ∃ i kvs, d = .ref i ∧ m[i]? = some (.dT kvs) ∧ (keysD ks).map (fun k => getK kvs k) = some o := by
    cases d with
    | ref i =>
      cases ei : m[i]? with
      | none => simp [lookT, ei] at e
      | some c =>
        cases c with
        | dT kvs => simp only [lookT, ei] at e; exact ⟨i, kvs, rfl, ei, e⟩
        | _ => simp [lookT, ei] at e
    | _ => simp [lookT] at e
  obtain ⟨k, e2, e3⟩ := Option.map_eq_some_iff.mp e
  obtain ⟨a, ps, rfl, ha, h1, h2⟩ := dT_of hH r ei
  have g := rvq_get (k := k) h2
  have ek := keysD_rv rk e2
  subst ek
  refine ⟨a, rfl, ?_⟩
  rw [e3] at g
  cases o with
  | none => have := DGet.t h1 hb; rw [g] at this; exact this
  | some y => obtain ⟨z, h3, h4⟩ := g; exact ⟨z, by have := DGet.t h1 hb; rw [h3] at this; exact this, h4⟩
theorem dputT_of {m' : Me} {d y : D} {ks : List D} {v z : V} {us : List V} {b : Addr} (hH : RH K H μ m) (r : RV K H μ d v) (rk : RVs K H μ ks us) (hb : H b = some (.tup us)) (ry : RV K H μ y z) (e : dputT m d ks y = some m') :
    ∃ a H', v = .ref a ∧ DPut H a (.ref b) z H' ∧ Ext K H μ H' μ ∧ RH K H' μ m' := by
  unfold dputT at e
  split at e
  case h_2 => cases e
  rename_i i k ek
  split at e
  case h_2 => cases e
  rename_i kvs ei
  split at e
  case isFalse => cases e
  rename_i hl
  cases e
  obtain ⟨a, ps, rfl, ha, h1, h2⟩ := dT_of hH r ei
  have ek' := keysD_rv rk ek
  subst ek'
  have hlen : ps.length < sizeLine := by rw [← rvq_len h2, sizeLine_eq]; omega
  have x := Ext.wr (o := .dT (putK ps k z)) hH ha
  refine ⟨a, _, rfl, DPut.t h1 hb hlen, x, hH.wr ha ⟨_, upd_same, ?_⟩⟩
  exact L2.Paired.mapP (rvq_set ry h2) fun p q z => ⟨z.1, RV.ext x _ _ z.2⟩
end
section
variable {X : Cx} {W : WX} {o i e value : Expr} {es : List Expr} {pos pos' tpos apos cpos : Pos} {fo fv : ME} {fa : MA} {n : Nat} {x1 : Nat}
/-- what the key's tuple leaves: a new object -/
theorem key_new {fa : MA} {R : Hp → Mu → D → V → Prop} {Ex : WX} {H : Hp} {μ : Mu} {m : Me} {ds : List D} {vs : List V} (hH : RH X.K H μ m) (r : RVs X.K H μ ds vs) {p : Addr} (hp : H p = none) :
    Ext X.K H μ (upd H p (.tup vs)) μ ∧ RH X.K (upd H p (.tup vs)) μ m ∧ RVs X.K (upd H p (.tup vs)) μ ds vs ∧ upd H p (.tup vs) p = some (.tup vs) ∧ p ∉ μ.l :=
  have ex := Ext.new (o := .tup vs) hH hp
  ⟨ex, hH.new hp, RVs.ext ex _ _ r, upd_same, hH.notin hp⟩
/-- d[a, b] -/
def mDgetT (fo : ME) (fa : MA) : ME := fun ρ m => (fo ρ m).bind fun d m => (fa ρ m).bind fun ks m => match lookT m d ks with
  | some (some y) => .ok y m
  | _ => .no
theorem pd_dgetT (hu : X.A.units + 1 < cLine) (ho : PD X W o fo) (ha : PDA X W n es fa) (hn : n ≤ 1000 := by decide) (hs : NoSl (.Tuple es x1 tpos) := by exact fun _ _ => rfl) : PD X W (.Subscript o (.Tuple es x1 tpos) pos) (mDgetT fo fa) :=
  PE.imp (pe_dget hu ho (pe_tup ha) hs) fun σ H Q ⟨μ, ρ, m, hH, hS, q⟩ => by
    refine seqR q hH hS fun d m1 v H1 μ1 e1 hH1 r1 hS1 q1 => ?_
    refine seqR q1 hH1 hS1 fun ks m2 us H2 μ2 e2 hH2 r2 hS2 q2 => ?_
    have hl := r2.1.length
    refine ⟨by rw [← hl, r2.2]; exact le_line hn, fun p hp => ?_⟩
    obtain ⟨ex, hH3, r3, hb, hpn⟩ := key_new (fa := fa) (R := RVv X.K) (Ex := W) hH2 r2.1 hp
    split at q2
    case h_2 => exact q2.elim
    rename_i y ey
    obtain ⟨a, rfl, z, h1, h2⟩ := lookT_of hH3 (RV.ext ex _ _ (RV.ext e2 d v r1)) r3 hb ey
    exact ⟨a, z, rfl, h1, q2 z _ μ2 ex hH3 h2⟩
/-- (a, b) in d -/
def mDinT (neg : Bool) (fa : MA) (fo : ME) : ME := fun ρ m => (fa ρ m).bind fun ks m => (fo ρ m).bind fun d m => match lookT m d ks with
  | some o => .ok (.bl (if neg then !o.isSome else o.isSome)) m
  | none => .no
theorem tup_stay {K : PySem.W.Frag} {H H' : Hp} {μ μ' : Mu} {us : List V} {p : Addr} (x : Ext K H μ H' μ') (hp : p ∉ μ.l) (h : H p = some (.tup us)) : H' p = some (.tup us) := (x.dat p (.tup us) hp trivial h).1
theorem pc_inT (hu : X.A.units + 1 < cLine) (ha : PDA X W n es fa) (ho : PD X W o fo) (hn : n ≤ 1000 := by decide) : PC X .In (.Tuple es x1 tpos) o (tR X.K W (RVv X.K) (mDinT false fa fo)) :=
  ⟨fun pins s σ H Q I h => (pc_din hu (pe_tup ha) ho).run pins s σ H Q I (by
    obtain ⟨μ, ρ, m, hH, hS, q⟩ := h
    refine seqR q hH hS fun ks m1 us H1 μ1 e1 hH1 r1 hS1 q1 => ?_
    have hl := r1.1.length
    refine ⟨by rw [← hl, r1.2]; exact le_line hn, fun p hp => ?_⟩
    obtain ⟨ex, hH1', r1', hb, hpn⟩ := key_new (fa := fa) (R := RVv X.K) (Ex := W) hH1 r1.1 hp
    refine seqR (q1.ext ex) hH1' (hS1.ext ex) fun d m2 v H2 μ2 e2 hH2 r2 hS2 q2 => ?_
    split at q2
    case h_2 => exact q2.elim
    rename_i oo eo
    obtain ⟨a, rfl, h1⟩ := lookT_of hH2 r2 (RVs.ext e2 _ _ r1') (tup_stay e2 hpn hb) eo
    cases oo with
    | none => exact ⟨a, none, rfl, h1, q2 _ H2 μ2 .refl hH2 (by simp [RV])⟩
    | some y => obtain ⟨z, h1, _⟩ := h1; exact ⟨a, some z, rfl, h1, q2 _ H2 μ2 .refl hH2 (by simp [RV])⟩)⟩
theorem pc_notinT (hu : X.A.units + 1 < cLine) (ha : PDA X W n es fa) (ho : PD X W o fo) (hn : n ≤ 1000 := by decide) : PC X .NotIn (.Tuple es x1 tpos) o (tR X.K W (RVv X.K) (mDinT true fa fo)) :=
  ⟨fun pins s σ H Q I h => (pc_dnotin hu (pe_tup ha) ho).run pins s σ H Q I (by
    obtain ⟨μ, ρ, m, hH, hS, q⟩ := h
    refine seqR q hH hS fun ks m1 us H1 μ1 e1 hH1 r1 hS1 q1 => ?_
    have hl := r1.1.length
    refine ⟨by rw [← hl, r1.2]; exact le_line hn, fun p hp => ?_⟩
    obtain ⟨ex, hH1', r1', hb, hpn⟩ := key_new (fa := fa) (R := RVv X.K) (Ex := W) hH1 r1.1 hp
    refine seqR (q1.ext ex) hH1' (hS1.ext ex) fun d m2 v H2 μ2 e2 hH2 r2 hS2 q2 => ?_
    split at q2
    case h_2 => exact q2.elim
    rename_i oo eo
    obtain ⟨a, rfl, h1⟩ := lookT_of hH2 r2 (RVs.ext e2 _ _ r1') (tup_stay e2 hpn hb) eo
    cases oo with
    | none => exact ⟨a, none, rfl, h1, q2 _ H2 μ2 .refl hH2 (by simp [RV])⟩
    | some y => obtain ⟨z, h1, _⟩ := h1; exact ⟨a, some z, rfl, h1, q2 _ H2 μ2 .refl hH2 (by simp [RV])⟩)⟩
theorem pd_dinT (hu : X.A.units + 1 < cLine) (ha : PDA X W n es fa) (ho : PD X W o fo) (hn : n ≤ 1000 := by decide) (h1 : behindInMarks .In o = false := by rfl) : PD X W (.Compare (.Tuple es x1 tpos) [.In] [o] pos) (mDinT false fa fo) := pe_cmp (pc_inT hu ha ho hn) h1
theorem pd_dnotinT (hu : X.A.units + 1 < cLine) (ha : PDA X W n es fa) (ho : PD X W o fo) (hn : n ≤ 1000 := by decide) (h1 : behindInMarks .NotIn o = false := by rfl) : PD X W (.Compare (.Tuple es x1 tpos) [.NotIn] [o] pos) (mDinT true fa fo) := pe_cmp (pc_notinT hu ha ho hn) h1
theorem pdt_dinT (hu : X.A.units + 1 < cLine) (ha : PDA X W n es fa) (ho : PD X W o fo) (hn : n ≤ 1000 := by decide) (h1 : behindInMarks .In o = false := by rfl) : PDT X W (.Compare (.Tuple es x1 tpos) [.In] [o] pos) (mB (mDinT false fa fo)) := PT.imp (pt_cmp (pc_inT hu ha ho hn) h1) fun σ H Q h => tB_imp h
theorem pdt_dnotinT (hu : X.A.units + 1 < cLine) (ha : PDA X W n es fa) (ho : PD X W o fo) (hn : n ≤ 1000 := by decide) (h1 : behindInMarks .NotIn o = false := by rfl) : PDT X W (.Compare (.Tuple es x1 tpos) [.NotIn] [o] pos) (mB (mDinT true fa fo)) := PT.imp (pt_cmp (pc_notinT hu ha ho hn) h1) fun σ H Q h => tB_imp h
/-- d[a, b] = v -/
def sDputT (fo : ME) (fa : MA) (fv : ME) : MS := fun ρ m => bindS (fv ρ m) ρ fun y m => bindS (fo ρ m) ρ fun d m => bindS (fa ρ m) ρ fun ks m => match dputT m d ks y with
  | some m' => .nx ρ m'
  | none => .no
theorem pds_dputT (hu : X.A.units + 1 < cLine) (ho : PD X W o fo) (ha : PDA X W n es fa) (hv : PD X W value fv) (hn : n ≤ 1000 := by decide) (hs : swapsWith value (some (.Subscript o (.Tuple es x1 tpos) pos')) pos.line X.env = pure false := by rfl) : PDS X W (.Assign [.Subscript o (.Tuple es x1 tpos) pos'] value pos) (sDputT fo fa fv) :=
  PS.imp (ps_dput hu ho (pe_tup ha) hv hs) fun D σ H ⟨μ, ρ, m, hH, hS, q⟩ => by
    refine seqS q hH hS fun y m1 z H1 μ1 e1 hH1 r1 hS1 q1 => ?_
    refine seqS q1 hH1 hS1 fun d m2 v H2 μ2 e2 hH2 r2 hS2 q2 => ?_
    refine seqS q2 hH2 hS2 fun ks m3 us H3 μ3 e3 hH3 r3 hS3 q3 => ?_
    have hl := r3.1.length
    refine ⟨by rw [← hl, r3.2]; exact le_line hn, fun p hp => ?_⟩
    obtain ⟨ex, hH4, r4, hb, hpn⟩ := key_new (fa := fa) (R := RVv X.K) (Ex := W) hH3 r3.1 hp
    cases e4 : dputT m3 d ks y with
    | none => rw [e4] at q3; exact q3.elim
    | some m' =>
      rw [e4] at q3
      obtain ⟨a, H5, rfl, h1, x, h2⟩ := dputT_of hH4 (RV.ext ex _ _ (RV.ext e3 d v r2)) r4 hb (RV.ext ex _ _ (RV.ext e3 y z (RV.ext e2 y z r1))) e4
      exact ⟨a, H5, rfl, h1, q3 σ H5 μ3 (ex.trans x) h2 ((hS3.ext ex).ext x)⟩
end
end FL

set_option maxRecDepth 100000
namespace FL
open PySem PySem.Spec PyProof.Rows L2

section
variable {X : Cx} {W : WX} {a b c o e : Expr} {es : List Expr} {pos apos cpos : Pos} {fa fb fc fo fe : ME}
/-! ### a < b < c -/
def mChain (g g' : D → D → Me → Res D) (fa fb fc : ME) : ME := fun ρ m => (fa ρ m).bind fun d m => (fb ρ m).bind fun d' m => (g d d' m).bind fun z m => match z with
  | .bl true => (fc ρ m).bind fun d'' m => g' d' d'' m
  | .bl false => .ok (.bl false) m
  | _ => .no
theorem okQ {α β γ δ : Type} {K : PySem.W.Frag} {Ex : XK} {H : Hp} {μ : Mu} {R : Hp → Mu → α → β → Prop} {R' : Hp → Mu → γ → δ → Prop} {Q1 : β → Hp → Prop} {Q : δ → Hp → Prop} {r : Res α} {f : α → Me → Res γ} (q : Ok K Ex H μ R' Q (r.bind f))
    (h : ∀ a m v H1 μ1, Ext K H μ H1 μ1 → RH K H1 μ1 m → R H1 μ1 a v → Ok K Ex H1 μ1 R' Q (f a m) → Q1 v H1) : Ok K Ex H μ R Q1 r ∨ ∃ x m, r = .exc x m := by
  cases r with
  | no => exact q.elim
  | exc x m => exact .inr ⟨x, m, rfl⟩
  | ok a m => exact .inl fun v H1 μ1 x hH1 r1 => h a m v H1 μ1 x hH1 r1 (q.ext x)
theorem chain_imp {r r' : R2} {g g' : D → D → Me → Res D} (hg : G2 X.K r g) (hg' : G2 X.K r' g') (hne : ∀ d d' m x m', g d d' m ≠ .exc x m') {σ : L2.St} {H : Hp} {Q : VK} (h : tR X.K W (RVv X.K) (mChain g g' fa fb fc) σ H Q) :
    tChain r r' (tR X.K W (RVv X.K) fa) (tR X.K W (RVv X.K) fb) (tR X.K W (RVv X.K) fc) σ H Q := by
  obtain ⟨μ, ρ, m, hH, hS, q⟩ := h
  refine seqR q hH hS fun d m1 v H1 μ1 e1 hH1 r1 hS1 q1 => ?_
  refine seqR q1 hH1 hS1 fun d' m2 v' H2 μ2 e2 hH2 r2 hS2 q2 => ?_
  refine hg (fun c d H' => W c d σ H') H2 μ2 m2 d d' v v' _ hH2 (RV.ext e2 _ _ r1) r2 ?_
  have hk : ∀ z m3 u H3 μ3, Ext X.K H2 μ2 H3 μ3 → RH X.K H3 μ3 m3 → RVv X.K H3 μ3 z u → Ok X.K (fun c d H' => W c d σ H') H3 μ3 (RVv X.K) Q (match z with
      | .bl true => (fc ρ m3).bind fun d'' m => g' d' d'' m
      | .bl false => .ok (.bl false) m3
      | _ => .no) → ∃ k, u = .bl k ∧ (if k = true then tR X.K W (RVv X.K) fc σ H3 fun w' H4 => r' v' w' H4 Q else Q (.bl false) H3) := by
    intro z m3 u H3 μ3 e3 hH3 r3 q3
    cases z with
    | bl k =>
      simp only [RVv, RV] at r3
      subst r3
      refine ⟨k, rfl, ?_⟩
      cases k with
      | true =>
        rw [if_pos rfl]
        refine seqR q3 hH3 (hS2.ext e3) fun d'' m4 w H4 μ4 e4 hH4 r4 hS4 q4 => ?_
        exact hg' (fun c d H' => W c d σ H') H4 μ4 m4 d' d'' v' w _ hH4 (RV.ext e4 _ _ (RV.ext e3 _ _ r2)) r4 q4
      | false => rw [if_neg Bool.false_ne_true]; exact q3 _ H3 μ3 .refl hH3 (by simp [RV])
    | _ => exact q3.elim
  rcases okQ q2 hk with h | ⟨x, m', he⟩
  · exact h
  · exact absurd he (hne _ _ _ _ _)
theorem gII_ne {C : Int → Int → Prop} [∀ i j, Decidable (C i j)] {f : Int → Int → D} (d d' : D) (m : Me) (x : Exn) (m' : Me) : gII C f d d' m ≠ .exc x m' := by
  unfold gII
  split
  · split <;> intro h <;> cases h
  · intro h; cases h
theorem pd_chain {op op' : CmpOp} {r r' : R2} {g g' : D → D → Me → Res D} (ho : OpR X (compareOp op) r) (hg : G2 X.K r g) (ho' : OpR X (compareOp op') r') (hg' : G2 X.K r' g') (hne : ∀ d d' m x m', g d d' m ≠ .exc x m') (ha : PD X W a fa) (hb : PD X W b fb) (hc : PD X W c fc)
    (hm : lastMarks [op, op'] [b, c] = false := by with_unfolding_all rfl) : PD X W (.Compare a [op, op'] [b, c] pos) (mChain g g' fa fb fc) :=
  PE.imp (pe_chain ho ho' ha hb hc hm) fun σ H Q h => chain_imp hg hg' hne h
theorem pdt_chain {op op' : CmpOp} {r r' : R2} {g g' : D → D → Me → Res D} (ho : OpR X (compareOp op) r) (hg : G2 X.K r g) (ho' : OpR X (compareOp op') r') (hg' : G2 X.K r' g') (hne : ∀ d d' m x m', g d d' m ≠ .exc x m') (ha : PD X W a fa) (hb : PD X W b fb) (hc : PD X W c fc)
    (hm : lastMarks [op, op'] [b, c] = false := by with_unfolding_all rfl) : PDT X W (.Compare a [op, op'] [b, c] pos) (mB (mChain g g' fa fb fc)) :=
  PT.imp (pt_chain ho ho' ha hb hc hm) fun σ H Q h => chain_imp hg hg' hne (tB_imp h)
theorem ne_lt (d d' : D) (m : Me) (x : Exn) (m' : Me) : gLt d d' m ≠ .exc x m' := gII_ne d d' m x m'
theorem ne_le (d d' : D) (m : Me) (x : Exn) (m' : Me) : gLe d d' m ≠ .exc x m' := gII_ne d d' m x m'
/-! ### max, min -/
def maxI : List Int → Option Int
  | [] => none
  | a :: r => some (r.foldl (fun x y => if y > x then y else x) a)
def minI : List Int → Option Int
  | [] => none
  | a :: r => some (r.foldl (fun x y => if y < x then y else x) a)
theorem foldmax (r : List Int) : ∀ a : Int, a ≤ r.foldl (fun x y => if y > x then y else x) a ∧ (∀ y ∈ r, y ≤ r.foldl (fun x y => if y > x then y else x) a) ∧ (r.foldl (fun x y => if y > x then y else x) a = a ∨ r.foldl (fun x y => if y > x then y else x) a ∈ r) := by
  induction r with
  | nil => intro a; simp
  | cons b r ih =>
    intro a
    rw [List.foldl_cons]
    obtain ⟨h1, h2, h3⟩ := ih (if b > a then b else a)
    by_cases q : b > a
    · rw [if_pos q] at h1 h2 h3 ⊢
      refine ⟨by omega, fun y hy => ?_, .inr ?_⟩
      · rcases List.mem_cons.mp hy with rfl | hy
        · exact h1
        · exact h2 y hy
      · rcases h3 with h3 | h3
        · rw [h3]; exact List.mem_cons_self
        · exact List.mem_cons_of_mem _ h3
    · rw [if_neg q] at h1 h2 h3 ⊢
      refine ⟨h1, fun y hy => ?_, ?_⟩
      · rcases List.mem_cons.mp hy with rfl | hy
        · omega
        · exact h2 y hy
      · rcases h3 with h3 | h3
        · exact .inl h3
        · exact .inr (List.mem_cons_of_mem _ h3)
theorem foldmin (r : List Int) : ∀ a : Int, r.foldl (fun x y => if y < x then y else x) a ≤ a ∧ (∀ y ∈ r, r.foldl (fun x y => if y < x then y else x) a ≤ y) ∧ (r.foldl (fun x y => if y < x then y else x) a = a ∨ r.foldl (fun x y => if y < x then y else x) a ∈ r) := by
  induction r with
  | nil => intro a; simp
  | cons b r ih =>
    intro a
    rw [List.foldl_cons]
    obtain ⟨h1, h2, h3⟩ := ih (if b < a then b else a)
    by_cases q : b < a
    · rw [if_pos q] at h1 h2 h3 ⊢
      refine ⟨by omega, fun y hy => ?_, .inr ?_⟩
      · rcases List.mem_cons.mp hy with rfl | hy
        · exact h1
        · exact h2 y hy
      · rcases h3 with h3 | h3
        · rw [h3]; exact List.mem_cons_self
        · exact List.mem_cons_of_mem _ h3
    · rw [if_neg q] at h1 h2 h3 ⊢
      refine ⟨h1, fun y hy => ?_, ?_⟩
      · rcases List.mem_cons.mp hy with rfl | hy
        · omega
        · exact h2 y hy
      · rcases h3 with h3 | h3
        · exact .inl h3
        · exact .inr (List.mem_cons_of_mem _ h3)
theorem maxI_is {ns : List Int} {k : Int} (h : maxI ns = some k) : k ∈ ns ∧ ∀ y ∈ ns, y ≤ k := by
  cases ns with
  | nil => cases h
  | cons a r =>
    obtain ⟨h1, h2, h3⟩ := foldmax r a
    simp only [maxI, Option.some.injEq] at h
    rw [h] at h1 h2 h3
    refine ⟨?_, fun y hy => ?_⟩
    · rcases h3 with h3 | h3
      · rw [h3]; exact List.mem_cons_self
      · exact List.mem_cons_of_mem _ h3
    · rcases List.mem_cons.mp hy with rfl | hy
      · exact h1
      · exact h2 y hy
theorem minI_is {ns : List Int} {k : Int} (h : minI ns = some k) : k ∈ ns ∧ ∀ y ∈ ns, k ≤ y := by
  cases ns with
  | nil => cases h
  | cons a r =>
    obtain ⟨h1, h2, h3⟩ := foldmin r a
    simp only [minI, Option.some.injEq] at h
    rw [h] at h1 h2 h3
    refine ⟨?_, fun y hy => ?_⟩
    · rcases h3 with h3 | h3
      · rw [h3]; exact List.mem_cons_self
      · exact List.mem_cons_of_mem _ h3
    · rcases List.mem_cons.mp hy with rfl | hy
      · exact h1
      · exact h2 y hy
def gMaxL (ds : List D) (m : Me) : Res D := match ds with
  | [d] => match ((lstV m d).bind intsD).bind maxI with
    | some k => .ok (.int k) m
    | none => .no
  | _ => .no
def gMinL (ds : List D) (m : Me) : Res D := match ds with
  | [d] => match ((lstV m d).bind intsD).bind minI with
    | some k => .ok (.int k) m
    | none => .no
  | _ => .no
theorem g_maxL {K : PySem.W.Frag} : GC K (rMax K) gMaxL := fun Ex H μ m ds vs Q hH rr q => by
  unfold gMaxL at q
  split at q
  · obtain ⟨v, rfl, r⟩ := rvs1 rr
    split at q
    · rename_i d k e
      obtain ⟨ns, e0, e3⟩ := Option.bind_eq_some_iff.mp e
      obtain ⟨xs, e1, e2⟩ := Option.bind_eq_some_iff.mp e0
      obtain ⟨a, vs, rfl, s1, z1, w1⟩ := lstV_of hH r e1
      have := intsD_rv w1 e2; subst this
      obtain ⟨h1, h2⟩ := maxI_is e3
      refine ⟨a, ns, rfl, .of s1, List.length_pos_of_mem h1, fun m' hm hle => ?_⟩
      have : m' = k := Int.le_antisymm (h2 m' hm) (hle k h1)
      subst this
      exact q _ H μ .refl hH (by simp [RV])
    · exact q.elim
  · exact q.elim
theorem g_minL {K : PySem.W.Frag} : GC K (rMin K) gMinL := fun Ex H μ m ds vs Q hH rr q => by
  unfold gMinL at q
  split at q
  · obtain ⟨v, rfl, r⟩ := rvs1 rr
    split at q
    · rename_i d k e
      obtain ⟨ns, e0, e3⟩ := Option.bind_eq_some_iff.mp e
      obtain ⟨xs, e1, e2⟩ := Option.bind_eq_some_iff.mp e0
      obtain ⟨a, vs, rfl, s1, z1, w1⟩ := lstV_of hH r e1
      have := intsD_rv w1 e2; subst this
      obtain ⟨h1, h2⟩ := minI_is e3
      refine ⟨a, ns, rfl, .of s1, List.length_pos_of_mem h1, fun m' hm hle => ?_⟩
      have : m' = k := Int.le_antisymm (hle k h1) (h2 m' hm)
      subst this
      exact q _ H μ .refl hH (by simp [RV])
    · exact q.elim
  · exact q.elim
def gMin2 (ds : List D) (m : Me) : Res D := match ds with
  | [.int i, .int j] => .ok (.int (if j < i then j else i)) m
  | _ => .no
theorem g_min2 {K : PySem.W.Frag} : GC K (fun xs H Q => ∃ i j, xs = [.int i, .int j] ∧ Q (.int (if j < i then j else i)) H) gMin2 := fun Ex H μ m ds vs Q hH rr q => by
  unfold gMin2 at q
  split at q
  · have := ints2 rr; subst this
    exact ⟨_, _, rfl, q _ H μ .refl hH (by simp [RV])⟩
  · exact q.elim
/-! ### pop, remove, count -/
def mPop (fo : ME) : ME := fun ρ m => (fo ρ m).bind fun d m => match d with
  | .ref i => match m[i]? with
    | some (.lst xs) => match xs[xs.length - 1]? with
      | some y => .ok y (m.set i (.lst xs.dropLast))
      | none => .no
    | _ => .no
  | _ => .no
theorem rvs_dropLast {K : PySem.W.Frag} {H : Hp} {μ : Mu} {ds : List D} {vs : List V} (r : RVs K H μ ds vs) : RVs K H μ ds.dropLast vs.dropLast := by
  rw [List.dropLast_eq_take, List.dropLast_eq_take, r.length]; exact r.take _
theorem pd_pop (ho : PD X W o fo) (hbase : attributeBase o "pop" X.env (eval o X.env) = eval o X.env := by rfl) (hline : (apos.endLine == cpos.line) = true := by rfl) : PD X W (.Call (.Attribute o "pop" apos) [] [] cpos) (mPop fo) :=
  PE.imp (pe_bm0 PySem.F.plainAttrs_list PySem.F.slot_list_pop PySem.F.type_list_pop mt_pop ho hbase hline) fun σ H Q ⟨μ, ρ, m, hH, hS, q⟩ => by
    refine seqR q hH hS fun d m1 v H1 μ1 e1 hH1 r1 hS1 q1 => ?_
    cases d with
    | ref i =>
      simp only [RVv, RV] at r1
      obtain ⟨a, rfl, ha⟩ := r1
      cases e2 : m1[i]? with
      | none => simp only [e2] at q1; exact q1.elim
      | some c =>
        cases c with
        | lst xs =>
          simp only [e2] at q1
          obtain ⟨a', ea, vs, hs, hz, hr⟩ := hH1.at' i _ e2
          rw [ha] at ea; cases ea
          cases e3 : xs[xs.length - 1]? with
          | none => simp only [e3] at q1; exact q1.elim
          | some y =>
            simp only [e3] at q1
            obtain ⟨w, h1, h2⟩ := hr.get e3
            have ex := Ext.wr (o := .lst vs.dropLast) hH1 ha
            refine ⟨.inl ⟨rfl, vs, .of hs⟩, a, vs, w, rfl, rfl, hs, by rw [← hr.length]; exact h1, q1 _ _ μ1 ex (hH1.wr ha ⟨_, upd_same, ?_, RVs.ext ex _ _ (rvs_dropLast hr)⟩) (RV.ext ex _ _ h2)⟩
            rw [List.length_dropLast]; omega
        | _ => simp only [e2] at q1; exact q1.elim
    | _ => exact q1.elim
def idxI (k : Int) : List Int → Option Nat
  | [] => none
  | a :: r => if a = k then some 0 else (idxI k r).map (· + 1)
theorem idxI_is {k : Int} : ∀ {ns : List Int} {j : Nat}, idxI k ns = some j → ns[j]? = some k ∧ ∀ m, m < j → ns[m]? ≠ some k
  | [], _, h => by cases h
  | a :: r, j, h => by
    simp only [idxI] at h
    split at h
    · rename_i q; cases h; subst q; exact ⟨rfl, fun m hm => by omega⟩
    · rename_i q
      obtain ⟨j', e, rfl⟩ := Option.map_eq_some_iff.mp h
      obtain ⟨h1, h2⟩ := idxI_is e
      refine ⟨h1, fun m hm => ?_⟩
      cases m with
      | zero => intro z; simp at z; exact q z
      | succ m => exact h2 m (by omega)
def mRemove (fo fe : ME) : ME := fun ρ m => (fo ρ m).bind fun d m => match d with
  | .ref i => match m[i]? with
    | some (.lst _) => (fe ρ m).bind fun y m => match y with
      | .int k => match m[i]? with
        | some (.lst xs) => match intsD xs with
          | some ns => match idxI k ns with
            | some j => .ok .non (m.set i (.lst ((ns.eraseIdx j).map .int)))
            | none => .no
          | none => .no
        | _ => .no
      | _ => .no
    | _ => .no
  | _ => .no
theorem rvs_ints {K : PySem.W.Frag} {H : Hp} {μ : Mu} : ∀ ns : List Int, RVs K H μ (ns.map D.int) (ns.map V.int)
  | [] => by simp [RVs]
  | a :: r => by simp only [List.map_cons, RVs]; exact ⟨_, _, rfl, by simp [RV], rvs_ints r⟩
theorem pd_remove (ho : PD X W o fo) (he : PD X W e fe) (hbase : attributeBase o "remove" X.env (eval o X.env) = eval o X.env := by rfl)
    (hfew : ((backTo cpos (starEach [e] X.env)).all (fun x => !x.1) && (backToKw cpos (keywordEach [] X.env)).all (fun x => x.1.isSome)
      && decide (([e] : List Expr).length + ([] : List Keyword).length + (if ([] : List Keyword).isEmpty then 0 else 1) < 30)) = true := by rfl)
    (hline : (apos.endLine == cpos.line) = true := by rfl) (hs : starEach [e] X.env = (false, eval e X.env) :: starEach [] X.env := by rfl) (hplain : (backTo cpos (starEach [] X.env)).any (·.1) = false := by rfl) :
    PD X W (.Call (.Attribute o "remove" apos) [e] [] cpos) (mRemove fo fe) :=
  PE.imp (pe_bm PySem.F.plainAttrs_list PySem.F.slot_list_remove PySem.F.type_list_remove mt_remove ho (pa_cons he pa_nil hs) hbase hfew hline hs hplain) fun σ H Q ⟨μ, ρ, m, hH, hS, q⟩ => by
    refine seqR q hH hS fun d m1 v H1 μ1 e1 hH1 r1 hS1 q1 => ?_
    cases d with
    | ref i =>
      simp only [RVv, RV] at r1
      obtain ⟨a, rfl, ha⟩ := r1
      cases e2 : m1[i]? with
      | none => simp only [e2] at q1; exact q1.elim
      | some c =>
        cases c with
        | lst xs0 =>
          simp only [e2] at q1
          obtain ⟨a', ea, vs0, hs0, _, _⟩ := hH1.at' i _ e2
          rw [ha] at ea; cases ea
          refine ⟨.inl ⟨rfl, vs0, .of hs0⟩, ?_⟩
          refine seqR q1 hH1 hS1 fun y m2 z H2 μ2 e2' hH2 r2 hS2 q2 => ?_
          split at q2
          case h_2 => exact q2.elim
          rename_i k
          simp only [RVv, RV] at r2
          subst r2
          split at q2
          case h_2 => exact q2.elim
          rename_i xs e3
          split at q2
          case h_2 => exact q2.elim
          rename_i ns e4
          split at q2
          case h_2 => exact q2.elim
          rename_i j e5
          have ha2 := e2'.get ha
          obtain ⟨a', ea, vs, hs, hz, hr⟩ := hH2.at' i _ e3
          rw [ha2] at ea; cases ea
          have := intsD_rv hr e4; subst this
          obtain ⟨h1, h2⟩ := idxI_is e5
          have ex := Ext.wr (o := .lst ((ns.eraseIdx j).map V.int)) hH2 ha2
          refine ⟨a, ns, k, j, rfl, rfl, hs, h1, h2, q2 _ _ μ2 ex (hH2.wr ha2 ⟨_, upd_same, ?_, rvs_ints _⟩) (by simp [RV])⟩
          rw [List.length_map] at hz ⊢
          have := List.length_eraseIdx_le ns j
          omega
        | _ => simp only [e2] at q1; exact q1.elim
    | _ => exact q1.elim
def mCount (fo fe : ME) : ME := fun ρ m => (fo ρ m).bind fun d m => match lstV m d with
  | some _ => (fe ρ m).bind fun y m => match y, (lstV m d).bind intsD with
    | .int k, some ns => .ok (.int (ns.count k : Nat)) m
    | _, _ => .no
  | none => .no
theorem pd_count (ho : PD X W o fo) (he : PD X W e fe) (hbase : attributeBase o "count" X.env (eval o X.env) = eval o X.env := by rfl)
    (hfew : ((backTo cpos (starEach [e] X.env)).all (fun x => !x.1) && (backToKw cpos (keywordEach [] X.env)).all (fun x => x.1.isSome)
      && decide (([e] : List Expr).length + ([] : List Keyword).length + (if ([] : List Keyword).isEmpty then 0 else 1) < 30)) = true := by rfl)
    (hline : (apos.endLine == cpos.line) = true := by rfl) (hs : starEach [e] X.env = (false, eval e X.env) :: starEach [] X.env := by rfl) (hplain : (backTo cpos (starEach [] X.env)).any (·.1) = false := by rfl) :
    PD X W (.Call (.Attribute o "count" apos) [e] [] cpos) (mCount fo fe) :=
  PE.imp (pe_bm PySem.F.plainAttrs_list PySem.F.slot_list_count PySem.F.type_list_count mt_lcount ho (pa_cons he pa_nil hs) hbase hfew hline hs hplain) fun σ H Q ⟨μ, ρ, m, hH, hS, q⟩ => by
    refine seqR q hH hS fun d m1 v H1 μ1 e1 hH1 r1 hS1 q1 => ?_
    split at q1
    case h_2 => exact q1.elim
    rename_i xs0 e2
    obtain ⟨a, vs0, rfl, s1, _, _⟩ := lstV_of hH1 r1 e2
    refine ⟨.inl ⟨rfl, vs0, .of s1⟩, ?_⟩
    refine seqR q1 hH1 hS1 fun y m2 z H2 μ2 e2' hH2 r2 hS2 q2 => ?_
    split at q2
    case h_2 => exact q2.elim
    rename_i k ns e3
    simp only [RVv, RV] at r2
    subst r2
    obtain ⟨xs, e4, e5⟩ := Option.bind_eq_some_iff.mp e3
    obtain ⟨a', vs, ea, s2, _, w1⟩ := lstV_of hH2 (RV.ext e2' _ _ r1) e4
    cases ea
    have := intsD_rv w1 e5; subst this
    exact ⟨a, ns, k, rfl, rfl, .of s2, q2 _ H2 μ2 .refl hH2 (by simp [RV])⟩
end
end FL

set_option maxRecDepth 100000
namespace FL
open PySem PySem.Spec PyProof.Rows L2

/-! ### the end, with classes -/
def spScr (K : PySem.W.Frag) : Sp := fun vs H Q _ => ∃ (a : Addr) (ns : List Int), vs = [.ref a] ∧ SqL K H a (ns.map V.int) ∧ ns.length ≤ 63 ∧ ∀ H', Q (.bl true) H'
theorem spScr_imp {K : PySem.W.Frag} {F0 : List D → Me → Res D} (L : ∀ ns : List Int, ns.length ≤ 63 → ∃ m', F0 [.scr ns] [] = .ok (.bl true) m') {vs : List V} {H : Hp} {Q : VK} {E : XK} (h : spScr K vs H Q E) : spF K 1 F0 vs H Q E := by
  obtain ⟨a, ns, rfl, hS, hl, q⟩ := h
  obtain ⟨m', e⟩ := L ns hl
  refine ⟨⟨[], []⟩, [], [.scr ns], ⟨rfl, List.nodup_nil, fun i c h => by simp at h, fun a h => by simp at h, fun a h => by simp at h⟩, ?_, rfl, ?_⟩
  · simp only [RVs, RV]
    refine ⟨.ref a, [], rfl, ⟨a, rfl, ?_⟩, rfl⟩
    rcases hS with hS | hS
    · exact .inl ⟨⟨by simp, by simp⟩, hS⟩
    · exact .inr (.inr hS)
  · rw [e]
    intro v H' μ' _ _ r
    simp only [RVv, RV] at r
    subst r
    exact q H'
theorem fn_imp {P : Program} {w : World} {K : PySem.W.Frag} {mg : Str → Option Value} {base : Heap} {k : Nat} {f : Addr} {fd : FuncData} {ps : List Str} {sp sp' : Sp} (F : FnOk P w K mg base CX0 k f fd ps sp) (h : ∀ vs H Q E, sp' vs H Q E → sp vs H Q E) : FnOk P w K mg base CX0 k f fd ps sp' :=
  ⟨fun vs H Q E q => F.len vs H Q E (h _ _ _ _ q), fun A outer s H args us vs Q E h1 h2 h3 h4 q => F.run A outer s H args us vs Q E h1 h2 h3 h4 (h _ _ _ _ q)⟩
theorem walk_fnC {l : PySem.W.OpenLaw} {q : Program} {loose : List Str} {XP : (Str → Option Value) → Heap → Prop} {YP : World → Heap → Prop} {d : DefRec} {K : Params → PySem.W.Frag} {x : Str}
    (hn : l.most = some 63) (hdf : d.params.defaults = []) (hY : ∀ (w : World) (h : Heap), YP w h → (K w.params).In h)
    (F : ∀ (w : World) (mg : Str → Option Value) (fa : Addr) (h : Heap), (K w.params).In h → h.Ns mainGlobals mg → mg d.name = some (.ref fa) →
      ∃ (fd : FuncData) (F0 : List D → Me → Res D), (∀ ns : List Int, ns.length ≤ 63 → ∃ m', F0 [.scr ns] [] = .ok (.bl true) m') ∧ (∀ (s : Shared) (u : Value), BindsTo s fd ⟨[u], []⟩ [(x, u)]) ∧
        ∀ base : Heap, (K w.params).In base → base.Ns mainGlobals mg → FnOk l.prog w (K w.params) mg base CX0 230 fa fd [x] (spF (K w.params) 1 F0)) :
    PySem.W.WalkO q loose XP YP l.row.toRowW d [] (fun f vs => PySem.call f vs) :=
  L2.walk_of (n := 63) (k := 230) (x := x) (CX := fun _ => CX0) (sp := fun w => spScr (K w.params)) hn (by decide) hdf ⟨rfl, by decide, by decide⟩ hY (fun w mg fa h h1 h2 h3 =>
    have ⟨fd, F0, L, b, G⟩ := F w mg fa h h1 h2 h3
    ⟨fd, b, fun base k1 k2 => fn_imp (G base k1 k2) fun vs H Q E z => spScr_imp L z⟩) (fun w H a ns hl _ hS => ⟨a, ns, rfl, hS, hl, fun _ => rfl⟩) fun _ _ _ _ _ z => z
end FL

set_option maxRecDepth 100000
namespace FL
open PySem PySem.Spec PyProof.Rows L2

section
variable {X : Cx} {W : WX} {o e : Expr} {apos cpos : Pos} {fo fe : ME}
/-! ### xs.extend(t), t a tuple -/
def rExtendT (K : PySem.W.Frag) : V → List V → Hp → VK → Prop := fun x vs H Q => ∃ l b xs zs, x = .ref l ∧ vs = [.ref b] ∧ H l = some (.lst xs) ∧ TupN K H b zs ∧ xs.length + zs.length ≤ sizeLine ∧ Q .non (upd H l (.lst (xs ++ zs)))
theorem tupN_obj {pins : List (Addr × Obj)} {σ : L2.St} {H : Hp} {s : Shared} {a : Addr} {ys : List V} (I : Inv X pins σ H s) (h : TupN X.K H a ys) : ∃ (its : List Value) (n : Nat), Vals ys its ∧ s.heap.get? a = some { cls := .type "tuple", dict := none, data := .seq its.toArray n, slots := #[] } := by
  rcases h with ⟨o, h, hd⟩ | ⟨o, its, n, hk, hc, hda, _, hv, hd⟩
  · obtain ⟨e, _, its, hv, ob, e2, hc, n, hda⟩ := I.hok a _ h
    rw [e] at e2; cases e2
    refine ⟨its, n, hv, ?_⟩
    rw [e]
    obtain ⟨cls, dict, data, slots⟩ := o
    obtain ⟨h1, h2⟩ := hd
    dsimp only at h1 h2 hc hda
    subst h1 h2 hc hda; rfl
  · refine ⟨its.toList, n, hv, ?_⟩
    rw [I.kIn _ o hk]
    obtain ⟨cls, dict, data, slots⟩ := o
    obtain ⟨h1, h2⟩ := hd
    dsimp only at h1 h2 hc hda
    subst h1 h2 hc hda
    rw [Array.toArray_toList]
theorem mt_extendT : MtM X "list.extend" (rExtendT X.K) := by
  intro pins s σ H x vs v us Q I rx rv h
  obtain ⟨l, b, xs, zs, rfl, rfl, hH, hB, hz, q⟩ := h
  cases rx
  obtain ⟨u, rfl, ru⟩ := rv.one
  cases ru
  obtain ⟨z, its, n, r, hl, e⟩ := I.lstM hH
  obtain ⟨its2, n2, r2, e2⟩ := tupN_obj I hB
  have hl2 := r2.length
  have hsz : its.toArray.size + its2.toArray.size ≤ sizeLine := by rw [List.size_toArray, List.size_toArray]; omega
  have hlong : ¬ (!its.toArray.isEmpty && Builtin.List.listTooLong (its.toArray.size + its2.toArray.size)) = true := by
    rw [notLongL hsz, Bool.and_false]
    exact Bool.false_ne_true
  refine call_meets F.slot_list_extend ⟨_, e, rfl⟩ F.entry_list_extend (F.args_list_extend_2 _ _)
    (AutoSeq1.list_extend_list_tuple_0 l its.toArray n b its2.toArray n2 hlong (by rw [List.size_toArray]; omega) (by omega)) ⟨e, e2, ?_⟩
  refine ⟨.non, _, I.lset (its' := its ++ its2) hH e (by simp) (r.append r2) ?_, rfl, q⟩
  rw [List.length_append]
  omega
def mExtendT (fo fe : ME) : ME := fun ρ m => (fo ρ m).bind fun d m => match d with
  | .ref i => match m[i]? with
    | some (.lst _) => (fe ρ m).bind fun y m => match m[i]?, y with
      | some (.lst xs), .tup ys => if xs.length + ys.length < 1000000 then .ok .non (m.set i (.lst (xs ++ ys))) else .no
      | _, _ => .no
    | _ => .no
  | _ => .no
theorem pd_extendT (ho : PD X W o fo) (he : PD X W e fe) (hbase : attributeBase o "extend" X.env (eval o X.env) = eval o X.env := by rfl)
    (hfew : ((backTo cpos (starEach [e] X.env)).all (fun x => !x.1) && (backToKw cpos (keywordEach [] X.env)).all (fun x => x.1.isSome)
      && decide (([e] : List Expr).length + ([] : List Keyword).length + (if ([] : List Keyword).isEmpty then 0 else 1) < 30)) = true := by rfl)
    (hline : (apos.endLine == cpos.line) = true := by rfl) (hs : starEach [e] X.env = (false, eval e X.env) :: starEach [] X.env := by rfl) (hplain : (backTo cpos (starEach [] X.env)).any (·.1) = false := by rfl) :
    PD X W (.Call (.Attribute o "extend" apos) [e] [] cpos) (mExtendT fo fe) :=
  PE.imp (pe_bm PySem.F.plainAttrs_list PySem.F.slot_list_extend PySem.F.type_list_extend mt_extendT ho (pa_cons he pa_nil hs) hbase hfew hline hs hplain) fun σ H Q ⟨μ, ρ, m, hH, hS, q⟩ => by
    refine seqR q hH hS fun d m1 v H1 μ1 e1 hH1 r1 hS1 q1 => ?_
    cases d with
    | ref i =>
      simp only [RVv, RV] at r1
      obtain ⟨a, rfl, ha⟩ := r1
      cases e2 : m1[i]? with
      | none => simp only [e2] at q1; exact q1.elim
      | some c =>
        cases c with
        | lst xs0 =>
          simp only [e2] at q1
          obtain ⟨a', ea, vs0, hs0, _, _⟩ := hH1.at' i _ e2
          rw [ha] at ea; cases ea
          refine ⟨.inl ⟨rfl, vs0, .of hs0⟩, ?_⟩
          refine seqR q1 hH1 hS1 fun y m2 z H2 μ2 e2' hH2 r2 hS2 q2 => ?_
          split at q2
          case h_2 => exact q2.elim
          rename_i xs ys e3
          split at q2
          case isFalse => exact q2.elim
          rename_i hl
          have ha2 := e2'.get ha
          obtain ⟨a', ea, vs, hs, hz, hr⟩ := hH2.at' i _ e3
          rw [ha2] at ea; cases ea
          obtain ⟨b, us, rfl, hb, hzb, hrb⟩ := rv_tup r2
          have hlen := hr.length
          have hlenb := hrb.length
          have ex := Ext.wr (o := .lst (vs ++ us)) hH2 ha2
          refine ⟨a, b, vs, us, rfl, rfl, hs, hb, by rw [sizeLine_eq]; omega, ?_⟩
          refine q2 _ _ μ2 ex (hH2.wr ha2 ⟨_, upd_same, ?_, RVs.ext ex _ _ (hr.append hrb)⟩) (by simp [RV])
          rw [List.length_append, sizeLine_eq]; omega
        | _ => simp only [e2] at q1; exact q1.elim
    | _ => exact q1.elim
/-! ### max of three -/
theorem vals3 {x y z : V} {us : List Value} (r : Vals [x, y, z] us) : ∃ a b c, us = [a, b, c] ∧ RelV x a ∧ RelV y b ∧ RelV z c := by
  cases r with
  | cons r1 r =>
    cases r with
    | cons r2 r =>
      cases r with
      | cons r3 r => cases r; exact ⟨_, _, _, rfl, r1, r2, r3⟩
def max3 (i j k : Int) : Int := if j > i then (if k > j then k else j) else (if k > i then k else i)
theorem call_max3 (hc : X.calm = true) : CallR X (.builtin "max") (fun xs H Q => ∃ i j k, xs = [.int i, .int j, .int k] ∧ Q (.int (max3 i j k)) H) := by
  intro pins s σ H xs us Q I r h
  obtain ⟨i, j, k, rfl, q⟩ := h
  obtain ⟨u, v, w', rfl, ⟨t, rfl⟩, ⟨t', rfl⟩, ⟨t'', rfl⟩⟩ := vals3 r
  refine max_three_ints (I.ok.hd hc) fun h' tk kk => ⟨_, H, I.kept kk, ?_, q⟩
  unfold max3
  by_cases h1 : j > i
  · rw [if_pos h1, if_pos h1]
    by_cases h2 : k > j
    · rw [if_pos h2, if_pos h2]; exact ⟨_, rfl⟩
    · rw [if_neg h2, if_neg h2]; exact ⟨_, rfl⟩
  · rw [if_neg h1, if_neg h1]
    by_cases h2 : k > i
    · rw [if_pos h2, if_pos h2]; exact ⟨_, rfl⟩
    · rw [if_neg h2, if_neg h2]; exact ⟨_, rfl⟩
def gMax3 (ds : List D) (m : Me) : Res D := match ds with
  | [.int i, .int j, .int k] => .ok (.int (max3 i j k)) m
  | _ => .no
theorem g_max3 {K : PySem.W.Frag} : GC K (fun xs H Q => ∃ i j k, xs = [.int i, .int j, .int k] ∧ Q (.int (max3 i j k)) H) gMax3 := fun Ex H μ m ds vs Q hH rr q => by
  unfold gMax3 at q
  split at q
  · simp only [RVs, RV] at rr
    obtain ⟨v, r, rfl, h1, v2, r2, rfl, h2, v3, r3, rfl, h3, rfl⟩ := rr
    subst h1 h2 h3
    exact ⟨_, _, _, rfl, q _ H μ .refl hH (by simp [RV])⟩
  · exact q.elim
end
end FL

set_option maxRecDepth 100000
namespace FL
open PySem PySem.Spec PyProof.Rows L2

/-! ### zip of two: ranges, lists, tuples -/
section
variable {prog : Program} {w : World} {A : Around} {E : Value → Shared → Prop} {s : Shared}
theorem nextOf_range_item {it : Addr} {x left step : Int} {Q : Value → Shared → Prop} (hit : IsRangeIter s.heap it x left step) (hleft : 0 < left)
    (hQ : ∀ h', IsRangeIter h' it (x + step) (left - 1) step → Heap.SameBut it s.heap h' → Q (.int x s.toks) { s with heap := h', toks := s.toks + 1 }) :
    wpAny (model prog w) A (Builtin.SmallTypes.nextOf (.ref it)) Q E s := by
  have hT : s.TypeIs (.ref it) "range_iterator" := ⟨_, hit, rfl⟩
  unfold Builtin.SmallTypes.nextOf
  refine wpAny_bind (wpAny_callSpecial?_slot (name := Str.ofString "__next__") hT F.slot_range_iterator_next
    (call_meets F.slot_range_iterator_next hT F.entry_range_iterator_next (F.args_range_iterator_next_1 _) (AutoRange.range_iterator___next___range_iterator_1 it x left step (by omega)) ⟨hit, ?_⟩))
  exact wpAny_pure (hQ _ (Heap.get?_update_self _ (Heap.get?_update_self _ hit rfl) rfl) ((Heap.SameBut.update ..).trans (Heap.SameBut.update ..)))
theorem nextOf_range_end {it : Addr} {x left step : Int} {Q : Value → Shared → Prop} (hh : A.handled = none) (hit : IsRangeIter s.heap it x left step) (hleft : left ≤ 0)
    (hE : ∀ h' e, Heap.ExtBut it s.heap h' → (∃ o, h'.get? e = some o ∧ o.cls = .type "StopIteration") → E (.ref e) { s with heap := h' }) :
    wpAny (model prog w) A (Builtin.SmallTypes.nextOf (.ref it)) Q E s := by
  have hT : s.TypeIs (.ref it) "range_iterator" := ⟨_, hit, rfl⟩
  unfold Builtin.SmallTypes.nextOf
  refine wpAny_bind (wpAny_callSpecial?_slot (name := Str.ofString "__next__") hT F.slot_range_iterator_next
    (wpAny_call_entry F.slot_range_iterator_next hT F.entry_range_iterator_next ?_ (F.args_range_iterator_next_1 _)))
  show wpAny _ _ (field (.ref it) 0 >>= _) _ _ s
  refine wpAny_bind (wpAny_field hit rfl (x := rawInt x) rfl ?_)
  show wpAny _ _ (field (.ref it) 1 >>= _) _ _ s
  refine wpAny_bind (wpAny_field hit rfl (x := rawInt left) rfl ?_)
  show wpAny _ _ (field (.ref it) 2 >>= _) _ _ s
  refine wpAny_bind (wpAny_field hit rfl (x := rawInt step) rfl ?_)
  show wpAny _ _ (if left ≤ 0 then _ else _) _ _ s
  rw [if_pos hleft]
  refine wpAny_bind (wpAny_rule ?_)
  refine wpAny_bind ?_
  show wpAny _ _ (newExc (.type "StopIteration") [] >>= _) _ _ _
  refine wpAny_bind ?_
  simp only [newExc, newTuple]
  refine wpAny_bind (wpAny_newObj_type ?_ (by size_fits))
  refine wpAny_bind (m := firstArgMember _ _) (wpAny_of_eq (a := Value.none) (by first | rfl | (simp only [firstArgMember]; rfl)) ?_)
  refine wpAny_newObj_type ?_ (by size_fits)
  simp only [raiseNew]
  refine wpAny_bind (wpAny_handled ?_)
  first | rw [show A.in1.handled = none from hh] | rw [hh]
  refine wpAny_bind (wpAny_pure (wpAny_throw ?_))
  exact hE _ _ (((Heap.ExtBut.refl it s.heap).push _).push _) ⟨_, Heap.get?_push_size _ rfl, rfl⟩
end
theorem draws_range {prog : Program} {w : World} {A : Around} (hh : A.handled = none) (it : Addr) (lo : Int) (n : Nat) :
    Draws prog w A it [it] n (fun i v => ∃ t, v = .int (lo + (i : Nat)) t) (fun i h => IsRangeIter h it (lo + (i : Nat)) ((n : Int) - (i : Nat)) 1) where
  live := fun _ _ st => ⟨_, st⟩
  frame := fun _ _ _ st hk => hk it (by simp) _ st
  item := fun i s Q E hi st hQ => by
    refine nextOf_range_item st (by omega) fun h' st' sb => hQ _ h' _ ⟨_, rfl⟩ ?_ sb
    have e1 : lo + ((i + 1 : Nat) : Int) = lo + (i : Nat) + 1 := by omega
    have e2 : (n : Int) - ((i + 1 : Nat) : Int) = (n : Int) - (i : Nat) - 1 := by omega
    rw [e1, e2]; exact st'
  done := fun s Q E st hE => nextOf_range_end hh st (by omega) hE

/-- what is zipped -/
inductive Src
  | rng (lo : Int) (n : Nat)
  | lst (a : Addr)
  | tup (a : Addr)
def Src.at : Src → Option Addr
  | .rng _ _ => none
  | .lst a => some a
  | .tup a => some a
def Src.st (k : Src) (it : Addr) (i : Nat) (h : Heap) : Prop := match k with
  | .rng lo n => IsRangeIter h it (lo + (i : Nat)) ((n : Int) - (i : Nat)) 1
  | .lst a => h.IsListIter it a i
  | .tup a => h.IsTupleIter it a i
def rngV (lo : Int) (n : Nat) : List V := (List.range n).map fun (k : Nat) => .int (lo + k)
def Src.has (K : PySem.W.Frag) (H : Hp) (k : Src) (vs : List V) : Prop := match k with
  | .rng lo n => vs = rngV lo n
  | .lst a => SqL K H a vs
  | .tup a => SqT K H a vs
theorem Src.st_obj {k : Src} {it : Addr} {i : Nat} {h : Heap} (s : k.st it i h) : ∃ o, h.get? it = some o ∧ ∀ v, o.data ≠ .cell v := by
  cases k with
  | rng lo n => exact ⟨_, s, fun v z => by have z' : Data.fields _ = Data.cell v := z; cases z'⟩
  | lst a => obtain ⟨o, e, _, d⟩ := s; exact ⟨o, e, fun v z => by rw [d] at z; cases z⟩
  | tup a => obtain ⟨o, e, _, d⟩ := s; exact ⟨o, e, fun v z => by rw [d] at z; cases z⟩
theorem Src.st_keep {k : Src} {it : Addr} {i : Nat} {h h' : Heap} (s : k.st it i h) (q : ∀ o, h.get? it = some o → h'.get? it = some o) : k.st it i h' := by
  cases k with
  | rng lo n => exact q _ s
  | lst a => exact s.at q
  | tup a => exact s.at q
theorem Src.has_inj {X : Cx} {pins : List (Addr × Obj)} {σ : L2.St} {H : Hp} {s : Shared} (I : Inv X pins σ H s) {k : Src} {xs ys : List V} (h1 : k.has X.K H xs) (h2 : k.has X.K H ys) : xs = ys := by
  cases k with
  | rng lo n => exact h1.trans h2.symm
  | lst a => exact I.list_inj h1 h2
  | tup a => exact I.tuple_inj h1 h2
theorem rel_at {vs : List V} {its : List Value} (rv : Vals vs its) {i : Nat} {x : Value} (h : its[i]? = some x) : ∃ v, vs[i]? = some v ∧ RelV v x := by
  have hi := (List.getElem?_eq_some_iff.mp h).1
  have hl := rv.length
  have hv : vs[i]? = some vs[i] := List.getElem?_eq_getElem (by omega)
  obtain ⟨u, hu, r⟩ := rv.get hv
  rw [h] at hu; cases hu
  exact ⟨_, hv, r⟩
theorem src_draws {X : Cx} {pins : List (Addr × Obj)} {σ : L2.St} {H : Hp} {s : Shared} {A : Around} (hh : A.handled = none) (I : Inv X pins σ H s) {k : Src} {it : Addr} (hk : k.at ≠ some it) {vs : List V} (hq : k.has X.K H vs) :
    ∃ (fp : List Addr) (P : Nat → Value → Prop) (S : Nat → Heap → Prop), Draws X.prog X.w A it fp vs.length P S ∧ it ∈ fp ∧ (∀ i h, S i h → k.st it i h) ∧ (∀ i, k.st it i s.heap → S i s.heap) ∧
      (∀ i x, P i x → ∃ v, vs[i]? = some v ∧ RelV v x) ∧ ∀ b ∈ fp, b = it ∨ k.at = some b := by
  cases k with
  | rng lo n =>
    cases hq
    have hl : (rngV lo n).length = n := by simp [rngV]
    rw [hl]
    have D := draws_range (prog := X.prog) (w := X.w) hh it lo n
    refine ⟨[it], fun i v => i < n ∧ ∃ t, v = .int (lo + (i : Nat)) t, _, ⟨D.live, D.frame, fun i s Q E hi st hQ => D.item i s Q E hi st fun x h' tk hx => hQ x h' tk ⟨hi, hx⟩, D.done⟩, by simp, fun _ _ h => h, fun _ h => h, ?_, fun b hb => .inl (by simpa using hb)⟩
    rintro i x ⟨hi, t, rfl⟩
    exact ⟨.int (lo + i), by simp [rngV, hi], t, rfl⟩
  | lst a =>
    obtain ⟨its, rv, p, _⟩ := I.list hq
    have hne : a ≠ it := fun z => hk (by rw [z]; rfl)
    have D := Draws.list (prog := X.prog) (w := X.w) hh it a hne its.toArray
    have hl : its.toArray.size = vs.length := by simpa using rv.length.symm
    rw [hl] at D
    refine ⟨_, _, _, D, by simp, fun _ _ h => h.1, fun _ h => ⟨h, p.isList⟩, fun i x hx => rel_at rv (by simpa using hx), fun b hb => ?_⟩
    simp only [List.mem_cons, List.not_mem_nil, or_false] at hb
    rcases hb with rfl | rfl
    · exact .inl rfl
    · exact .inr rfl
  | tup a =>
    obtain ⟨its, rv, p, _⟩ := I.tuple hq
    have hne : a ≠ it := fun z => hk (by rw [z]; rfl)
    have D := Draws.tuple (prog := X.prog) (w := X.w) hh it a hne its.toArray
    have hl : its.toArray.size = vs.length := by simpa using rv.length.symm
    rw [hl] at D
    refine ⟨_, _, _, D, by simp, fun _ _ h => h.1, fun _ h => ⟨h, p⟩, fun i x hx => rel_at rv (by simpa using hx), fun b hb => ?_⟩
    simp only [List.mem_cons, List.not_mem_nil, or_false] at hb
    rcases hb with rfl | rfl
    · exact .inl rfl
    · exact .inr rfl

/-- the pairs -/
def ItzS (K : PySem.W.Frag) (k1 k2 : Src) : It :=
  ⟨fun i H => ∃ (xs ys : List V), k1.has K H xs ∧ k2.has K H ys ∧ i < xs.length ∧ i < ys.length,
    fun i H v H' => ∃ (T : Addr) (o : Obj) (x y : V), v = .ref T ∧ H T = none ∧ PlO o ∧ H' = upd H T (.frz o (.tup [x, y])) ∧ (∀ xs, k1.has K H xs → xs[i]? = some x) ∧ ∀ ys, k2.has K H ys → ys[i]? = some y,
    fun i H => ∃ xs ys : List V, k1.has K H xs ∧ k2.has K H ys ∧ i ≤ xs.length ∧ i ≤ ys.length ∧ (i = xs.length ∨ i = ys.length)⟩
structure ZipAp (k1 k2 : Src) (z TI TO i1 i2 : Addr) : Prop where
  TIz : TI ≠ z
  TOz : TO ≠ z
  TITO : TI ≠ TO
  TIi1 : TI ≠ i1
  TIi2 : TI ≠ i2
  zi1 : z ≠ i1
  zi2 : z ≠ i2
  Ti1 : TO ≠ i1
  Ti2 : TO ≠ i2
  i12 : i1 ≠ i2
  a1 : ∀ a, k1.at = some a → a ≠ z ∧ a ≠ TO ∧ a ≠ i1 ∧ a ≠ i2
  a2 : ∀ a, k2.at = some a → a ≠ z ∧ a ≠ TO ∧ a ≠ i1 ∧ a ≠ i2
theorem ZipAp.sep {k1 k2 : Src} {z TI TO i1 i2 : Addr} (D : ZipAp k1 k2 z TI TO i1 i2) {fp1 fp2 : List Addr} (m1 : i1 ∈ fp1) (m2 : i2 ∈ fp2) (h1 : ∀ b ∈ fp1, b = i1 ∨ k1.at = some b) (h2 : ∀ b ∈ fp2, b = i2 ∨ k2.at = some b) : ZipSep2 z TI TO i1 i2 fp1 fp2 where
  TIz := D.TIz
  TOz := D.TOz
  TITO := D.TITO
  TIi1 := D.TIi1
  TIi2 := D.TIi2
  mem1 := m1
  mem2 := m2
  zf1 := fun h => by rcases h1 _ h with e | e; exact D.zi1 e; exact (D.a1 _ e).1 rfl
  Tf1 := fun h => by rcases h1 _ h with e | e; exact D.Ti1 e; exact (D.a1 _ e).2.1 rfl
  zf2 := fun h => by rcases h2 _ h with e | e; exact D.zi2 e; exact (D.a2 _ e).1 rfl
  Tf2 := fun h => by rcases h2 _ h with e | e; exact D.Ti2 e; exact (D.a2 _ e).2.1 rfl
  sep1_2 := fun h => by rcases h2 _ h with e | e; exact D.i12 e; exact (D.a2 _ e).2.2.1 rfl
  sep2_1 := fun h => by rcases h1 _ h with e | e; exact D.i12 e.symm; exact (D.a1 _ e).2.2.2 rfl
theorem turn_zipS {P : Program} {w : World} {K : PySem.W.Frag} {elts : List Expr} {kk : Nat} {tpos : Pos} {k1 k2 : Src} {z TI TO i1 i2 : Addr} (D : ZipAp k1 k2 z TI TO i1 i2) :
    Turn P w K (.Tuple elts kk tpos) (ItzS K k1 k2) [z, TI, TO, i1, i2] z (fun i h => IsZip h z TI TO .none ∧ IsTupOf2 h TI (.ref i1) (.ref i2) ∧ (∃ x y, IsTupOf2 h TO x y) ∧ k1.st i1 i h ∧ k2.st i2 i h) where
  mem := by simp
  obj := fun i h st c hc => by
    obtain ⟨hz, hTI, ⟨x, y, hTO⟩, s1, s2⟩ := st
    have e' : c = z ∨ c = TI ∨ c = TO ∨ c = i1 ∨ c = i2 := by simpa using hc
    rcases e' with q | q | q | q | q
    · rw [q]; exact ⟨_, hz, fun v q => nomatch q⟩
    · rw [q]; exact ⟨_, hTI, fun v q => nomatch q⟩
    · rw [q]; exact ⟨_, hTO, fun v q => nomatch q⟩
    · rw [q]; exact Src.st_obj s1
    · rw [q]; exact Src.st_obj s2
  keep := fun i h h' st k => by
    obtain ⟨hz, hTI, ⟨x, y, hTO⟩, s1, s2⟩ := st
    exact ⟨k z (by simp) _ hz, k TI (by simp) _ hTI, ⟨x, y, k TO (by simp) _ hTO⟩, Src.st_keep s1 fun o q => k i1 (by simp) o q, Src.st_keep s2 fun o q => k i2 (by simp) o q⟩
  item := by
    intro X hP hw hK hc i pins s σ H E I hf st hg
    subst hP hw hK
    obtain ⟨hz, hTI, ⟨x0, y0, hTO⟩, s1, s2⟩ := st
    obtain ⟨xs, ys, hqx, hqy, l1, l2⟩ := hg
    have hh : X.A.in1.handled = none := I.ok.hd hc
    obtain ⟨fp1, P1, S1, D1, m1, b1, c1, p1, f1⟩ := src_draws hh I (it := i1) (fun e => (D.a1 _ e).2.2.1 rfl) hqx
    obtain ⟨fp2, P2, S2, D2, m2, b2, c2, p2, f2⟩ := src_draws hh I (it := i2) (fun e => (D.a2 _ e).2.2.2 rfl) hqy
    have hzl : z < s.heap.objs.size := Heap.lt_size hz
    refine wpAny_pyNext_zipD2_item (D.sep m1 m2 f1 f2) D1 D2 hz hTI hTO (c1 i s1) (c2 i s2) l1 l2 fun x y h' tk hx hy z' TO' t1 t2 hT hsz hk => ?_
    obtain ⟨v1, hv1, r1⟩ := p1 _ _ hx
    obtain ⟨v2, hv2, r2⟩ := p2 _ _ hy
    refine ⟨_, rfl, wpAny_letOwnedTupleGo_zip (s := { s with heap := h', toks := tk }) z' fun h'' z'' sb => ?_⟩
    have hT2 : h''.get? s.heap.objs.size = some { cls := .type "tuple", data := .seq #[x, y] } := (sb.2 _ (Nat.ne_of_gt hzl)).trans hT
    have new : ObjOk X.prog X.w (upd H s.heap.objs.size (.frz { cls := .type "tuple", data := .seq #[x, y] } (.tup [v1, v2]))) h'' s.heap.objs.size (.frz { cls := .type "tuple", data := .seq #[x, y] } (.tup [v1, v2])) :=
      ⟨hT2, by show 2 ≤ sizeLine; decide, [x, y], .cons r1 (.cons r2 .nil), ⟨_, hT2, rfl, _, rfl⟩⟩
    have I1 : Inv X pins σ (upd H s.heap.objs.size (.frz { cls := .type "tuple", data := .seq #[x, y] } (.tup [v1, v2]))) { s with heap := h'', toks := tk } :=
      I.turnedNew (t' := tk) (ch := [z, TI, TO, i1, i2]) (fun c o hb q => (sb.2 c (fun q' => hb (by simp [q']))).trans (hk c o (fun q' => hb (by simp [q'])) (fun q' => hb (by simp [q'])) (fun q' => hb (by simp [q'])) (fun q' => hb (by simp [q'])) q)) hf (Nat.le_refl _) new
    refine ⟨.ref s.heap.objs.size, _, I1, rfl, ⟨_, _, v1, v2, rfl, I.hok.fresh (Nat.le_refl _), ⟨rfl, rfl⟩, rfl, fun l hl => by rw [Src.has_inj I hl hqx]; exact hv1, fun l hl => by rw [Src.has_inj I hl hqy]; exact hv2⟩, ⟨z'', ?_, ⟨x, y, ?_⟩, ?_, ?_⟩, fun c hcm => ?_⟩
    · exact (sb.2 _ D.TIz).trans (hk _ _ D.TIz D.TITO D.TIi1 D.TIi2 hTI)
    · exact (sb.2 _ D.TOz).trans TO'
    · exact Src.st_keep (b1 _ _ t1) fun o q => (sb.2 _ D.zi1.symm).trans q
    · exact Src.st_keep (b2 _ _ t2) fun o q => (sb.2 _ D.zi2.symm).trans q
    · have hlt : c < s.heap.objs.size := by
        have e' : c = z ∨ c = TI ∨ c = TO ∨ c = i1 ∨ c = i2 := by simpa using hcm
        rcases e' with q | q | q | q | q
        · rw [q]; exact hzl
        · rw [q]; exact Heap.lt_size hTI
        · rw [q]; exact Heap.lt_size hTO
        · rw [q]; obtain ⟨_, e1, _⟩ := Src.st_obj s1; exact Heap.lt_size e1
        · rw [q]; obtain ⟨_, e2, _⟩ := Src.st_obj s2; exact Heap.lt_size e2
      rw [upd_ne (Nat.ne_of_lt hlt)]
      exact (hf c hcm).1
  done := by
    intro X hP hw hK hc i pins s σ H E I hf st hg
    subst hP hw hK
    obtain ⟨hz, hTI, ⟨x0, y0, hTO⟩, s1, s2⟩ := st
    obtain ⟨xs, ys, hqx, hqy, l1, l2, hend⟩ := hg
    have hh : X.A.in1.handled = none := I.ok.hd hc
    obtain ⟨fp1, P1, S1, D1, m1, b1, c1, p1, f1⟩ := src_draws hh I (it := i1) (fun e => (D.a1 _ e).2.2.1 rfl) hqx
    obtain ⟨fp2, P2, S2, D2, m2, b2, c2, p2, f2⟩ := src_draws hh I (it := i2) (fun e => (D.a2 _ e).2.2.2 rfl) hqy
    refine wpAny_pyNext_zipD2_end (D.sep m1 m2 f1 f2) D1 D2 hz hTI hTO (c1 i s1) (c2 i s2) l1 l2 hend fun h' tk hk => ⟨rfl, I.turnedL (t' := tk) (ch := [z, TI, TO, i1, i2]) (fun c o hb q =>
      hk c o (fun q' => hb (by simp [q'])) (fun q' => hb (by simp [q'])) (fun q' => hb (by simp [q'])) (fun q' => hb (by simp [q'])) q) hf⟩
  self := fun A i s Q E st h => wpAny_pyIter_zip st.1 h

/-! ### zip begins -/
/-- the value of a source -/
def SrcV (K : PySem.W.Frag) (H : Hp) : Src → V → Prop
  | .rng lo n, x => ∃ (a : Addr) (o : Obj) (hi : Int), x = .ref a ∧ H a = some (.frz o (.rng lo hi)) ∧ n = (hi - lo).toNat ∧ (-(2 ^ 62) ≤ lo ∧ lo < 2 ^ 62 ∧ -(2 ^ 62) ≤ hi ∧ hi < 2 ^ 62)
  | .lst a, x => x = .ref a ∧ ∃ vs, SqL K H a vs
  | .tup a, x => x = .ref a ∧ ∃ vs, SqT K H a vs
theorem begins_rangeR {a : Addr} {lo hi : Int} (h1 : -(2 ^ 62) ≤ lo ∧ lo < 2 ^ 62 ∧ -(2 ^ 62) ≤ hi ∧ hi < 2 ^ 62) :
    Begins (.ref a) { cls := .type "range_iterator", data := .fields #[rawInt lo, rawInt (Builtin.Range.rangeSize lo hi 1), rawInt 1] } fun h => ∃ t u v, IsRange h a lo hi 1 t u v where
  iter := fun prog w A E s Q ⟨t, u, v, hr⟩ h => wpAny_pyIter_range hr (small_one h1.1 h1.2.1 h1.2.2.1 h1.2.2.2) h
  keeps := fun h h' ⟨t, u, v, hr⟩ hk => ⟨t, u, v, hk a _ hr⟩
  free := rfl
theorem src_begins {X : Cx} {pins : List (Addr × Obj)} {σ : L2.St} {H : Hp} {s : Shared} (I : Inv X pins σ H s) {k : Src} {x : V} {u : Value} (hv : SrcV X.K H k x) (r : RelV x u) :
    ∃ (o : Obj) (S : Heap → Prop), Begins u o S ∧ S s.heap ∧ (∀ it h, h.get? it = some o → k.st it 0 h) ∧ ∀ a, k.at = some a → a < s.heap.objs.size := by
  cases k with
  | rng lo n =>
    obtain ⟨a, o, hi, rfl, e, rfl, hb⟩ := hv
    obtain rfl : u = Value.ref a := r
    obtain ⟨_, t, u, v, hr⟩ := I.hok a _ e
    refine ⟨_, _, begins_rangeR hb, ⟨t, u, v, hr⟩, fun it h q => ?_, fun a z => nomatch z⟩
    have e1 : lo + ((0 : Nat) : Int) = lo := by simp
    have e2 : (((hi - lo).toNat : Nat) : Int) - ((0 : Nat) : Int) = Builtin.Range.rangeSize lo hi 1 := by rw [rangeSize_one]; split <;> omega
    show IsRangeIter _ _ (lo + ((0 : Nat) : Int)) ((((hi - lo).toNat : Nat) : Int) - ((0 : Nat) : Int)) 1
    rw [e1, e2]; exact q
  | lst a =>
    obtain ⟨rfl, vs, hq⟩ := hv
    obtain rfl : u = Value.ref a := r
    obtain ⟨its, rv, p, _⟩ := I.list hq
    exact ⟨_, _, begins_list a its.toArray, p.isList, fun it h q => ⟨_, q, rfl, rfl⟩, fun b z => by cases z; exact p.lt⟩
  | tup a =>
    obtain ⟨rfl, vs, hq⟩ := hv
    obtain rfl : u = Value.ref a := r
    obtain ⟨its, rv, p, _⟩ := I.tuple hq
    exact ⟨_, _, begins_tuple a its.toArray, p, fun it h q => ⟨_, q, rfl, rfl⟩, fun b z => by cases z; exact p.lt⟩
theorem ZipAp.mk' {k1 k2 : Src} (n : Nat) (h1 : ∀ a, k1.at = some a → a < n) (h2 : ∀ a, k2.at = some a → a < n) : ZipAp k1 k2 (n + 4) (n + 2) (n + 3) n (n + 1) := by
  have ne : ∀ {a b : Nat}, a ≠ b → @Ne Addr a b := fun h => h
  have lt : ∀ {a : Addr}, a < n → @Ne Addr a (n + 4) ∧ @Ne Addr a (n + 3) ∧ @Ne Addr a n ∧ @Ne Addr a (n + 1) := fun {a} h => by
    have h' : @LT.lt Nat _ a n := h
    exact ⟨ne (by omega), ne (by omega), ne (by omega), ne (by omega)⟩
  exact ⟨ne (by omega), ne (by omega), ne (by omega), ne (by omega), ne (by omega), ne (by omega), ne (by omega), ne (by omega), ne (by omega), ne (by omega), fun a z => lt (h1 a z), fun a z => lt (h2 a z)⟩
def iZipS (K : PySem.W.Frag) (ta : TA) : TI := fun σ H R => ta σ H fun vs H1 => ∃ (k1 k2 : Src) (x y : V), vs = [x, y] ∧ SrcV K H1 k1 x ∧ SrcV K H1 k2 y ∧ R (ItzS K k1 k2) H1
theorem pi_zipS {X : Cx} {e e2 : Expr} {ta : TA} {p pos tpos : Pos} {elts : List Expr} {kk : Nat} (hg : Gl X "zip") (hm : X.mg "zip" = none) (ha : PA X [e, e2] ta)
    (hs : starEach [e, e2] X.env = (false, eval e X.env) :: starEach [e2] X.env := by rfl) (hpl : (backTo pos (starEach [e2] X.env)).any (·.1) = false := by rfl) :
    PI X (.Tuple elts kk tpos) (.Call (.Name "zip" p) [e, e2] [] pos) (iZipS X.K ta) := by
  refine ⟨fun pins s σ H R I h => ?_⟩
  refine Call_ (ld_blt I hg hm PyProof.Rows.boot_zip (PyProof.Rows.callWith_type1 (thn (ha.run pos pins s σ H _ I h) fun us s1 ⟨vs, H1, I1, r1, q1⟩ => ?_) hs hpl))
  obtain ⟨k1, k2, x, y, ex, v1, v2, q⟩ := q1
  subst ex
  obtain ⟨u1, u2, rfl, ri, rj⟩ := vals2 r1
  obtain ⟨o1, S1, B1, h1, st1, lt1⟩ := src_begins I1 v1 ri
  obtain ⟨o2, S2, B2, h2, st2, lt2⟩ := src_begins I1 v2 rj
  have fresh5 : ∀ c, c ∈ [s1.heap.objs.size + 4, s1.heap.objs.size + 2, s1.heap.objs.size + 3, s1.heap.objs.size, s1.heap.objs.size + 1] → FpOk X pins H1 c := fun c hcm => by
    have e' : c = s1.heap.objs.size + 4 ∨ c = s1.heap.objs.size + 2 ∨ c = s1.heap.objs.size + 3 ∨ c = s1.heap.objs.size ∨ c = s1.heap.objs.size + 1 := by simpa using hcm
    have hle : s1.heap.objs.size ≤ c := by omega
    exact I1.fpOk hle (I1.hok.fresh hle)
  refine zip_begins2 B1 B2 h1 h2 fun h' hz hTI hTO g1 g2 hsz hk => wpAny_pyIter_zip hz ?_
  have I2 : Inv X pins σ H1 { s1 with heap := h' } := I1.kept (t' := s1.toks) hk
  exact ⟨s1.heap.objs.size + 4, [s1.heap.objs.size + 4, s1.heap.objs.size + 2, s1.heap.objs.size + 3, s1.heap.objs.size, s1.heap.objs.size + 1], _, _, H1, rfl, I2,
    turn_zipS (ZipAp.mk' _ lt1 lt2),
    ⟨hz, hTI, ⟨_, _, hTO⟩, st1 _ _ g1, st2 _ _ g2⟩, fresh5, q⟩
/-- a range as a value, kept as it is -/
theorem cr_rangeF1 {X : Cx} : CallR X (.type "range") (fun vs H Q => ∃ j, vs = [V.int j] ∧ ∀ p (o : Obj), H p = none → Q (.ref p) (upd H p (.frz o (.rng 0 j)))) := by
  intro pins s σ H vs us Q I r h
  obtain ⟨j, rfl, q⟩ := h
  obtain ⟨u1, rfl, rj⟩ := vals1 r
  obtain ⟨u, rfl⟩ := rj
  refine call_range_1 ⟨.ref s.heap.objs.size, upd H s.heap.objs.size (.frz { cls := .type "range", data := .fields #[.int 0 s.toks, .int j u, .int 1 (s.toks + 1)] } (.rng 0 j)), I.laid (t' := s.toks + 1 + 1) (fun b o e => Heap.get?_push_of_some _ e) (Nat.le_refl _) ?_, rfl, q _ _ (I.hok.fresh (Nat.le_refl _))⟩
  exact ⟨Heap.get?_push_size _ rfl, s.toks, u, s.toks + 1, Heap.get?_push_size _ rfl⟩
theorem cr_rangeF2 {X : Cx} : CallR X (.type "range") (fun vs H Q => ∃ i j, vs = [V.int i, V.int j] ∧ ∀ p (o : Obj), H p = none → Q (.ref p) (upd H p (.frz o (.rng i j)))) := by
  intro pins s σ H vs us Q I r h
  obtain ⟨i, j, rfl, q⟩ := h
  obtain ⟨u1, u2, rfl, ri, rj⟩ := vals2 r
  obtain ⟨t, rfl⟩ := ri
  obtain ⟨u, rfl⟩ := rj
  refine call_range_2 ⟨.ref s.heap.objs.size, upd H s.heap.objs.size (.frz { cls := .type "range", data := .fields #[.int i t, .int j u, .int 1 s.toks] } (.rng i j)), I.laid (t' := s.toks + 1) (fun b o e => Heap.get?_push_of_some _ e) (Nat.le_refl _) ?_, rfl, q _ _ (I.hok.fresh (Nat.le_refl _))⟩
  exact ⟨Heap.get?_push_size _ rfl, t, u, s.toks, Heap.get?_push_size _ rfl⟩
/-! ### what is zipped, as plain data -/
inductive ZD
  | rng (lo hi : Int)
  | dat (d : D)
def RZ (K : PySem.W.Frag) (H : Hp) (μ : Mu) : ZD → V → Prop
  | .rng lo hi, v => ∃ (a : Addr) (o : Obj), v = .ref a ∧ a ∉ μ.l ∧ H a = some (.frz o (.rng lo hi))
  | .dat d, v => RV K H μ d v
abbrev MZ := En → Me → Res ZD
abbrev PDZ (X : Cx) (W : WX) (e : Expr) (f : MZ) : Prop := PE X e (tR X.K W (RZ X.K) f)
def zDat (f : ME) : MZ := fun ρ m => (f ρ m).bind fun d m => .ok (.dat d) m
def zRng1 (f : MA) : MZ := fun ρ m => (f ρ m).bind fun ds m => match ds with
  | [.int j] => .ok (.rng 0 j) m
  | _ => .no
def zRng2 (f : MA) : MZ := fun ρ m => (f ρ m).bind fun ds m => match ds with
  | [.int i, .int j] => .ok (.rng i j) m
  | _ => .no
noncomputable def zItems (z : ZD) (m : Me) : Res (List D × (Me → Bool)) := match z with
  | .rng lo hi => if (hi ≤ 1000000 ∧ -1000000 ≤ hi) ∧ lo ≤ 1000000 ∧ -1000000 ≤ lo then .ok (rngL lo (hi - lo).toNat, gdY) m else .no
  | .dat d => asIt d m
noncomputable def iZip (f g : MZ) : MI := fun ρ m => (f ρ m).bind fun z m => (g ρ m).bind fun z' m => (zItems z m).bind fun p m => (zItems z' m).bind fun p' m => .ok (List.zipWith (fun a b => D.tup [a, b]) p.1 p'.1, fun m => p.2 m && p'.2 m) m
/-- a source gives these data as long as the heap goes on -/
def Zok (K : PySem.W.Frag) (H0 : Hp) (μ0 : Mu) (k : Src) (ds : List D) (gd : Me → Bool) : Prop := ∀ H μ m, Tr K H0 μ0 H μ → RH K H μ m → gd m = true → ∃ vs, k.has K H vs ∧ RVs K H μ ds vs
theorem RZ.ext {K : PySem.W.Frag} {H H' : Hp} {μ μ' : Mu} (e : Ext K H μ H' μ') {z : ZD} {v : V} (h : RZ K H μ z v) : RZ K H' μ' z v := by
  cases z with
  | rng lo hi =>
    obtain ⟨a, o, rfl, hn, ha⟩ := h
    obtain ⟨h1, n1⟩ := e.frz a o _ hn ha
    exact ⟨a, o, rfl, n1, h1⟩
  | dat d => exact RV.ext e d v h
theorem zok_of {K : PySem.W.Frag} {H : Hp} {μ : Mu} {m m' : Me} {z : ZD} {v : V} {p : List D × (Me → Bool)} (hH : RH K H μ m) (r : RZ K H μ z v) (e : zItems z m = .ok p m') : m' = m ∧ p.1.length ≤ sizeLine ∧ ∃ k : Src, SrcV K H k v ∧ Zok K H μ k p.1 p.2 := by
  cases z with
  | rng lo hi =>
    simp only [zItems] at e
    split at e
    · rename_i hb
      cases e
      obtain ⟨a, o, rfl, hn, ha⟩ := r
      refine ⟨rfl, rng_len (by omega), .rng lo (hi - lo).toNat, ⟨a, o, hi, rfl, ha, rfl, (small62 hb.2).1, (small62 hb.2).2, (small62 hb.1).1, (small62 hb.1).2⟩, fun H μ m _ _ _ => ⟨_, rfl, ?_⟩⟩
      have : ∀ (n : Nat) (l : List Nat), RVs K H μ (l.map fun (k : Nat) => D.int (lo + k)) (l.map fun (k : Nat) => V.int (lo + k)) := fun n l => by
        induction l with
        | nil => simp [RVs]
        | cons x l ih => simp only [List.map_cons, RVs, RV]; exact ⟨_, _, rfl, rfl, ih⟩
      exact this 0 _
    · cases e
  | dat d =>
    simp only [zItems] at e
    cases d with
    | tup ds =>
      cases e
      simp only [RZ, RV] at r
      obtain ⟨a, vs, rfl, hs, hz, hr⟩ := r
      exact ⟨rfl, by rw [hr.length]; exact hz, .tup a, ⟨rfl, vs, hs.sq⟩, fun H1 μ1 m1 x hH1 _ => ⟨vs, (x.tup a vs hs).sq, RVs.map x _ _ hr⟩⟩
    | lst ds =>
      cases e
      simp only [RZ, RV] at r
      obtain ⟨a, vs, rfl, hn, hs, hz, hr⟩ := r
      exact ⟨rfl, by rw [hr.length]; exact hz, .lst a, ⟨rfl, vs, .of hs⟩, fun H1 μ1 m1 x hH1 _ => ⟨vs, SqL.ext x hn hs, RVs.map x _ _ hr⟩⟩
    | ref i =>
      simp only [RZ, RV] at r
      obtain ⟨a, rfl, ha⟩ := r
      unfold asIt at e
      cases e2 : m[i]? with
      | none => simp only [e2] at e; cases e
      | some c =>
        cases c with
        | lst ds =>
          simp only [e2] at e
          cases e
          obtain ⟨a', e', vs, h1, hz, r2⟩ := hH.at' i _ e2
          rw [ha] at e'; cases e'
          refine ⟨rfl, by rw [r2.length]; exact hz, .lst a, ⟨rfl, vs, .of h1⟩, fun H1 μ1 m1 x hH1 g => ?_⟩
          have g' : m1[i]? = some (.lst ds) := @of_decide_eq_true _ (Classical.propDecidable _) g
          obtain ⟨a', e, vs, h1, hz, r1⟩ := hH1.at' i _ g'
          rw [x.get i a ha] at e; cases e
          exact ⟨vs, .of h1, r1⟩
        | _ => simp only [e2] at e; cases e
    | _ => simp only [asIt] at e; cases e
theorem goes_zip {K : PySem.W.Frag} {H : Hp} {μ : Mu} {k1 k2 : Src} {ds1 ds2 : List D} {g1 g2 : Me → Bool} (z1 : Zok K H μ k1 ds1 g1) (z2 : Zok K H μ k2 ds2 g2) :
    Goes1 K (ItzS K k1 k2) H μ (List.zipWith (fun a b => D.tup [a, b]) ds1 ds2) fun m => g1 m && g2 m := by
  intro H1 μ1 m x hH g
  simp only [Bool.and_eq_true] at g
  obtain ⟨vs1, h1, r1⟩ := z1 H1 μ1 m x hH g.1
  obtain ⟨vs2, h2, r2⟩ := z2 H1 μ1 m x hH g.2
  have l1 := r1.length
  have l2 := r2.length
  refine ⟨fun i d e => ?_, vs1, vs2, h1, h2, ?_, ?_, ?_⟩
  · obtain ⟨d1, d2, e1, e2, rfl⟩ := List.getElem?_zipWith_eq_some.mp e
    obtain ⟨v1, q1, w1⟩ := r1.get e1
    obtain ⟨v2, q2, w2⟩ := r2.get e2
    refine ⟨⟨vs1, vs2, h1, h2, (List.getElem?_eq_some_iff.mp q1).1, (List.getElem?_eq_some_iff.mp q2).1⟩, ?_⟩
    rintro v H' ⟨T, o, y1, y2, rfl, hT, po, rfl, f1, f2⟩
    have e1 := f1 vs1 h1
    have e2 := f2 vs2 h2
    rw [q1] at e1; cases e1
    rw [q2] at e2; cases e2
    have ex := Ext.new (o := .frz o (.tup [v1, v2])) hH hT
    refine ⟨ex, hH.new hT, ?_⟩
    simp only [RV]
    refine ⟨T, [v1, v2], rfl, .inl ⟨o, upd_same, po⟩, by rw [sizeLine_eq]; simp, ?_⟩
    simp only [RVs]
    exact ⟨_, _, rfl, RV.ext ex _ _ w1, _, _, rfl, RV.ext ex _ _ w2, rfl⟩
  all_goals simp only [List.length_zipWith]; omega
section
variable {X : Cx} {W : WX} {e e2 a b : Expr} {p pos tpos : Pos} {elts : List Expr} {kk : Nat}
theorem pdz_dat {f : ME} (h : PD X W e f) : PDZ X W e (zDat f) :=
  h.imp fun σ H Q ⟨μ, ρ, m, hH, hS, q⟩ => seqR q hH hS fun d m1 v H1 μ1 e1 hH1 r1 hS1 q1 => q1 v H1 μ1 .refl hH1 r1
theorem pdz_range1 {f : MA} (hg : Gl X "range") (hm : X.mg "range" = none) (ha : PDA X W 1 [a] f)
    (he : starEach [a] X.env = (false, eval a X.env) :: starEach [] X.env := by rfl) (hpl : (backTo pos (starEach [] X.env)).any (·.1) = false := by rfl) : PDZ X W (.Call (.Name "range" p) [a] [] pos) (zRng1 f) :=
  PE.imp (pe_callTy cr_rangeF1 hg hm boot_range ha (by decide) (by decide) he hpl) fun σ H Q ⟨μ, ρ, m, hH, hS, q⟩ => seqR q hH hS fun ds m1 vs H1 μ1 e1 hH1 r1 hS1 q1 => by
    split at q1
    · rename_i j
      refine ⟨j, ints1 r1.1, fun l o hp => ?_⟩
      have ex := Ext.new (o := .frz o (.rng 0 j)) hH1 hp
      exact q1 _ _ μ1 ex (hH1.new hp) ⟨l, o, rfl, hH1.notin hp, upd_same⟩
    · exact q1.elim
theorem pdz_range2 {f : MA} (hg : Gl X "range") (hm : X.mg "range" = none) (ha : PDA X W 2 [a, b] f)
    (he : starEach [a, b] X.env = (false, eval a X.env) :: starEach [b] X.env := by rfl) (hpl : (backTo pos (starEach [b] X.env)).any (·.1) = false := by rfl) : PDZ X W (.Call (.Name "range" p) [a, b] [] pos) (zRng2 f) :=
  PE.imp (pe_callTy cr_rangeF2 hg hm boot_range ha (by decide) (by decide) he hpl) fun σ H Q ⟨μ, ρ, m, hH, hS, q⟩ => seqR q hH hS fun ds m1 vs H1 μ1 e1 hH1 r1 hS1 q1 => by
    split at q1
    · rename_i i j
      refine ⟨i, j, ints2 r1.1, fun l o hp => ?_⟩
      have ex := Ext.new (o := .frz o (.rng i j)) hH1 hp
      exact q1 _ _ μ1 ex (hH1.new hp) ⟨l, o, rfl, hH1.notin hp, upd_same⟩
    · exact q1.elim
theorem pdi_zip {f g : MZ} (hg : Gl X "zip") (hm : X.mg "zip" = none) (h1 : PDZ X W e f) (h2 : PDZ X W e2 g)
    (hs : starEach [e, e2] X.env = (false, eval e X.env) :: starEach [e2] X.env := by rfl) (hs2 : starEach [e2] X.env = (false, eval e2 X.env) :: starEach [] X.env := by rfl) (hpl : (backTo pos (starEach [e2] X.env)).any (·.1) = false := by rfl) :
    PDI X W (.Tuple elts kk tpos) (.Call (.Name "zip" p) [e, e2] [] pos) (iZip f g) :=
  PI.imp (pi_zipS hg hm (pa_cons h1 (pa_cons h2 pa_nil hs2) hs) hs hpl) fun σ H R ⟨μ, ρ, m, hH, hS, q⟩ => by
    refine seqR q hH hS fun z m1 v H1 μ1 e1 hH1 r1 hS1 q1 => ?_
    refine seqR q1 hH1 hS1 fun z' m2 v' H2 μ2 e2 hH2 r2 hS2 q2 => ?_
    have r1 := r1.ext e2
    cases i1 : zItems z m2 with
    | no => rw [i1] at q2; exact q2.elim
    | exc x m => cases z with
      | rng lo hi => simp only [zItems] at i1; split at i1 <;> cases i1
      | dat d => cases d <;> simp only [zItems, asIt] at i1 <;> try cases i1
                 split at i1 <;> cases i1
    | ok p m3 =>
      obtain ⟨rfl, lz, k1, s1, o1⟩ := zok_of hH2 r1 i1
      rw [i1] at q2
      simp only [Res.bind_ok] at q2
      cases i2 : zItems z' m3 with
      | no => rw [i2] at q2; exact q2.elim
      | exc x m => cases z' with
        | rng lo hi => simp only [zItems] at i2; split at i2 <;> cases i2
        | dat d => cases d <;> simp only [zItems, asIt] at i2 <;> try cases i2
                   split at i2 <;> cases i2
      | ok p' m4 =>
        obtain ⟨rfl, lz2, k2, s2, o2⟩ := zok_of hH2 r2 i2
        rw [i2] at q2
        exact ⟨k1, k2, v, v', rfl, s1, s2, q2 _ H2 μ2 .refl hH2 ⟨by simp only [List.length_zipWith]; omega, goes_zip o1 o2⟩⟩
end
end FL

set_option maxRecDepth 100000
namespace FL
open PySem PySem.Spec PyProof.Rows L2

/-! ### lists that will change, made by a comprehension or of a range -/
theorem Tr.show {K : PySem.W.Frag} {H : Hp} {l h : List Addr} {A : Addr} : Tr K H ⟨l, A :: h⟩ H ⟨l ++ [A], h⟩ := by
  have key : ∀ {a}, a ∉ l ∧ a ∉ A :: h → a ∉ l ++ [A] ∧ a ∉ h := fun {a} n => ⟨fun z => by
    rcases List.mem_append.mp z with z | z
    · exact n.1 z
    · exact n.2 (by rw [List.mem_singleton.mp z]; exact List.mem_cons_self), fun z => n.2 (List.mem_cons_of_mem _ z)⟩
  exact ⟨fun i a q => by rw [List.getElem?_append_left (List.getElem?_eq_some_iff.mp q).1]; exact q, fun _ _ q => q, fun a u n _ q => ⟨q, key n⟩, fun a o u n q => ⟨q, key n⟩, fun a kvs n q => ⟨.inl q, key n⟩, fun _ _ _ q => q⟩
theorem RH.show {K : PySem.W.Frag} {H : Hp} {l h : List Addr} {A : Addr} {m : Me} {ys : List D} {vs : List V} (z2 : RH K H ⟨l, A :: h⟩ m) (z3 : H A = some (.lst vs)) (z4 : A ∉ l) (z5 : RVs K H ⟨l, A :: h⟩ ys vs) (z6 : vs.length ≤ sizeLine) (nh : A ∉ h) : RH K H ⟨l ++ [A], h⟩ (m ++ [.lst ys]) := by
  have hl : l.length = m.length := z2.len
  refine ⟨by simp [hl], List.nodup_append.mpr ⟨z2.nd, by simp, fun a ha b hb z => ?_⟩, fun i c q => ?_, fun a z => z2.hid a (List.mem_cons_of_mem _ z), fun a z y => ?_⟩
  · rw [List.mem_singleton.mp hb] at z; rw [z] at ha; exact z4 ha
  · by_cases hi : i < m.length
    · rw [List.getElem?_append_left hi] at q
      obtain ⟨a, e, rc⟩ := z2.at' i c q
      exact ⟨a, by rw [List.getElem?_append_left (by show i < l.length; omega)]; exact e, rc.map Tr.show rfl⟩
    · rw [List.getElem?_append_right (by omega)] at q
      have hi0 : i = m.length := by
        have := (List.getElem?_eq_some_iff.mp q).1
        simp at this; omega
      subst hi0
      simp at q; subst q
      exact ⟨A, by rw [List.getElem?_append_right (by omega), hl]; simp, vs, z3, z6, RVs.map Tr.show _ _ z5⟩
  · rcases List.mem_append.mp z with z | z
    · exact z2.sep a z (List.mem_cons_of_mem _ y)
    · rw [List.mem_singleton.mp z] at y; exact nh y
theorem Ext.show {K : PySem.W.Frag} {H H' : Hp} {μ : Mu} {l : List Addr} {A : Addr} (x : Ext K H μ H' ⟨l, μ.h⟩) (n : H A = none) : Ext K H μ H' ⟨l ++ [A], μ.h⟩ := by
  obtain ⟨p, e⟩ := x.pre
  have e' : l = μ.l ++ p := e
  have key : ∀ {a u}, H a = some u → a ∉ l → a ∉ l ++ [A] := fun {a u} q na z => by
    rcases List.mem_append.mp z with z | z
    · exact na z
    · rw [List.mem_singleton.mp z, n] at q; cases q
  exact ⟨⟨p ++ [A], by simp [e']⟩, rfl, x.tup, fun a u na d q => let ⟨h1, h2⟩ := x.dat a u na d q; ⟨h1, key q h2⟩, fun a o u na q => let ⟨h1, h2⟩ := x.frz a o u na q; ⟨h1, key q h2⟩, fun a kvs na q => let ⟨h1, h2⟩ := x.dct a kvs na q; ⟨h1, key q h2⟩, x.fz⟩
def mCompC (it : MI) (vs : List Nat) (gt : D → En → Option En) (c : MT) (e : ME) : ME := fun ρ m => (it ρ m).bind fun p m => (noX (compF gt c e p.2 (wipeD ρ vs) p.1 m)).bind fun ys m => .ok (.ref m.length) (m ++ [.lst ys])
section
variable {X : Cx} {W : WX} {elt tg iter c e : Expr} {scope : Scope} {own : List (Str × Nat)} {pos p2 : Pos} {it : MI} {g : TG} {is : List Nat} {gt : D → En → Option En} {fc : MT} {fe : ME}
theorem comp_impC (ht : TgOk X.K g is gt) (hin : ∀ i ∈ is, i ∈ own.map (·.2)) : ∀ σ H Q, tR X.K W (RVv X.K) (mCompC it (own.map (·.2)) gt fc fe) σ H Q → tLc (tR X.K W (RIt X.K) it) g (tR X.K WF RVB fc) (tR X.K WF (RVv X.K) fe) (own.map (·.2)) σ H Q := by
  rintro σ H Q ⟨μ, ρ, m, hH, hS, q⟩
  refine seqR q hH hS fun pr m1 J H1 μ1 e1 hH1 r1 hS1 q1 => ?_
  obtain ⟨ds, gd⟩ := pr
  refine comp_core ht hin r1.1 r1.2 hH1 hS1 fun A nA => ?_
  dsimp only at q1
  cases e : compF gt fc fe gd (wipeD ρ (own.map (·.2))) ds m1 with
  | no => simp only [e] at q1; exact q1.elim
  | exc x mm => simp only [e] at q1; exact q1.elim
  | ok ys m2 =>
    simp only [e, noX_ok, Res.bind_ok] at q1
    intro H' l' vs z1 z2 z3 z4 z5 z6
    have z5' : RVs X.K H' ⟨l', A :: μ1.h⟩ ys vs := by simpa using z5
    refine q1 _ H' ⟨l' ++ [A], μ1.h⟩ (z1.show nA) (z2.show z3 z4 z5' z6 fun z => hH1.hid A z nA) ?_
    simp only [RV]
    have hl : l'.length = m2.length := z2.len
    exact ⟨A, rfl, by rw [List.getElem?_append_right (by omega), hl]; simp⟩
theorem pd_lcC {ifs : List Expr} (hc : X.calm = true) (hN : X.N.Nodup) (hi : PDI X W tg iter it) (ok : BlkOk X.N X.env.scope scope own) (ht : TgOk X.K g is gt) (hin : ∀ i ∈ is, i ∈ own.map (·.2))
    (hg : ∀ (s : Shared) (H : Hp) (C : Addr) (cl : List (Str × Addr)) (fp : List Addr), PG (X.blk s H scope (compEnvC scope cl C X.env) fp) tg g) (hif : ∀ (s : Shared) (H : Hp) (C : Addr) (cl : List (Str × Addr)) (fp : List Addr), PTs (X.blk s H scope (compEnvC scope cl C X.env) fp) ifs (tR X.K WF RVB fc))
    (he : ∀ (s : Shared) (H : Hp) (C : Addr) (cl : List (Str × Addr)) (fp : List Addr), PD (X.blk s H scope (compEnvC scope cl C X.env) fp) WF elt fe) (hs : ∀ x, foldedSetIterable iter X.env x = pure x := by intro _; rfl) :
    PD X W (.ListComp elt [⟨tg, iter, ifs, 0⟩] scope pos) (mCompC it (own.map (·.2)) gt fc fe) :=
  PE.imp (pe_lc hc hN hi ok hg hif he hs) (comp_impC ht hin)
theorem pds_setLcC {ifs : List Expr} (i : Nat) {y : Str} {py spos : Pos} (hc : X.calm = true) (hN : X.N.Nodup) (hi : PDI X W tg iter it) (ok : BlkOk X.N X.env.scope scope own) (ht : TgOk X.K g is gt) (hin : ∀ i ∈ is, i ∈ own.map (·.2))
    (hg : ∀ (s : Shared) (H : Hp) (C : Addr) (cl : List (Str × Addr)) (fp : List Addr), PG (X.blk s H scope (compEnvC scope cl C X.env) fp) tg g) (hif : ∀ (s : Shared) (H : Hp) (C : Addr) (cl : List (Str × Addr)) (fp : List Addr), PTs (X.blk s H scope (compEnvC scope cl C X.env) fp) ifs (tR X.K WF RVB fc))
    (he : ∀ (s : Shared) (H : Hp) (C : Addr) (cl : List (Str × Addr)) (fp : List Addr), PD (X.blk s H scope (compEnvC scope cl C X.env) fp) WF elt fe)
    (hsw : swapsWith (.ListComp elt [⟨tg, iter, ifs, 0⟩] scope pos) (some (.Name y py)) spos.line X.env = pure true) (hy : X.N[i]? = some y := by rfl) (hyl : X.env.scope.names.lookup y = some .local := by rfl) (hs : ∀ x, foldedSetIterable iter X.env x = pure x := by intro _; rfl) :
    PDS X W (.Assign [.Name y py] (.ListComp elt [⟨tg, iter, ifs, 0⟩] scope pos) spos) (sSet i (mCompC it (own.map (·.2)) gt fc fe)) :=
  PS.imp (ps_setLc hc hN hy hyl hsw hi ok hg hif he hs) fun D σ H ⟨μ, ρ, m, hH, hS, q⟩ =>
    comp_impC ht hin σ H _ (seqS q hH hS fun d m1 v H1 μ1 e1 hH1 r1 hS1 q1 => q1 _ H1 μ1 .refl hH1 (hS1.set r1 i))
def mLstRgC (g : En → Me → Res (Int × Int)) : ME := fun ρ m => (g ρ m).bind fun p m => if (p.1 ≤ 1000000 ∧ -1000000 ≤ p.1) ∧ p.2 ≤ 1000000 ∧ -1000000 ≤ p.2 then .ok (.ref m.length) (m ++ [.lst (rngL p.1 (p.2 - p.1).toNat)]) else .no
theorem pd_lstRgC {g : En → Me → Res (Int × Int)} (hc : X.calm = true) (hg : Gl X "list") (hm : X.mg "list" = none) (h : PDRg X W e g) (na : starEach [e] X.env = (false, eval e X.env) :: starEach [] X.env := by rfl) :
    PD X W (.Call (.Name "list" p2) [e] [] pos) (mLstRgC g) := by
  obtain ⟨te, h1, h2⟩ := h
  refine PE.imp (pe_listRg hc hg hm h1 na) fun σ H Q ⟨μ, ρ, m, hH, hS, q⟩ => h2 σ H _ ?_
  refine seqR q hH hS fun pr m1 pr' H1 μ1 e1 hH1 r1 hS1 q1 => ?_
  subst r1
  split at q1
  case isFalse => exact q1.elim
  rename_i hb
  refine ⟨rg_ok hb, fun p hp => ?_⟩
  have ex := Ext.cell (o := .lst (rgV pr.1 pr.2)) hH1 hp
  refine q1 _ _ (μ1.add p) ex (hH1.cell hp ⟨_, upd_same, rgV_line hb, rg_rv _ _⟩) ?_
  simp only [RV]
  exact ⟨p, rfl, by simp [Mu.add, ← hH1.len]⟩
end
end FL

set_option maxRecDepth 100000
namespace FL
open PySem PySem.Spec PyProof.Rows L2

/-! ### sorted(xs), xs a list or a tuple of data that can be compared -/
abbrev DV := V × PyData
def dvLe : DV → DV → Bool := PySem.W.dataLe false (fun b : DV => b.2)
def rSortG (K : PySem.W.Frag) : List V → Hp → VK → Prop := fun vs H Q => ∃ (a : Addr) (bs : List DV), vs = [.ref a] ∧ SqL K H a (bs.map (·.1)) ∧ (∀ b ∈ bs, Dp K H b.1 b.2 ∧ b.2.depth ≤ 60) ∧ PySem.W.AllAlike (bs.map (·.2)) ∧ PySem.W.Sortable (bs.map (·.2)) ∧ bs.length ≤ 1000000 ∧
  ∀ p, H p = none → Q (.ref p) (upd H p (.lst ((bs.mergeSort dvLe).map (·.1))))
theorem each_dv {X : Cx} {pins : List (Addr × Obj)} {σ : L2.St} {H : Hp} {s : Shared} (I : Inv X pins σ H s) : ∀ {vs : List Value} {bs : List DV}, Vals (bs.map (·.1)) vs → (∀ b ∈ bs, Dp X.K H b.1 b.2) → PySem.W.EachIs (fun u (b : DV) => RelV b.1 u) vs bs ∧ PySem.W.EachIs (fun u (b : DV) => ∃ as, Reads s.heap u b.2 as) vs bs
  | _, [], r, _ => by cases r; exact ⟨.nil, .nil⟩
  | _, b :: bs, r, h => by
    cases r with
    | cons r1 r2 =>
      obtain ⟨e1, e2⟩ := each_dv I r2 fun x hx => h x (List.mem_cons_of_mem _ hx)
      exact ⟨.cons r1 e1, .cons (Dp.reads I _ _ _ (h b List.mem_cons_self) r1) e2⟩
theorem each_vals : ∀ {vs : List Value} {bs : List DV}, PySem.W.EachIs (fun u (b : DV) => RelV b.1 u) vs bs → Vals (bs.map (·.1)) vs
  | _, _, .nil => .nil
  | _, _, .cons r t => .cons r (each_vals t)
theorem cr_sortedG {X : Cx} (hu : X.A.units + 64 < cLine) : CallR X (.builtin "sorted") (rSortG X.K) := by
  intro pins s σ H xs us Q I r h
  obtain ⟨a, bs, rfl, hq, hb, hal, hs, hz, q⟩ := h
  obtain ⟨u, rfl, ru⟩ := vals1 r
  cases ru
  obtain ⟨its, rv, p, _⟩ := I.list hq
  obtain ⟨e1, e2⟩ := each_dv I rv fun b hb' => (hb b hb').1
  refine PySem.W.sorted_data (enc := fun b : DV => b.2) p.isList e1 e2 hal hs (by rw [sizeLine_eq]; omega) (fun b hb' => by have := (hb b hb').2; omega) fun out hl eo => ?_
  obtain ⟨ep, he'⟩ := PyProof.Rows.sortedAll_at s.heap its out.toArray
  have hv := each_vals eo
  have hlen : ((bs.mergeSort dvLe).map (·.1)).length ≤ sizeLine := by rw [List.length_map, List.length_mergeSort, sizeLine_eq]; omega
  exact ⟨.ref _, upd H (s.heap.objs.size + 1) (.lst ((bs.mergeSort dvLe).map (·.1))), I.laid (t' := s.toks) (fun _ _ => PyProof.Rows.sortedAll_old) (Nat.le_succ _) ⟨hlen, out, ep, hv, he'⟩, rfl, q _ (I.hok.fresh (Nat.le_succ _))⟩

/-! ### sorted, as plain data -/
noncomputable def enc (d : D) : PyData := (py d).getD .none
noncomputable def leD : D → D → Bool := PySem.W.dataLe false enc
structure OkSort (xs : List D) : Prop where
  py : ∀ x ∈ xs, (py x).isSome = true ∧ (enc x).depth ≤ 60
  al : PySem.W.AllAlike (xs.map enc)
  st : PySem.W.Sortable (xs.map enc)
  few : xs.length ≤ 1000000
open Classical in
noncomputable def gSort (ds : List D) (m : Me) : Res D := match ds with
  | [d] => match lstV m d with
    | some xs => if OkSort xs then .ok (.lst (xs.mergeSort leD)) m else .no
    | none => .no
  | _ => .no
theorem rvs_pairs {K : PySem.W.Frag} {H : Hp} {μ : Mu} : ∀ {ts : List (D × V)}, (∀ t ∈ ts, RV K H μ t.1 t.2) → RVs K H μ (ts.map (·.1)) (ts.map (·.2))
  | [], _ => by simp [RVs]
  | t :: ts, h => by
    simp only [List.map_cons, RVs]
    exact ⟨_, _, rfl, h t List.mem_cons_self, rvs_pairs fun x hx => h x (List.mem_cons_of_mem _ hx)⟩
theorem pairs_rvs {K : PySem.W.Frag} {H : Hp} {μ : Mu} : ∀ {ds : List D} {vs : List V}, RVs K H μ ds vs → ∃ ts : List (D × V), ds = ts.map (·.1) ∧ vs = ts.map (·.2) ∧ ∀ t ∈ ts, RV K H μ t.1 t.2
  | [], vs, r => by simp only [RVs] at r; subst r; exact ⟨[], rfl, rfl, fun _ h => nomatch h⟩
  | d :: ds, vs, r => by
    simp only [RVs] at r
    obtain ⟨v, w, rfl, r1, r2⟩ := r
    obtain ⟨ts, rfl, rfl, h⟩ := pairs_rvs r2
    exact ⟨(d, v) :: ts, rfl, rfl, fun t ht => by
      rcases List.mem_cons.mp ht with rfl | ht
      · exact r1
      · exact h t ht⟩
theorem enc_dp {K : PySem.W.Frag} {H : Hp} {μ : Mu} {d : D} {v : V} (r : RV K H μ d v) (h : (py d).isSome = true) : Dp K H v (enc d) := by
  obtain ⟨p, hp⟩ := Option.isSome_iff_exists.mp h
  have : enc d = p := by unfold enc; rw [hp]; rfl
  rw [this]
  exact dp_of d v p r hp
theorem g_sort {K : PySem.W.Frag} : GC K (rSortG K) gSort := fun Ex H μ m ds vs Q hH rr q => by
  unfold gSort at q
  split at q
  case h_2 => exact q.elim
  rename_i d
  obtain ⟨v, rfl, r⟩ := rvs1 rr
  split at q
  case h_2 => exact q.elim
  rename_i xs e
  split at q
  case isFalse => exact q.elim
  rename_i ok
  obtain ⟨a, vs, rfl, ha, hz, hr⟩ := lstV_of hH r e
  obtain ⟨ts, rfl, rfl, ht⟩ := pairs_rvs hr
  refine ⟨a, ts.map fun t => (t.2, enc t.1), rfl, ?_, ?_, ?_, ?_, ?_, fun p hp => ?_⟩
  · rw [List.map_map]; exact .of ha
  · intro b hb
    obtain ⟨t, h1, rfl⟩ := List.mem_map.mp hb
    obtain ⟨h2, h3⟩ := ok.py t.1 (List.mem_map_of_mem h1)
    exact ⟨enc_dp (ht t h1) h2, h3⟩
  · have := ok.al; rw [List.map_map] at this ⊢; exact this
  · have := ok.st; rw [List.map_map] at this ⊢; exact this
  · have := ok.few; simpa using this
  · have e1 : ((ts.map fun t => (t.2, enc t.1)).mergeSort dvLe) = (ts.mergeSort fun a b => leD a.1 b.1).map fun t => (t.2, enc t.1) :=
      (List.map_mergeSort (r := fun a b : D × V => leD a.1 b.1) (f := fun t : D × V => (t.2, enc t.1)) (fun a _ b _ => rfl)).symm
    have e2 : (ts.map (·.1)).mergeSort leD = (ts.mergeSort fun a b => leD a.1 b.1).map (·.1) := (List.map_mergeSort (r := fun a b : D × V => leD a.1 b.1) (f := fun t : D × V => t.1) (fun a _ b _ => rfl)).symm
    rw [e1, List.map_map]
    have ex := Ext.new (o := .lst ((ts.mergeSort fun a b => leD a.1 b.1).map ((fun b : DV => b.1) ∘ fun t => (t.2, enc t.1)))) hH hp
    refine q _ _ μ ex (hH.new hp) ?_
    rw [e2]
    simp only [RV]
    refine ⟨p, _, rfl, ⟨hH.notin hp, fun z => hH.hid _ z hp⟩, upd_same, ?_, ?_⟩
    · rw [List.length_map, List.length_mergeSort]; rw [List.length_map] at hz; exact hz
    · exact RVs.ext ex _ _ (rvs_pairs fun t h => ht t ((List.mergeSort_perm ts _).mem_iff.mp h))

/-! ### sorted(d.items()) -/
/-- data without lists -/
def noL : PyData → Bool
  | .int _ => true
  | .str _ => true
  | .none => true
  | .bool _ => true
  | _ => false
theorem reads_noL {h : Heap} {v : Value} {d : PyData} {as : List Addr} (r : Reads h v d as) (n : noL d = true) : as = [] := by
  cases r <;> first | rfl | cases n
def encK : Key → PyData
  | .inl i => .int i
  | .inr x => .str x
/-- a pair of a dict as it is sorted -/
abbrev KVP := Key × V × PyData
def kvEnc (b : KVP) : PyData := .tuple [encK b.1, b.2.2]
def kvLe : KVP → KVP → Bool := PySem.W.dataLe false kvEnc
abbrev pairO (k v : Value) : Obj := { cls := .type "tuple", data := .seq #[k, v] }
def rSortIt2 (K : PySem.W.Frag) : V → Hp → VK → Prop := fun x H Q => ∃ (d : Addr) (bs : List KVP), x = .ref d ∧ Rd H d (.dK (bs.map fun b => (b.1, b.2.1))) ∧ (∀ b ∈ bs, Dp K H b.2.1 b.2.2 ∧ noL b.2.2 = true) ∧ PySem.W.AllAlike (bs.map kvEnc) ∧ bs.length ≤ 1000000 ∧
  ∀ (H' : Hp) (p : Addr) (ts : List (Addr × KVP)), (∀ b o, H b = some o → H' b = some o) → H p = none → ts.map (·.2) = bs.mergeSort kvLe → H' p = some (.lst (ts.map fun t => V.ref t.1)) → (∀ t ∈ ts, ∃ o, PlO o ∧ H t.1 = none ∧ H' t.1 = some (.frz o (.tup [kV t.2.1, t.2.2.1]))) → Q (.ref p) H'
theorem pairs_get {P : Program} {w : World} {es : List DictEntry} {vs : List (Key × Value)} (h : PySem.Pairs (mixKind P w) es vs) : ∀ {j : Nat} {en : DictEntry}, es[j]? = some en → ∃ k v, vs[j]? = some (k, v) ∧ keyIs k en.key = true ∧ en.val = v := by
  induction h with
  | nil => intro j en e; cases e
  | cons h1 h2 _ ih =>
    intro j en e
    cases j with
    | zero => cases e; exact ⟨_, _, rfl, h1, h2⟩
    | succ j => exact ih e
theorem takeF {X : Cx} {pins : List (Addr × Obj)} {σ : L2.St} {H0 : Hp} {s : Shared} {h' : Heap} {tk : Nat} (I0 : Inv X pins σ H0 s) : ∀ (L : List (Addr × Obj × List V)) (H1 : Hp), Inv X pins σ H1 { s with heap := h', toks := tk } → (L.map (·.1)).Nodup →
    (∀ a ∈ L, s.heap.objs.size ≤ a.1 ∧ H1 a.1 = none ∧ ∀ H2, ObjOk X.prog X.w H2 h' a.1 (.frz a.2.1 (.tup a.2.2))) →
    ∃ H2, Inv X pins σ H2 { s with heap := h', toks := tk } ∧ (∀ b o, H1 b = some o → H2 b = some o) ∧ ∀ a ∈ L, H2 a.1 = some (.frz a.2.1 (.tup a.2.2))
  | [], H1, I1, _, _ => ⟨H1, I1, fun _ _ e => e, fun _ h => nomatch h⟩
  | a :: L, H1, I1, hn, h => by
    obtain ⟨hb, hnone, ok⟩ := h a (List.mem_cons_self ..)
    have I2 : Inv X pins σ (upd H1 a.1 (.frz a.2.1 (.tup a.2.2))) { s with heap := h', toks := tk } := I1.take (h' := h') (t' := tk) (fun b ob _ e => e) (I0.fpOk hb hnone) (ok _)
    rw [List.map_cons, List.nodup_cons] at hn
    obtain ⟨H2, I3, g, q⟩ := takeF I0 L _ I2 hn.2 fun c hc => by
      obtain ⟨c1, c2, c3⟩ := h c (List.mem_cons_of_mem _ hc)
      exact ⟨c1, by rw [upd_ne (fun z => hn.1 (by rw [← z]; exact List.mem_map_of_mem hc))]; exact c2, c3⟩
    refine ⟨H2, I3, fun b o e => g b o (by rw [upd_ne (ne_of_none e hnone)]; exact e), fun c hc => ?_⟩
    rcases List.mem_cons.mp hc with rfl | hc
    · exact g _ _ upd_same
    · exact q c hc
theorem each_ix {α β : Type} {R : α → β → Prop} : ∀ {xs : List α} {ys : List β}, xs.length = ys.length → (∀ (j : Nat) (x : α) (y : β), xs[j]? = some x → ys[j]? = some y → R x y) → PySem.W.EachIs R xs ys
  | [], [], _, _ => .nil
  | [], _ :: _, h, _ => by simp at h
  | _ :: _, [], h, _ => by simp at h
  | x :: xs, y :: ys, h, f => .cons (f 0 x y rfl rfl) (each_ix (by simpa using h) fun j a b e1 e2 => f (j + 1) a b (by simpa using e1) (by simpa using e2))
theorem ix_each {α β : Type} {R : α → β → Prop} {xs : List α} {ys : List β} (e : PySem.W.EachIs R xs ys) : xs.length = ys.length ∧ ∀ (j : Nat) (y : β), ys[j]? = some y → ∃ x, xs[j]? = some x ∧ R x y := by
  induction e with
  | nil => exact ⟨rfl, fun j y h => by simp at h⟩
  | cons h _ ih =>
    refine ⟨by simp [ih.1], fun j y hy => ?_⟩
    cases j with
    | zero => cases hy; exact ⟨_, rfl, h⟩
    | succ j => exact ih.2 j y (by simpa using hy)
section
variable {X : Cx} {e : Expr} {te : TE} {p apos cpos pos : Pos}
theorem pe_sortItems (hc : X.calm = true) (hu : X.A.units + 64 < cLine) (he : PE X e te) (hg : Gl X "sorted") (hm : X.mg "sorted" = none) (hv : bootBuiltins "sorted" = some (.builtin "sorted")) (hbase : attributeBase e "items" X.env (eval e X.env) = eval e X.env := by rfl) (hline : (apos.endLine == cpos.line) = true := by rfl)
    (hs : starEach [.Call (.Attribute e "items" apos) [] [] cpos] X.env = (false, eval (.Call (.Attribute e "items" apos) [] [] cpos) X.env) :: starEach [] X.env := by rfl) :
    PE X (.Call (.Name "sorted" p) [.Call (.Attribute e "items" apos) [] [] cpos] [] pos) (fun σ H Q => te σ H fun x H1 => rSortIt2 X.K x H1 Q) := by
  refine ⟨fun pins s σ H Q I hq => ?_⟩
  refine wpAny_Call_Name_kw (ld_blt I hg hm hv ?_)
  refine PyProof.Rows.callWith_builtin1 ?_ hs rfl
  rw [hs]
  show wpAny _ _ (spliced ((false, eval (.Call (.Attribute e "items" apos) [] [] cpos) X.env) :: backTo pos (starEach [] X.env))) _ _ s
  refine Calls.spliced_cons ?_
  refine wpAny_Call_method (T := "dict") (id := "dict.items") hbase rfl hline F.plainAttrs_dict F.slot_dict_items F.type_dict_items (thn (he.run pins s σ H _ I hq) fun u s1 ⟨x, H1, I1, rx, d, bs, ex, hd, hb, hal, hfew, q⟩ => ?_)
  subst ex
  obtain rfl : u = Value.ref d := rx
  obtain ⟨hz, hs0, vs, kv, hdo⟩ := hd.ok I1.hok
  have lk : (bs.map fun b => (b.1, b.2.1)).length = vs.length := Paired.length kv
  rw [List.length_map] at lk
  have I2 : Inv X pins σ H1 { s1 with heap := s1.heap.push { cls := .type "dict_items", data := .fields #[.ref d] } } := I1.kept (t' := s1.toks) fun b ob q => Heap.get?_push_of_some _ q
  refine ⟨hdo.typeIs, hdo.mapOf.noDict, ?_⟩
  show wpAny _ _ (callWith cpos (.builtin "dict.items") [.ref d] [] []) _ X.xe s1
  refine method_meetsIn F.slot_dict_items F.entry_dict_items rfl (PySem.evalArgs_none ⟨rfl, hdo.typeIs, F.args_dict_items_1 _, _, meets_dict_items (mixKind X.prog X.w) d hs0, ⟨vs, hdo⟩, ?_⟩)
  refine Calls.spliced_nil ?_
  obtain ⟨o, es, ep, ho, hx, hdat, hko, hpr, hnd⟩ := hdo
  have les : es.size = vs.length := by
    have : ∀ {l : List DictEntry} {vs : List (Key × Value)}, PySem.Pairs (mixKind X.prog X.w) l vs → l.length = vs.length := fun {l vs} h => by induction h with | nil => rfl | cons _ _ _ ih => simp [ih]
    rw [← Array.length_toList]; exact this hpr
  generalize hS2 : ({ s1 with heap := s1.heap.push { cls := .type "dict_items", data := .fields #[.ref d] } } : Shared) = s2 at I2
  have hview : s2.heap.IsItemsView s1.heap.objs.size d := by rw [← hS2]; exact ⟨_, Heap.get?_push_size _ rfl, rfl, rfl⟩
  have hraw : DT.Raw s2.heap d es ep := by rw [← hS2]; exact DT.Raw.push ⟨o, ho, hx, hdat⟩ _
  refine DT.sortedI (es := es) (ep := ep) (I1.ok.hd hc) hview hraw (by rw [sizeLine_eq]; omega) fun h' tk as hk hlt hl hG => ?_
  have lak : as.length = bs.length := by omega
  have nd : as.Nodup := List.Pairwise.imp (fun h => Nat.ne_of_lt h) hG.rise
  have pr : ∀ (j : Nat) (b : Addr) (bk : KVP), as[j]? = some b → bs[j]? = some bk → ∃ en : DictEntry, es.toList[j]? = some en ∧ RelV (kV bk.1) en.key ∧ RelV bk.2.1 en.val ∧ keyIs bk.1 en.key = true ∧ h'.get? b = some (pairO en.key en.val) := by
    intro j b bk hj hbk
    obtain ⟨en, he, hg⟩ := hG.pairs j b hj
    have he' : es.toList[j]? = some en := by rw [Array.getElem?_toList]; exact he
    obtain ⟨k, v, hv1, hk1, hv2⟩ := pairs_get hpr he'
    obtain ⟨y, hy, r1, r2⟩ := LiI.paired_get kv (i := j) (x := (bk.1, bk.2.1)) (by rw [List.getElem?_map, hbk]; rfl)
    rw [hv1] at hy
    cases hy
    dsimp only at r1 r2
    subst r1
    exact ⟨en, he', relV_key hk1, by rw [hv2]; exact r2, hk1, hg⟩
  have hob : (h'.push { cls := .type "list", data := .seq (as.map Value.ref).toArray }).get? h'.objs.size = some (seqObj "list" (as.map Value.ref).toArray 0) := Heap.get?_push_size _ rfl
  have kb : ∀ b o, s2.heap.get? b = some o → (h'.push { cls := .type "list", data := .seq (as.map Value.ref).toArray }).get? b = some o := fun b o e => Heap.get?_push_of_some _ (hk b o e)
  have ne0 : ∀ b o, h'.get? b = some o → b ≠ h'.objs.size := fun b o e => Nat.ne_of_lt (Heap.lt_size e)
  generalize hh2 : h'.push { cls := .type "list", data := .seq (as.map Value.ref).toArray } = h2 at hob kb ⊢
  have ka : ∀ b o, h'.get? b = some o → h2.get? b = some o := fun b o e => by rw [← hh2]; exact Heap.get?_push_of_some _ e
  have zmap : (as.zip bs).map (·.2) = bs := List.map_snd_zip (by rw [lak]; exact Nat.le_refl _)
  have zget : ∀ (j : Nat) (z : Addr × KVP), (as.zip bs)[j]? = some z → as[j]? = some z.1 ∧ bs[j]? = some z.2 := fun j z h => List.getElem?_zip_eq_some.mp h
  have rdK : ∀ {k : Key} {u : Value} {h : Heap}, keyIs k u = true → Reads h u (encK k) [] := fun {k u h} hk => by
    rcases keyIs_shape hk with ⟨i, t, rfl, rfl⟩ | ⟨x, t, rfl, rfl⟩
    · exact .int _ _
    · exact .str _ _
  have k12 : ∀ b o, s1.heap.get? b = some o → s2.heap.get? b = some o := fun b o e => by rw [← hS2]; exact Heap.get?_push_of_some _ e
  have dep : ∀ b ∈ bs, (kvEnc b).depth ≤ 1 := fun b hb' => by
    have h1 : (encK b.1).depth = 0 := by cases b.1 <;> rfl
    have h2 : b.2.2.depth = 0 := by
      have := (hb b hb').2
      cases hp : b.2.2 <;> rw [hp] at this <;> first | rfl | cases this
    simp [kvEnc, PyData.depth, PyData.depthAll, h1, h2]
  refine PySem.W.list_sort_data (R := fun u (b : Addr × KVP) => u = .ref b.1) (enc := fun b : Addr × KVP => kvEnc b.2) (bs := as.zip bs) (s := { s2 with heap := h2, toks := tk }) hob ?_ ?_ ?_ ?_ ?_ ?_ fun out hlo eo => ?_
  · refine each_ix (by simp; omega) fun j u z e1 e2 => ?_
    obtain ⟨z1, z2⟩ := zget j z e2
    rw [List.getElem?_map, z1] at e1
    cases e1; rfl
  · refine each_ix (by simp; omega) fun j u z e1 e2 => ?_
    obtain ⟨z1, z2⟩ := zget j z e2
    rw [List.getElem?_map, z1] at e1
    cases e1
    obtain ⟨en, _, r1, r2, hk1, hg⟩ := pr j _ _ z1 z2
    obtain ⟨hd1, hn1⟩ := hb z.2 (List.mem_of_getElem? z2)
    obtain ⟨as2, rd⟩ := Dp.reads I1 _ _ _ hd1 r2
    have := reads_noL rd hn1
    subst this
    refine ⟨[] ++ ([] ++ []), .tuple (ka _ _ hg) rfl rfl (.cons (rdK hk1) (.cons (PyProof.Rows.Reads.keeps (fun b o e => kb b o (k12 b o e)) rd) .nil)), by simp⟩
  · have e : (as.zip bs).map (fun b : Addr × KVP => kvEnc b.2) = bs.map kvEnc := by
      rw [← zmap, List.map_map, zmap]; rfl
    rw [e]; exact hal
  · exact PySem.W.Sortable.tuples fun _ => ⟨_, _, rfl⟩
  · simp only [List.length_zip]; rw [sizeLine_eq]; omega
  · intro z hz'
    have := dep z.2 (by rw [← zmap]; exact List.mem_map_of_mem hz')
    have hu1 : X.A.in1.units = X.A.units + 1 := rfl
    omega
  · have kF : ∀ b o, b ≠ h'.objs.size → h2.get? b = some o → (sortedHeap h2 h'.objs.size (as.map Value.ref) (List.toArray out)).get? b = some o := fun b o hb e => (PyProof.Rows.sortedHeap_old hb (Heap.lt_size e)).trans e
    have kS : ∀ b o, s2.heap.get? b = some o → (sortedHeap h2 h'.objs.size (as.map Value.ref) (List.toArray out)).get? b = some o := fun b o e => kF b o (ne0 _ _ (hk b o e)) (kb b o e)
    obtain ⟨eF, heF⟩ := PyProof.Rows.sortedHeap_at (vs := as.map Value.ref) (out := List.toArray out) hob
    have J1 : Inv X pins σ H1 { s2 with heap := sortedHeap h2 h'.objs.size (as.map Value.ref) (List.toArray out), toks := tk } := I2.kept (t' := tk) kS
    have hn0 : H1 h'.objs.size = none := I2.hok.fresh (Nat.le_of_lt hlt)
    generalize hts : (as.zip bs).mergeSort (PySem.W.dataLe false fun b : Addr × KVP => kvEnc b.2) = ts at eo
    have hperm : ts.Perm (as.zip bs) := by rw [← hts]; exact List.mergeSort_perm _ _
    have hto : out = ts.map fun t => Value.ref t.1 := by
      obtain ⟨l1, l2⟩ := ix_each eo
      refine List.ext_getElem? fun j => ?_
      by_cases hj : j < ts.length
      · obtain ⟨u, h1, h2⟩ := l2 j _ (List.getElem?_eq_getElem hj)
        rw [h1, h2, List.getElem?_map, List.getElem?_eq_getElem hj]; rfl
      · rw [List.getElem?_eq_none (by omega), List.getElem?_eq_none (by simp; omega)]
    have hlen : (ts.map fun t => V.ref t.1).length ≤ sizeLine := by
      rw [List.length_map, hperm.length_eq, List.length_zip, sizeLine_eq]; omega
    have rv : Vals (ts.map fun t => V.ref t.1) out := by
      rw [hto]
      exact vals_maps (fun z : Addr × KVP => V.ref z.1) (fun z => Value.ref z.1) ts fun _ _ => rfl
    have J2 : Inv X pins σ (upd H1 h'.objs.size (.lst (ts.map fun t => V.ref t.1))) { s2 with heap := sortedHeap h2 h'.objs.size (as.map Value.ref) (List.toArray out), toks := tk } :=
      J1.take (h' := sortedHeap h2 h'.objs.size (as.map Value.ref) (List.toArray out)) (t' := tk) (fun b ob _ e => e) (I2.fpOk (Nat.le_of_lt hlt) hn0) ⟨hlen, out, eF, rv, heF⟩
    have lz : as.length = (es.toList.zip bs).length := by simp; omega
    have mget : ∀ x ∈ List.zipWith (fun (a : Addr) (p : DictEntry × KVP) => (a, pairO p.1.key p.1.val, [kV p.2.1, p.2.2.1])) as (es.toList.zip bs), ∃ (j : Nat) (a : Addr) (en : DictEntry) (bk : KVP), as[j]? = some a ∧ es.toList[j]? = some en ∧ bs[j]? = some bk ∧ x = (a, pairO en.key en.val, [kV bk.1, bk.2.1]) := fun x hx => by
      obtain ⟨j, hj⟩ := List.mem_iff_getElem?.mp hx
      obtain ⟨a, p, e1, e2, rfl⟩ := List.getElem?_zipWith_eq_some.mp hj
      obtain ⟨e3, e4⟩ := List.getElem?_zip_eq_some.mp e2
      exact ⟨j, a, p.1, p.2, e1, e3, e4, rfl⟩
    obtain ⟨H2, J3, g, qt⟩ := takeF I2 (List.zipWith (fun (a : Addr) (p : DictEntry × KVP) => (a, pairO p.1.key p.1.val, [kV p.2.1, p.2.2.1])) as (es.toList.zip bs)) _ J2 (by
        have : (List.zipWith (fun (a : Addr) (p : DictEntry × KVP) => (a, pairO p.1.key p.1.val, [kV p.2.1, p.2.2.1])) as (es.toList.zip bs)).map (·.1) = as := by
          rw [List.map_zipWith]
          refine List.ext_getElem? fun j => ?_
          rw [List.getElem?_zipWith]
          by_cases hj : j < as.length
          · rw [List.getElem?_eq_getElem hj, List.getElem?_eq_getElem (show j < (es.toList.zip bs).length by omega)]
          · rw [List.getElem?_eq_none (by omega)]
        rw [this]; exact nd) fun x hx => by
      obtain ⟨j, a, en, bk, e1, e2, e3, rfl⟩ := mget x hx
      obtain ⟨en', f1, r1, r2, hk1, hg⟩ := pr j a bk e1 e3
      rw [e2] at f1; cases f1
      refine ⟨Nat.le_of_lt (hG.above a (List.mem_of_getElem? e1)), ?_, fun H3 => ⟨kF _ _ (ne0 _ _ hg) (ka _ _ hg), by show 2 ≤ sizeLine; decide, [en.key, en.val], .cons r1 (.cons r2 .nil), ⟨_, kF _ _ (ne0 _ _ hg) (ka _ _ hg), rfl, 0, rfl⟩⟩⟩
      rw [upd_ne (ne0 _ _ hg)]
      exact I2.hok.fresh (Nat.le_of_lt (hG.above a (List.mem_of_getElem? e1)))
    refine ⟨.ref h'.objs.size, H2, J3, rfl, q H2 h'.objs.size ts (fun b o e => g b o (by rw [upd_ne (ne_of_none e hn0)]; exact e)) hn0 ?_ (g _ _ upd_same) fun t ht => ?_⟩
    · have := List.map_mergeSort (r := PySem.W.dataLe false fun b : Addr × KVP => kvEnc b.2) (s := kvLe) (f := fun x : Addr × KVP => x.2) (l := as.zip bs) (fun a _ b _ => rfl)
      rw [← hts, this, zmap]
    · obtain ⟨j, hj⟩ := List.mem_iff_getElem?.mp (hperm.mem_iff.mp ht)
      obtain ⟨z1, z2⟩ := zget j t hj
      obtain ⟨en, f1, r1, r2, hk1, hg⟩ := pr j t.1 t.2 z1 z2
      have hm : (t.1, pairO en.key en.val, [kV t.2.1, t.2.2.1]) ∈ List.zipWith (fun (a : Addr) (p : DictEntry × KVP) => (a, pairO p.1.key p.1.val, [kV p.2.1, p.2.2.1])) as (es.toList.zip bs) := by
        refine List.mem_iff_getElem?.mpr ⟨j, ?_⟩
        rw [List.getElem?_zipWith, z1, show (es.toList.zip bs)[j]? = some (en, t.2) from List.getElem?_zip_eq_some.mpr ⟨f1, z2⟩]
      exact ⟨_, ⟨rfl, rfl⟩, I2.hok.fresh (Nat.le_of_lt (hG.above t.1 (List.mem_of_getElem? z1))), qt _ hm⟩
end

/-! ### sorted(d.items()), as plain data -/
def kyD : Key → D
  | .inl i => .int i
  | .inr x => .str x
def prrD (p : Key × D) : D := .tup [kyD p.1, p.2]
structure OkSortIt (kvs : List (Key × D)) : Prop where
  py : ∀ p ∈ kvs, (py p.2).isSome = true ∧ noL (enc p.2) = true
  al : PySem.W.AllAlike ((kvs.map prrD).map enc)
  few : kvs.length ≤ 1000000
open Classical in
noncomputable def gSortIt (d : D) (m : Me) : Res D := match view m d with
  | .dct kvs => if OkSortIt kvs then .ok (.lst ((kvs.map prrD).mergeSort leD)) m else .no
  | _ => .no
theorem enc_pr {p : Key × D} (h : (py p.2).isSome = true) : enc (prrD p) = .tuple [encK p.1, enc p.2] := by
  obtain ⟨q, hq⟩ := Option.isSome_iff_exists.mp h
  have e : enc p.2 = q := by unfold enc; rw [hq]; rfl
  rw [e]
  unfold enc prrD
  obtain ⟨k, d⟩ := p
  cases k <;> simp [kyD, FL.py, FL.pyL, encK, hq] at hq ⊢ <;> simp [hq]
theorem Tr.keeps {K : PySem.W.Frag} {H H' : Hp} {μ : Mu} (k : ∀ b o, H b = some o → H' b = some o) : Tr K H μ H' μ :=
  ⟨fun _ _ q => q, fun a xs q => by
    rcases q with ⟨o', q, hd⟩ | q
    · exact .inl ⟨o', k _ _ q, hd⟩
    · exact .inr q, fun a u n _ q => ⟨k _ _ q, n⟩, fun a o u n q => ⟨k _ _ q, n⟩, fun a kvs n q => ⟨.inl (k _ _ q), n⟩, fun a o u q => k _ _ q⟩
theorem Ext.keeps {K : PySem.W.Frag} {H H' : Hp} {μ : Mu} (k : ∀ b o, H b = some o → H' b = some o) : Ext K H μ H' μ :=
  ⟨⟨[], by simp⟩, rfl, (Tr.keeps (K := K) (μ := μ) k).tup, fun a u na _ q => ⟨k _ _ q, na⟩, fun a o u na q => ⟨k _ _ q, na⟩, fun a kvs na q => ⟨.inl (k _ _ q), na⟩, fun a o u q => k _ _ q⟩
theorem RH.keeps {K : PySem.W.Frag} {H H' : Hp} {μ : Mu} {m : Me} (h : RH K H μ m) (k : ∀ b o, H b = some o → H' b = some o) : RH K H' μ m := by
  refine ⟨h.len, h.nd, fun i c q => ?_, fun a z => ?_, h.sep⟩
  · obtain ⟨a, e, r⟩ := h.at' i c q
    obtain ⟨u, hu, _⟩ := r.some
    exact ⟨a, e, r.map (Tr.keeps k) ((k _ _ hu).trans hu.symm)⟩
  · cases e : H a with
    | none => exact absurd e (h.hid a z)
    | some o => rw [k _ _ e]; exact fun w => nomatch w
theorem rvq_pairs {K : PySem.W.Frag} {H : Hp} {μ : Mu} : ∀ {kvs : List (Key × D)} {ps : List (Key × V)}, RVk K H μ kvs ps → ∃ ts : List (Key × D × V), kvs = ts.map (fun t => (t.1, t.2.1)) ∧ ps = ts.map (fun t => (t.1, t.2.2)) ∧ ∀ t ∈ ts, RV K H μ t.2.1 t.2.2
  | [], ps, r => by simp only [RVk] at r; subst r; exact ⟨[], rfl, rfl, fun _ h => nomatch h⟩
  | (k, d) :: kvs, ps, r => by
    simp only [RVk, RVp] at r
    obtain ⟨v, w, rfl, r1, r2⟩ := r
    obtain ⟨ts, rfl, rfl, h⟩ := rvq_pairs r2
    exact ⟨(k, d, v) :: ts, rfl, rfl, fun t ht => by
      rcases List.mem_cons.mp ht with rfl | ht
      · exact r1
      · exact h t ht⟩
section
variable {X : Cx} {W : WX} {e : Expr} {f : ME} {p apos cpos pos : Pos}
theorem pd_sortIt (hc : X.calm = true) (hu : X.A.units + 64 < cLine) (hg : Gl X "sorted") (hm : X.mg "sorted" = none) (hv : bootBuiltins "sorted" = some (.builtin "sorted")) (he : PD X W e f) (hbase : attributeBase e "items" X.env (eval e X.env) = eval e X.env := by rfl) (hline : (apos.endLine == cpos.line) = true := by rfl)
    (hs : starEach [.Call (.Attribute e "items" apos) [] [] cpos] X.env = (false, eval (.Call (.Attribute e "items" apos) [] [] cpos) X.env) :: starEach [] X.env := by rfl) :
    PD X W (.Call (.Name "sorted" p) [.Call (.Attribute e "items" apos) [] [] cpos] [] pos) (m1 gSortIt f) :=
  PE.imp (pe_sortItems hc hu he hg hm hv hbase hline hs) fun σ H Q ⟨μ, ρ, m, hH, hS, q⟩ => seqR q hH hS fun d m1 v H1 μ1 e1 hH1 r1 hS1 q1 => by
    unfold gSortIt at q1
    split at q1
    case h_2 => exact q1.elim
    rename_i kvs ev
    split at q1
    case isFalse => exact q1.elim
    rename_i ok
    obtain ⟨a, ps, rfl, hrd, hrk⟩ := view_dct hH1 r1 ev
    obtain ⟨ts, rfl, rfl, ht⟩ := rvq_pairs hrk
    have okt : ∀ t ∈ ts, (py t.2.1).isSome = true ∧ noL (enc t.2.1) = true := fun t h => ok.py (t.1, t.2.1) (List.mem_map_of_mem h)
    have hen : ∀ t ∈ ts, enc (prrD (t.1, t.2.1)) = kvEnc (t.1, t.2.2, enc t.2.1) := fun t h => enc_pr (p := (t.1, t.2.1)) (okt t h).1
    refine ⟨a, ts.map fun t => (t.1, t.2.2, enc t.2.1), rfl, by rw [List.map_map]; exact hrd, fun b hb => ?_, ?_, by have := ok.few; simpa using this, fun H' pl us hk hp hus hl hpr => ?_⟩
    · obtain ⟨t, h1, rfl⟩ := List.mem_map.mp hb
      exact ⟨enc_dp (ht t h1) (okt t h1).1, (okt t h1).2⟩
    · have := ok.al
      rw [List.map_map, List.map_map] at this
      rw [List.map_map]
      have e : ts.map (kvEnc ∘ fun t => (t.1, t.2.2, enc t.2.1)) = ts.map ((enc ∘ prrD) ∘ fun t => (t.1, t.2.1)) := List.map_congr_left fun t h => (hen t h).symm
      rw [e]; exact this
    · have ex := Ext.keeps (K := X.K) (μ := μ1) hk
      refine q1 _ H' μ1 ex (hH1.keeps hk) ?_
      have m1' : (ts.map fun t => (t.1, t.2.2, enc t.2.1)).mergeSort kvLe = (ts.mergeSort fun a b => leD (prrD (a.1, a.2.1)) (prrD (b.1, b.2.1))).map fun t => (t.1, t.2.2, enc t.2.1) :=
        (List.map_mergeSort (r := fun a b : Key × D × V => leD (prrD (a.1, a.2.1)) (prrD (b.1, b.2.1))) (f := fun t : Key × D × V => (t.1, t.2.2, enc t.2.1)) (fun a ha b hb => by
          show (!PySem.W.dataLt (enc (prrD (b.1, b.2.1))) (enc (prrD (a.1, a.2.1)))) = (!PySem.W.dataLt (kvEnc (b.1, b.2.2, enc b.2.1)) (kvEnc (a.1, a.2.2, enc a.2.1)))
          rw [hen a ha, hen b hb])).symm
      have m2' : ((ts.map fun t => (t.1, t.2.1)).map prrD).mergeSort leD = (ts.mergeSort fun a b => leD (prrD (a.1, a.2.1)) (prrD (b.1, b.2.1))).map fun t => prrD (t.1, t.2.1) := by
        rw [List.map_map]
        exact (List.map_mergeSort (r := fun a b : Key × D × V => leD (prrD (a.1, a.2.1)) (prrD (b.1, b.2.1))) (f := fun t : Key × D × V => prrD (t.1, t.2.1)) (fun a _ b _ => rfl)).symm
      rw [m1'] at hus
      rw [m2']
      have hsub : ∀ t ∈ (ts.mergeSort fun a b => leD (prrD (a.1, a.2.1)) (prrD (b.1, b.2.1))), t ∈ ts := fun t h => (List.mergeSort_perm ts _).mem_iff.mp h
      have hlen : (ts.mergeSort fun a b => leD (prrD (a.1, a.2.1)) (prrD (b.1, b.2.1))).length ≤ 1000000 := by rw [List.length_mergeSort]; have := ok.few; simpa using this
      generalize (ts.mergeSort fun a b => leD (prrD (a.1, a.2.1)) (prrD (b.1, b.2.1))) = zs at *
      simp only [RV]
      refine ⟨pl, _, rfl, ⟨hH1.notin hp, fun z => hH1.hid _ z hp⟩, hl, ?_, ?_⟩
      · have := congrArg List.length hus
        rw [List.length_map, List.length_map] at this
        rw [List.length_map, this, sizeLine_eq]; omega
      · have key : ∀ (us : List (Addr × KVP)) (zs : List (Key × D × V)), us.map (·.2) = zs.map (fun t => (t.1, t.2.2, enc t.2.1)) → (∀ t ∈ us, ∃ o, PlO o ∧ H1 t.1 = none ∧ H' t.1 = some (.frz o (.tup [kV t.2.1, t.2.2.1]))) → (∀ t ∈ zs, t ∈ ts) → RVs X.K H' μ1 (zs.map fun t => prrD (t.1, t.2.1)) (us.map fun t => V.ref t.1) := by
          intro us
          induction us with
          | nil => intro zs e _ _; cases zs with | nil => simp [RVs] | cons => simp at e
          | cons u us ih =>
            intro zs e h1 h2
            cases zs with
            | nil => simp at e
            | cons z zs =>
              simp only [List.map_cons, List.cons.injEq] at e
              simp only [List.map_cons, RVs]
              refine ⟨_, _, rfl, ?_, ih zs e.2 (fun t h => h1 t (List.mem_cons_of_mem _ h)) fun t h => h2 t (List.mem_cons_of_mem _ h)⟩
              obtain ⟨o, po, hn, hf⟩ := h1 u List.mem_cons_self
              rw [e.1] at hf
              have rz := RV.ext ex _ _ (ht z (h2 z List.mem_cons_self))
              simp only [prrD, RV]
              refine ⟨u.1, [kV z.1, z.2.2], rfl, .inl ⟨o, hf, po⟩, by rw [sizeLine_eq]; simp, ?_⟩
              simp only [RVs]
              refine ⟨_, _, rfl, ?_, _, _, rfl, rz, rfl⟩
              cases z.1 <;> simp [kyD, kV, RV]
        exact key us zs hus hpr hsub
end
end FL

set_option maxRecDepth 100000
namespace FL
open PySem PySem.Spec PyProof.Rows L2

/-! ### xs.count(y), flat items -/
def rCntF (K : PySem.W.Frag) : V → List V → Hp → VK → Prop := fun x xs H Q => ∃ (p : Addr) (ys : List V) (y : V), x = .ref p ∧ xs = [y] ∧ SqL K H p ys ∧ flatV y = true ∧ ys.all flatV = true ∧ Q (.int (ys.countP (fun z => eqV z y) : Nat)) H
theorem cnt_vals {y : V} : ∀ {ys : List V} {us : List Value}, Vals ys us → ys.all flatV = true → us.countP (eqU y) = ys.countP (fun z => eqV z y)
  | _, _, .nil, _ => rfl
  | z :: ys, u :: us, .cons r rr, h => by
    simp only [List.all_cons, Bool.and_eq_true] at h
    rw [List.countP_cons, List.countP_cons, cnt_vals rr h.2, eqU_of r h.1]
theorem mt_lcountF {X : Cx} : MtR X "list.count" (rCntF X.K) := by
  intro pins s σ H x xs v us Q I rx rxs h
  obtain ⟨p, ys, y, rfl, rfl, hs, fy, fys, q⟩ := h
  cases rx
  obtain ⟨u, rfl, ru⟩ := rxs.one
  obtain ⟨its, rv, ⟨⟨cls, dd, data, sl⟩, n, ho, hc, hdn, hd⟩, hlen⟩ := I.list hs
  simp only at hc hd
  subst hc hd
  refine call_meets PySem.F.slot_list_count ⟨_, ho, rfl⟩ PySem.F.entry_list_count (PySem.F.args_list_count_2 _ _)
    (SeqAt.list_countAt p its.toArray n dd sl u (eqU y)) ⟨ho, fun u' hu' => mem_eqAt ru fy rv fys u' (by simpa using hu'), ?_⟩
  refine ⟨.int (ys.countP (fun z => eqV z y) : Nat), H, I.tok _, ⟨s.toks, ?_⟩, q⟩
  show Value.int ((its.toArray.toList.countP (eqU y) : Nat) : Int) s.toks = _
  rw [show its.toArray.toList = its from rfl, cnt_vals rv fys]
def gCountF (d y : D) (m : Me) : Res D := match lstV m d with
  | some xs => if flatD y = true ∧ xs.all flatD = true then .ok (.int (xs.countP (fun z => eqF z y) : Nat)) m else .no
  | none => .no
def mCountF (fo fe : ME) : ME := fun ρ m => (fo ρ m).bind fun d m => match lstV m d with
  | some _ => (fe ρ m).bind fun y m => gCountF d y m
  | none => .no
theorem cnt_rv {K : PySem.W.Frag} {H : Hp} {μ : Mu} {y : D} {u : V} (ry : RV K H μ y u) (fy : flatD y = true) : ∀ {ds : List D} {vs : List V}, RVs K H μ ds vs → ds.all flatD = true → vs.countP (fun z => eqV z u) = ds.countP (fun z => eqF z y) ∧ vs.all flatV = true
  | [], vs, r, _ => by simp only [RVs] at r; subst r; exact ⟨rfl, rfl⟩
  | d :: ds, vs, r, f => by
    simp only [RVs] at r
    obtain ⟨v, w, rfl, r1, r2⟩ := r
    simp only [List.all_cons, Bool.and_eq_true] at f
    obtain ⟨h1, h2⟩ := cnt_rv ry fy r2 f.2
    refine ⟨?_, ?_⟩
    · rw [List.countP_cons, List.countP_cons, h1, eqF_eq r1 ry f.1 fy]
    · rw [List.all_cons, h2, ← flat_eq r1, f.1]; rfl
section
variable {X : Cx} {W : WX} {o e : Expr} {fo fe : ME} {apos cpos : Pos}
theorem pd_countF (ho : PD X W o fo) (he : PD X W e fe) (hbase : attributeBase o "count" X.env (eval o X.env) = eval o X.env := by rfl)
    (hfew : ((backTo cpos (starEach [e] X.env)).all (fun x => !x.1) && (backToKw cpos (keywordEach [] X.env)).all (fun x => x.1.isSome)
      && decide (([e] : List Expr).length + ([] : List Keyword).length + (if ([] : List Keyword).isEmpty then 0 else 1) < 30)) = true := by rfl)
    (hline : (apos.endLine == cpos.line) = true := by rfl) (hs : starEach [e] X.env = (false, eval e X.env) :: starEach [] X.env := by rfl) (hplain : (backTo cpos (starEach [] X.env)).any (·.1) = false := by rfl) :
    PD X W (.Call (.Attribute o "count" apos) [e] [] cpos) (mCountF fo fe) :=
  PE.imp (pe_bm PySem.F.plainAttrs_list PySem.F.slot_list_count PySem.F.type_list_count mt_lcountF ho (pa_cons he pa_nil hs) hbase hfew hline hs hplain) fun σ H Q ⟨μ, ρ, m, hH, hS, q⟩ => by
    refine seqR q hH hS fun d m1 v H1 μ1 e1 hH1 r1 hS1 q1 => ?_
    split at q1
    case h_2 => exact q1.elim
    rename_i xs0 e2
    obtain ⟨a, vs0, rfl, s1, _, _⟩ := lstV_of hH1 r1 e2
    refine ⟨.inl ⟨rfl, vs0, .of s1⟩, ?_⟩
    refine seqR q1 hH1 hS1 fun y m2 z H2 μ2 e2' hH2 r2 hS2 q2 => ?_
    unfold gCountF at q2
    split at q2
    case h_2 => exact q2.elim
    rename_i xs e4
    split at q2
    case isFalse => exact q2.elim
    rename_i hf
    obtain ⟨a', vs, ea, s2, _, w1⟩ := lstV_of hH2 (RV.ext e2' _ _ r1) e4
    cases ea
    obtain ⟨h1, h2⟩ := cnt_rv r2 hf.1 w1 hf.2
    exact ⟨a, vs, z, rfl, rfl, .of s2, by rw [← flat_eq r2]; exact hf.1, h2, q2 _ H2 μ2 .refl hH2 (by simp [RV, h1])⟩
end
end FL

set_option maxRecDepth 100000
namespace FL
open PySem PySem.Spec PyProof.Rows L2

/-! ### sets of texts, their entries in some order -/
def keyS (e : Int × Value) : Str := match e.2 with
  | .str x _ => x
  | _ => ⟨#[]⟩
def GdS (w : World) (e : Int × Value) : Prop := ∃ (x : Str) (tk : Tok), e = (hashStr w x, .str x tk)
structure SetS (w : World) (h : Heap) (a : Addr) (ks : List Str) (o : Obj) (es : Array (Int × Value)) (ep : Nat) (t : SetTable) : Prop where
  at' : h.get? a = some o
  ex : o.ExactSet
  dat : o.data = .set es ep t
  gd : ∀ e ∈ es.toList, GdS w e
  pm : (es.toList.map keyS).Perm ks
  nd : ks.Nodup
  few : ks.length < scanBound
  fit : t.fits es.size = true
  ris : Ris t.place.toList
  led : w.params.followText "set-order" = true ∨ t.led = true
def SetX (w : World) (h : Heap) (a : Addr) (ks : List Str) : Prop := ∃ o es ep t, SetS w h a ks o es ep t
section
variable {P : Program} {w : World} {A : Around} {E : Value → Shared → Prop} {s : Shared} {a : Addr} {ks : List Str}
theorem SetS.size {h : Heap} {o : Obj} {es : Array (Int × Value)} {ep : Nat} {t : SetTable} (R : SetS w h a ks o es ep t) : es.size = ks.length := by
  have := R.pm.length_eq
  rwa [List.length_map, Array.length_toList] at this
theorem gds_is {e : Int × Value} (g : GdS w e) (k : Str) : (strKind P w).is k e.2 = true ↔ k = keyS e := by
  obtain ⟨x, tk, rfl⟩ := g
  show Value.isStrOf k (.str x tk) = true ↔ k = x
  simp only [Value.isStrOf, beq_iff_eq]
  exact ⟨fun h => h.symm, fun h => h.symm⟩
theorem gds_elems {es : List (Int × Value)} (g : ∀ e ∈ es, GdS w e) : ElemsOf (strKind P w) es := fun e he => by
  obtain ⟨x, tk, rfl⟩ := g e he
  exact ⟨⟨x, by show Value.isStrOf x (.str x tk) = true; simp [Value.isStrOf], rfl⟩, rfl⟩
theorem SetS.put {o : Obj} {es es' : Array (Int × Value)} {ep : Nat} {t t' : SetTable} {ls : List Str} (R : SetS w s.heap a ks o es ep t) (g : ∀ e ∈ es'.toList, GdS w e) (p : (es'.toList.map keyS).Perm ls) (nd : ls.Nodup) (few : ls.length < scanBound)
    (hf : t'.fits es'.size = true) (hr : Ris t'.place.toList) (hl : t'.led = t.led) {Q : Unit → Shared → Prop}
    (hQ : ∀ h', Heap.SameBut a s.heap h' → SetS w h' a ls { o with data := .set es' (ep + 1) t' } es' (ep + 1) t' → Q () { s with heap := h' }) :
    wpAny (model P w) A (storeSet a es' t') Q E s := by
  have hsz : es'.size = ls.length := by have := p.length_eq; rwa [List.length_map, Array.length_toList] at this
  refine wpAny_storeSet_of R.at' R.dat ?_ (fits_of_scanBound (by rw [hsz]; exact few))
  exact hQ _ (Heap.SameBut.update s.heap a (Obj.putSet es' t')) ⟨store_at R.at' R.dat, R.ex, rfl, g, p, nd, few, hf, hr, R.led.imp id fun z => by rw [hl]; exact z⟩
/-- a text added -/
theorem setS_add {x : Str} {tk : Tok} {Q : Bool → Shared → Prop} (R : SetX w s.heap a ks) (room : ks.length + 1 < scanBound)
    (hQ : ∀ b h', Heap.SameBut a s.heap h' → SetX w h' a (if x ∈ ks then ks else ks ++ [x]) → Q b { s with heap := h' }) :
    wpAny (model P w) A (setAddHashed a (.str x tk) (hashStr w x)) Q E s := by
  obtain ⟨o, es, ep, t, R⟩ := R
  have hkey : (strKind P w).is x (.str x tk) = true := by show Value.isStrOf x (.str x tk) = true; simp [Value.isStrOf]
  have hsc : (Value.str x tk).scannable = true := rfl
  have hel : ElemsOf (strKind P w) es.toList := gds_elems R.gd
  have hb : es.size < scanBound := by rw [R.size]; exact R.few
  unfold setAddHashed setAddHashedIn
  refine wpAny_holding (wpAny_bind (wpAny_setState_of R.at' R.dat R.fit ?_))
  dsimp only
  rw [byScan_of hsc hb hel]
  simp only [↓reduceIte]
  unfold setAddByScan
  refine wpAny_bind ?_
  refine wpAny_bind (wpAny_rule ?_)
  refine wpAny_bind (wpAny_setScan_of (knd := strKind P w) hkey R.at' R.dat R.fit hel ?_)
  have hmem : x ∈ ks ↔ ∃ e ∈ es.toList, (strKind P w).is x e.2 = true := by
    rw [← R.pm.mem_iff, List.mem_map]
    constructor
    · rintro ⟨e, he, q⟩; exact ⟨e, he, (gds_is (R.gd e he) x).mpr q.symm⟩
    · rintro ⟨e, he, q⟩; exact ⟨e, he, ((gds_is (R.gd e he) x).mp q).symm⟩
  cases hfi : List.findIdx? (fun e => (strKind P w).is x e.2) es.toList with
  | some j =>
    dsimp only
    obtain ⟨hj, pj, _⟩ := List.findIdx?_eq_some_iff_getElem.mp hfi
    have hx : x ∈ ks := hmem.mpr ⟨es.toList[j], List.getElem_mem hj, pj⟩
    rw [if_pos hx] at hQ
    exact wpAny_pure (wpAny_pure (hQ _ s.heap (Heap.SameBut.refl a s.heap) ⟨_, _, _, _, R⟩))
  | none =>
    dsimp only
    have hx : x ∉ ks := fun z => by
      obtain ⟨e, he, q⟩ := hmem.mp z
      have c := List.findIdx?_eq_none_iff.mp hfi e he
      rw [q] at c
      cases c
    rw [if_neg hx] at hQ
    have hgw : ∀ (b : Bool) {s₁ : Shared} {Q' : Unit → Shared → Prop}, Q' () s₁ → wpAny (model P w) A (match b with | true => rule "set.scan.the-table-gave-way" | false => pure ()) Q' E s₁ :=
      fun b s₁ Q' q => by cases b <;> first | exact wpAny_pure q | exact wpAny_rule q
    have pm := layNew_perm t es (hashStr w x) (.str x tk)
    have hf1 := layNew_fits t es (hashStr w x) (.str x tk)
    have hr1 := layNew_ris t es (hashStr w x) (.str x tk) R.ris
    have hl1 := layNew_led t es (hashStr w x) (.str x tk)
    generalize hZ : layNew t es (hashStr w x) (.str x tk) = Z at pm hf1 hr1 hl1
    obtain ⟨es1, t1, wasDummy, gave⟩ := Z
    dsimp only at pm hf1 hr1 hl1 ⊢
    rw [Array.toList_push] at pm
    have pc : es1.toList.Perm ((hashStr w x, Value.str x tk) :: es.toList) := pm.trans (List.perm_append_singleton _ _)
    have g1 : ∀ e ∈ es1.toList, GdS w e := fun e he => by
      rcases List.mem_cons.mp (pc.mem_iff.mp he) with z | z
      · rw [z]; exact ⟨x, tk, rfl⟩
      · exact R.gd e z
    have pk : (es1.toList.map keyS).Perm (ks ++ [x]) := ((pc.map keyS).trans (R.pm.cons _)).trans (List.perm_append_singleton _ _).symm
    have nd1 : (ks ++ [x]).Nodup := by rw [List.nodup_append]; exact ⟨R.nd, by simp, fun a ha b hb e => by rw [List.mem_singleton.mp hb] at e; exact hx (e ▸ ha)⟩
    have few1 : (ks ++ [x]).length < scanBound := by rw [List.length_append]; exact room
    have hsz1 : es1.size = (ks ++ [x]).length := by have := pk.length_eq; rwa [List.length_map, Array.length_toList] at this
    refine wpAny_bind (hgw _ ?_)
    -- the rest, for the table kept plain or not
    have rest : ∀ (t2 : SetTable) (R' : Option Bool → Shared → Prop) (g : Bool → Sem Unit), (∀ (b : Bool) (s₁ : Shared) (Q' : Unit → Shared → Prop), Q' () s₁ → wpAny (model P w) A (g b) Q' E s₁) → t2.fits es1.size = true → Ris t2.place.toList → t2.led = t.led →
        (∀ h', Heap.SameBut a s.heap h' → SetX w h' a (ks ++ [x]) → R' (some true) { s with heap := h' }) →
        wpAny (model P w) A (do
          storeSet a es1 t2
          if (!wasDummy && t2.tooFull) = true then do
              g (relayAll t2 es1 (SetTable.grown es1.size)).2.2
              storeSet a (relayAll t2 es1 (SetTable.grown es1.size)).1 (relayAll t2 es1 (SetTable.grown es1.size)).2.1
              pure (some true)
            else pure (some true)) R' E s := fun t2 R' g hg f2 r2 l2 q => by
      refine wpAny_bind (R.put g1 pk nd1 few1 f2 r2 l2 fun h' sb R2 => ?_)
      split
      · have pm2 := relayAll_perm t2 es1 (SetTable.grown es1.size)
        have hf3 := relayAll_fits t2 es1 (SetTable.grown es1.size)
        have hr3 := relayAll_ris t2 es1 (SetTable.grown es1.size)
        have hl3 := relayAll_led t2 es1 (SetTable.grown es1.size)
        refine wpAny_bind (hg _ _ _ (wpAny_bind (R2.put (s := { s with heap := h' }) (fun e he => g1 e (pm2.mem_iff.mp he)) ((pm2.map keyS).trans pk) nd1 few1 hf3 hr3 hl3 fun h2 sb2 R3 => wpAny_pure (q h2 (sb.trans sb2) ⟨_, _, _, _, R3⟩))))
      · exact wpAny_pure (q h' sb ⟨_, _, _, _, R2⟩)
    split
    · refine wpAny_bind ?_
      rw [hashByValue_scannable 8 hsc]
      refine wpAny_pure ?_
      refine rest _ _ _ ?_ ?_ ?_ ?_ ?_
      · intro b s₁ Q' q; cases b <;> first | exact wpAny_pure q | exact wpAny_rule q
      · first | (split <;> first | exact hf1 | exact SetTable.fits_plain_off hf1) | exact hf1
      · first | (split <;> exact hr1) | exact hr1
      · first | (split <;> exact hl1) | exact hl1
      · intro h' sb r; dsimp only; exact wpAny_pure (hQ _ h' sb r)
    · refine wpAny_bind (wpAny_pure ?_)
      simp only [↓reduceIte]
      refine rest _ _ _ ?_ hf1 hr1 hl1 ?_
      · intro b s₁ Q' q; cases b <;> first | exact wpAny_pure q | exact wpAny_rule q
      · intro h' sb r; dsimp only; exact wpAny_pure (hQ _ h' sb r)
end
/-! ### set(xs), xs a list of texts -/
def addS (ks : List Str) (x : Str) : List Str := if x ∈ ks then ks else ks ++ [x]
def dd (xs : List Str) : List Str := xs.foldl addS []
theorem dd_snoc (xs : List Str) (x : Str) : dd (xs ++ [x]) = addS (dd xs) x := by simp [dd]
theorem addS_len (ks : List Str) (x : Str) : (addS ks x).length ≤ ks.length + 1 := by unfold addS; split <;> simp
theorem dd_mem (x : Str) (xs : List Str) : x ∈ dd xs ↔ x ∈ xs := by
  have key : ∀ (xs ks : List Str), x ∈ xs.foldl addS ks ↔ x ∈ ks ∨ x ∈ xs := by
    intro xs
    induction xs with
    | nil => simp
    | cons a l ih =>
      intro ks
      rw [List.foldl_cons, ih, List.mem_cons]
      have : x ∈ addS ks a ↔ x ∈ ks ∨ x = a := by
        unfold addS
        split
        · constructor
          · exact .inl
          · rintro (h | rfl)
            · exact h
            · assumption
        · simp
      rw [this, or_assoc]
  simpa [dd] using key xs []
theorem dd_len (xs : List Str) : (dd xs).length ≤ xs.length := by
  have key : ∀ (xs ks : List Str), (xs.foldl addS ks).length ≤ ks.length + xs.length := by
    intro xs
    induction xs with
    | nil => simp
    | cons a l ih => intro ks; have := ih (addS ks a); have := addS_len ks a; simp only [List.foldl_cons, List.length_cons]; omega
  simpa [dd] using key xs []
theorem dd_nodup (xs : List Str) : (dd xs).Nodup := by
  have key : ∀ (xs ks : List Str), ks.Nodup → (xs.foldl addS ks).Nodup := by
    intro xs
    induction xs with
    | nil => intro ks h; exact h
    | cons a l ih =>
      intro ks h
      refine ih _ ?_
      unfold addS
      split
      · exact h
      · rename_i hn
        rw [List.nodup_append]; exact ⟨h, by simp, fun b hb c hc e => by rw [List.mem_singleton.mp hc] at e; exact hn (e ▸ hb)⟩
  exact key xs [] List.nodup_nil
theorem SetX.keep {w : World} {h h' : Heap} {a : Addr} {ks : List Str} (R : SetX w h a ks) (k : ∀ o, h.get? a = some o → h'.get? a = some o) : SetX w h' a ks := by
  obtain ⟨o, es, ep, t, R⟩ := R
  exact ⟨o, es, ep, t, k o R.at', R.ex, R.dat, R.gd, R.pm, R.nd, R.few, R.fit, R.ris, R.led⟩
theorem setX_new {w : World} {h : Heap} {a : Addr} (ho : h.get? a = some (nSet w)) : SetX w h a [] :=
  ⟨_, #[], 0, _, ho, ⟨rfl, rfl, rfl⟩, rfl, fun e he => by simp at he, by simp, List.nodup_nil, by decide, rfl, List.Pairwise.nil, by
    show _ ∨ (!w.params.followText "set-order") = true
    cases w.params.followText "set-order"
    · exact .inr rfl
    · exact .inl rfl⟩
section
variable {P : Program} {w : World} {A : Around} {E : Value → Shared → Prop} {s : Shared}
theorem set_update_strs {I : Addr} {fp wr : List Addr} {G : Array GenState → Array GenState → Prop} {n : Nat} {Pv : Nat → Value → Prop} {St : Nat → Shared → Prop} {R : Result → Shared → Prop}
    (W : WalksS P w A.in1 I fp wr G n Pv St) (S : Addr) (hSf : S ∉ fp) (xs : List Str) (hn : n = xs.length) (hb : xs.length + 1 < scanBound) (hval : ∀ i v, Pv i v → ∃ x t, xs[i]? = some x ∧ v = .str x t)
    (hR : ∀ s', Moved (S :: wr) G s s' → SetX w s'.heap S (dd xs) → R (.ok (.ret .none)) s') (hst : St 0 s) (hS : SetX w s.heap S []) :
    codeAny (model P w) A (.builtin "set.update.loop" ⟨[.ref S, .ref I], []⟩) R s := by
  have hSw : S ∉ wr := fun h => hSf (W.sub _ h)
  have hsub : ∀ b ∈ wr, b ∈ S :: wr := fun b hb => List.mem_cons_of_mem _ hb
  have key : ∀ (k i : Nat) (s1 : Shared), n - i = k → i ≤ n → St i s1 → SetX w s1.heap S (dd (xs.take i)) → (∀ s', Moved (S :: wr) G s1 s' → SetX w s'.heap S (dd xs) → R (.ok (.ret .none)) s') →
      codeAny (model P w) A (.builtin "set.update.loop" ⟨[.ref S, .ref I], []⟩) R s1 := by
    intro k
    induction k with
    | zero =>
      intro i s1 hk hi hst hS hR
      have hin : i = n := by omega
      subst hin
      refine codeAny_builtin F.entry_set_update_loop ?_
      rw [Around.under_plainId F.plain_set_update_loop _]
      show wpAny _ A.in1 (pyNext (.ref I) >>= _) _ _ s1
      refine wpAny_bind (W.done s1 _ _ hst fun s' hm => ?_)
      rw [List.take_of_length_le (by omega)] at hS
      exact wpAny_pure (hR s' (hm.mono hsub) (hS.keep fun o e => hm.heap S o hSw e))
    | succ k ih =>
      intro i s1 hk hi hst hS hR
      have hlt : i < n := by omega
      refine codeAny_builtin F.entry_set_update_loop ?_
      rw [Around.under_plainId F.plain_set_update_loop _]
      show wpAny _ A.in1 (pyNext (.ref I) >>= _) _ _ s1
      refine wpAny_bind (W.item i s1 _ _ hlt hst fun v s' hP hst' hm => ?_)
      obtain ⟨x, t, hz, rfl⟩ := hval i v hP
      have hS' := hS.keep (h' := s'.heap) fun o e => hm.heap S o hSw e
      show wpAny _ A.in1 (holding [Value.str x t] (setAdd S (.str x t)) >>= _) _ _ s'
      refine wpAny_bind (wpAny_holding ?_)
      unfold setAdd
      refine wpAny_holding ?_
      refine wpAny_bind ((strKind P w).pyHash (k := x) (strKind_is P w x t) ?_)
      have hl : (dd (xs.take i)).length + 1 < scanBound := by have := dd_len (xs.take i); rw [List.length_take] at this; omega
      refine setS_add (s := { s' with toks := s'.toks + 1 }) hS' hl fun b h' hsb hS2 => ?_
      have hS3 : SetX w h' S (dd (xs.take (i + 1))) := by
        rw [List.take_add_one, hz]
        show SetX w h' S (dd (xs.take i ++ [x]))
        rw [dd_snoc]; exact hS2
      refine wpAny_pure ⟨plainId_quiet F.plain_set_update_loop _, ih (i + 1) _ (by omega) hlt (W.frame _ s' _ _ hst' (Nat.le_succ _) fun b hb o e => ?_) hS3 fun s'' hm'' hS'' => ?_⟩
      · rw [hsb.2 b (fun h : b = S => hSf (by rw [← h]; exact hb))]; exact e
      · refine hR s'' (Moved.trans W.gtrans ((hm.mono hsub).then_heap (Nat.le_succ _) fun b o hb e => ?_) hm'') hS''
        rw [hsb.2 b (fun h : b = S => hb (by rw [h]; exact List.mem_cons_self))]; exact e
  exact key (n - 0) 0 s rfl (Nat.zero_le _) hst hS hR
set_option maxHeartbeats 3200000 in
theorem set_of_strs {l : Addr} {its : Array Value} (ns : List Str) {Q : Value → Shared → Prop} (h0 : A.handled = none) (hl : s.heap.IsList l its) (hi : StrsAre its.toList ns) (hb : ns.length + 1 < scanBound)
    (h : ∀ (g : Heap) (tk : Nat), SetX w g s.heap.objs.size (dd ns) → (∀ b o, s.heap.get? b = some o → g.get? b = some o) → Q (.ref s.heap.objs.size) { s with heap := g, toks := tk }) : wpAny (model P w) A (call (.type "set") [.ref l]) Q E s := by
  have hz : its.size = ns.length := by have q := StrsAre.len_eq hi; rw [Array.length_toList] at q; exact q
  obtain ⟨c0, tl, hmro⟩ := F.called_set.mro
  have made := F.called_set.made
  have sub := F.called_set.sub
  refine wpAny_call (codeAny_of_tree ?_); show wpAny _ _ (callAny (.type "set") _) _ _ _
  refine wpAny_pure ⟨Code.quiet_builtin _ (by decide +kernel), codeAny_builtin F.entry_type_call ?_⟩; rw [Around.under_plain (weight_type_call_type "set" [.ref l] []) rfl]
  have t1 := F.called_set.notType
  have t2 := F.called_set.canCreate
  have t3 := F.typeCall_set_1 (.ref l)
  repeat (any_goals (first | assumption | wp_step))
  refine codeAny_mono (code_set_led1 (.ref l) (E := E) (Q₁ := fun x t => x = .ref s.heap.objs.size ∧ t = { s with heap := pSet w s }) ⟨rfl, rfl⟩) fun r t hr => ?_
  rcases r with e | f
  · exact hr
  · cases f <;> first | exact hr.elim | skip
    obtain ⟨rfl, rfl⟩ := hr
    have hS : (pSet w s).get? s.heap.objs.size = some (nSet w) := Heap.get?_push_size _ rfl
    have hT : Shared.TypeIs { s with heap := pSet w s } (.ref s.heap.objs.size) "set" := ⟨_, hS, rfl⟩
    have hli := F.called_set.init.lookup
    have hbi := F.called_set.init.bind (.ref s.heap.objs.size)
    repeat (any_goals (first | assumption | wp_step))
    refine codeAny_mono (codeAny_call_builtin (R := wants (fun r t => r = .none ∧ ∃ g tk, t = { s with heap := g, toks := tk } ∧ SetX w g s.heap.objs.size (dd ns) ∧ (∀ b o, s.heap.get? b = some o → g.get? b = some o)) E) F.called_set.init.plain F.entry_set_init (check_set_init_1 hT ?_)) fun r t hr => ?_
    · obtain ⟨⟨kc, kd, ka, ks⟩, ho, hc, nl, hd⟩ := hl
      simp only at hc hd
      subst hc; subst hd
      have ho' : (pSet w s).get? l = some { cls := .type "list", dict := kd, data := .seq its nl, slots := ks } := Heap.get?_push_of_some _ ho
      have u1 := F.sub_list_set
      have u2 := F.sub_list_frozenset
      have u3 : (Value.type "list" == Value.type "dict") = false := by decide
      have hl1 : (pSet w s).IsList l its := ⟨_, ho', rfl, nl, rfl⟩
      unfold Builtin.«set.__init__» noKeywords Builtin.Frozenset.updateFrom
      generalize hPI : pyIter = PI
      wp_walk
      subst hPI
      refine wpAny_pyIter_list hl1 (wpAny_bind (wpAny_runValue ?_))
      have lt : l < s.heap.objs.size := Heap.lt_size ho
      have h3 : A.in1.in1.in1.handled = none := by simp [h0]
      have ne1 : l ≠ (pSet w s).objs.size := by rw [Heap.size_push]; exact fun z => Nat.ne_of_lt (Nat.lt_succ_of_lt lt) z
      have ne2 : s.heap.objs.size ∉ [(pSet w s).objs.size, l] := by
        rw [Heap.size_push]; simp only [List.mem_cons, List.not_mem_nil, or_false, not_or]; exact ⟨Nat.ne_of_lt (Nat.lt_succ_self _), fun z => Nat.ne_of_lt lt z.symm⟩
      have hv : ∀ (i : Nat) (v : Value), its[i]? = some v → ∃ k t, ns[i]? = some k ∧ v = .str k t := fun i v e => by
        have lt : i < ns.length := by rw [← hz]; exact (Array.getElem?_eq_some_iff.mp e).1
        obtain ⟨t, e2⟩ := StrsAre.at hi (List.getElem?_eq_getElem lt)
        rw [Array.getElem?_toList, e] at e2
        exact ⟨ns[i], t, List.getElem?_eq_getElem lt, Option.some.inj e2⟩
      refine set_update_strs ((Walks.list h3 _ l ne1 its).toS) s.heap.objs.size ne2 ns hz hb hv (fun t hm hS' => ?_) ⟨⟨_, Heap.get?_push_size _ rfl, rfl, rfl⟩, (hl1.push _)⟩ (setX_new (Heap.get?_push_of_some _ hS))
      obtain ⟨g, g2, d', tk, os'⟩ := t
      obtain rfl : g2 = s.gens := hm.gens
      obtain rfl : d' = s.drawn := hm.drawn
      obtain rfl : os' = s.os := hm.os
      show wpAny _ _ _ _ _ _
      refine wpAny_pure ?_
      show wpAny _ _ (ret Value.none) _ _ _
      refine wpAny_pure ⟨rfl, g, tk, rfl, hS', fun b o e => ?_⟩
      have hb0 : b < s.heap.objs.size := Heap.lt_size e
      refine hm.heap b o ?_ (Heap.get?_push_of_some _ (Heap.get?_push_of_some _ e))
      rw [Heap.size_push]; simp only [List.mem_cons, List.not_mem_nil, or_false, not_or]; exact ⟨Nat.ne_of_lt hb0, fun z => Nat.ne_of_lt (Nat.lt_succ_of_lt hb0) z⟩
    · rcases r with e | f
      · exact hr
      · cases f <;> first | exact hr.elim | skip
        obtain ⟨rfl, g, tk, rfl, k1, k3⟩ := hr
        repeat (any_goals (first | assumption | wp_step))
        exact h _ _ k1 k3
end
end FL

set_option maxRecDepth 100000
namespace FL
open PySem PySem.Spec PyProof.Rows L2

theorem srt_pair (xs : List Str) : (xs.mergeSort leS).Pairwise (fun a b => leS a b = true) := List.pairwise_mergeSort leS_trans leS_total xs
theorem srt_uniq {xs ys : List Str} (p : xs.Perm ys) (h1 : xs.Pairwise (fun a b => leS a b = true)) (h2 : ys.Pairwise (fun a b => leS a b = true)) : xs = ys :=
  List.Perm.eq_of_pairwise (le := fun a b => leS a b = true) (fun a b _ _ h1 h2 => leS_anti h1 h2) h1 h2 p
theorem srt_perm {xs ys : List Str} (p : xs.Perm ys) : xs.mergeSort leS = ys.mergeSort leS :=
  srt_uniq (((List.mergeSort_perm xs leS).trans p).trans (List.mergeSort_perm ys leS).symm) (srt_pair _) (srt_pair _)
section
variable {P : Program} {w : World} {A : Around} {E : Value → Shared → Prop} {s : Shared} {a : Addr} {ks : List Str}
theorem sorted_strs_set {Q : Value → Shared → Prop} (R : SetX w s.heap a ks) (hh : A.handled = none) (hu : A.units + 64 < cLine)
    (hQ : ∀ s' p (out : List Value) (c : Nat), (∀ b o, s.heap.get? b = some o → s'.heap.get? b = some o) → s'.gens = s.gens → s'.os = s.os → s.heap.objs.size ≤ p →
      s'.heap.get? p = some (seqObj "list" out.toArray c) → PySem.W.EachIs (fun v (x : Str) => ∃ t, v = Value.str x t) out (ks.mergeSort leS) → Q (.ref p) s') :
    wpAny (model P w) A (call (.builtin "sorted") [.ref a]) Q E s := by
  obtain ⟨o, es, ep, t, R⟩ := R
  have hb : es.size < scanBound := by rw [R.size]; exact R.few
  refine Calls.call_function_entry kind_sorted plain_sorted entry_sorted (args_sorted1 _) ?_
  unfold Builtin.«sorted»
  refine wpAny_bind (m := checkCount "sorted" 1 1 _) (wpAny_pure ?_)
  refine wpAny_bind (collect_set (A := A.in1) hh ⟨o, R.at', R.ex.1, R.dat⟩ R.fit hb R.ris R.led fun s1 vs k1 hz g1 o1 pm => ?_)
  -- the values, read as texts
  have hv : ∀ us : List Value, (∀ v ∈ us, ∃ e ∈ es.toList, v = e.2) → PySem.W.EachIs (fun v (x : Str) => ∃ t, v = Value.str x t) us (us.map fun v => keyS (0, v)) := by
    intro us
    induction us with
    | nil => intro _; exact .nil
    | cons v us ih =>
      intro h
      obtain ⟨e, he, rfl⟩ := h v List.mem_cons_self
      obtain ⟨x, tk, q⟩ := R.gd e he
      exact .cons ⟨tk, by rw [q]; rfl⟩ (ih fun u hu => h u (List.mem_cons_of_mem _ hu))
  have hv1 := hv vs fun v hv => by
    obtain ⟨e, he, q⟩ := List.mem_map.mp (pm.mem_iff.mp hv)
    exact ⟨e, he, q.symm⟩
  have pk : (vs.map fun v => keyS (0, v)).Perm ks := by
    have := pm.map fun v => keyS (0, v)
    rw [List.map_map] at this
    exact this.trans R.pm
  have hvl : vs.length = ks.length := by have := pk.length_eq; rwa [List.length_map] at this
  refine wpAny_bind (wpAny_newList ?_ (by rw [hvl, sizeLine_eq]; have := R.few; unfold scanBound at this; omega))
  have hoL : (s1.heap.push (seqObj "list" vs.toArray 0)).get? s1.heap.objs.size = some (seqObj "list" vs.toArray 0) := Heap.get?_push_size _ rfl
  have srt := PySem.W.list_sort_data (prog := P) (w := w) (A := A.in1) (E := E) (s := { s1 with heap := s1.heap.push (seqObj "list" vs.toArray 0) }) (enc := fun x : Str => PyData.str x) (Q := fun v s' => ∃ out : List Value, out.length = ks.length ∧ PySem.W.EachIs (fun v (x : Str) => ∃ t, v = Value.str x t) out (ks.mergeSort leS) ∧ v = .none ∧ s' = { s1 with heap := sortedHeap (s1.heap.push (seqObj "list" vs.toArray 0)) s1.heap.objs.size vs out.toArray })
    hoL hv1 (hv1.mono fun v x ⟨t, e⟩ => ⟨[], by rw [e]; exact .str _ _, by simp⟩) (PySem.W.AllAlike.of fun b b' => by simp [PySem.W.alike]) (PySem.W.Sortable.others fun b => ⟨by simp, by simp⟩) (by rw [List.length_map, hvl, sizeLine_eq]; have := R.few; unfold scanBound at this; omega)
    (fun b _ => by simp only [PyData.depth, Around.in1]; omega) fun out ho eo => ⟨out, by rw [ho, List.length_map, hvl], by
      have e := PySem.W.dataLe_str (fun x : Str => x)
      have e2 : (PySem.W.dataLe false fun x : Str => PyData.str x) = leS := by rw [e]; funext x y; exact decide_eq_decide.mpr Iff.rfl
      rw [e2, srt_perm pk] at eo
      exact eo, rfl, rfl⟩
  refine wpAny_bind (wpAny_holding (wpAny_mono srt (fun v s' ⟨out, ho, eo, hv, hs'⟩ => ?_) fun _ _ h => h))
  subst hv hs'
  obtain ⟨c, hc⟩ := sortedHeap_at (vs := vs) (out := out.toArray) hoL
  refine wpAny_pure ⟨_, rfl, hQ _ s1.heap.objs.size out c (fun b u e => ?_) g1 o1 hz hc eo⟩
  have q := k1 b u e
  have hlt := Heap.lt_size q
  show (sortedHeap (s1.heap.push (seqObj "list" vs.toArray 0)) s1.heap.objs.size vs out.toArray).get? b = some u
  rw [sortedHeap_old (Nat.ne_of_lt hlt) (by rw [size_push']; exact Nat.lt_succ_of_lt hlt)]
  exact Heap.get?_push_of_some _ q
end
def SetSO (w : World) (a : Addr) (ks : List Str) : HO := .ext fun h => SetX w h a ks
theorem setSO_new {w : World} {P : Program} {H : Hp} {h : Heap} {a : Addr} {ks : List Str} (R : SetX w h a ks) : ObjOk P w H h a (SetSO w a ks) := by
  have ⟨o, _, _, _, R'⟩ := R
  exact ⟨R, ⟨o, R'.at'⟩, fun h1 h2 p k => SetX.keep p k⟩
theorem strs_of_vals : ∀ {ks : List Str} {us : List Value}, Vals (ks.map V.str) us → StrsAre us ks
  | [], _, .nil => .nil
  | x :: ks, _, .cons r t => by
    obtain ⟨tk, rfl⟩ := r
    exact .cons x tk (strs_of_vals t)
theorem vals_of_each : ∀ {ks : List Str} {us : List Value}, PySem.W.EachIs (fun v (x : Str) => ∃ t, v = Value.str x t) us ks → Vals (ks.map V.str) us
  | [], _, .nil => .nil
  | x :: ks, _, .cons ⟨tk, e⟩ t => by
    subst e
    exact .cons ⟨tk, rfl⟩ (vals_of_each t)
section
variable {X : Cx}
def rSetS (w : World) : List V → Hp → VK → Prop := fun vs H Q => ∃ (a : Addr) (xs : List Str), vs = [V.ref a] ∧ H a = some (.lst (xs.map V.str)) ∧ xs.length + 1 < scanBound ∧ ∀ p : Addr, H p = none → Q (.ref p) (upd H p (SetSO w p (dd xs)))
theorem cr_setS (hc : X.calm = true) : CallR X (.type "set") (rSetS X.w) := by
  intro pins s σ H vs us Q I r h
  obtain ⟨a, ns, rfl, ha, hb, q⟩ := h
  rw [Vals.ref1 r]
  obtain ⟨z, its, n, rr, hl, e⟩ := I.lstM ha
  refine set_of_strs (its := its.toArray) ns (I.ok.hd hc) ⟨_, e, rfl, n, rfl⟩ (by simpa using strs_of_vals rr) hb fun g tk R keep => ?_
  exact ⟨.ref s.heap.objs.size, upd H s.heap.objs.size (SetSO X.w s.heap.objs.size (dd ns)), I.laid (t' := tk) (fun b u e => keep b u e) (Nat.le_refl _) (setSO_new R), rfl, q _ (I.hok.fresh (Nat.le_refl _))⟩
def rSortSetS (w : World) : List V → Hp → VK → Prop := fun vs H Q => ∃ (a : Addr) (ks : List Str), vs = [V.ref a] ∧ H a = some (SetSO w a ks) ∧ ∀ p : Addr, ks.length < scanBound → H p = none → Q (.ref p) (upd H p (.lst ((ks.mergeSort leS).map V.str)))
theorem cr_sortSetS (hc : X.calm = true) (hu : X.A.units + 64 < cLine) : CallR X (.builtin "sorted") (rSortSetS X.w) := by
  intro pins s σ H vs us Q I r h
  obtain ⟨a, ks, rfl, ha, q⟩ := h
  have R : SetX X.w s.heap a ks := (I.hok a _ ha).1
  rw [Vals.ref1 r]
  have hfew : ks.length < scanBound := by obtain ⟨_, _, _, _, R⟩ := R; exact R.few
  refine sorted_strs_set R (I.ok.hd hc) hu fun s' p out c k g o hp hg he => ?_
  have hlen : ((ks.mergeSort leS).map V.str).length ≤ sizeLine := by rw [List.length_map, List.length_mergeSort, sizeLine_eq]; unfold scanBound at hfew; omega
  have hn : H p = none := I.hok.fresh hp
  have J : Inv X pins σ (upd H p (.lst ((ks.mergeSort leS).map V.str))) { s with heap := s'.heap, gens := s'.gens, drawn := s'.drawn, toks := s'.toks } :=
    I.call (ch := []) (Un.laid k hp hn) (I.hok.laid k hp ⟨hlen, out, c, vals_of_each he, hg⟩) (by rw [g]; exact I.bare) (fun _ z => nomatch z)
  have e : s' = { s with heap := s'.heap, gens := s'.gens, drawn := s'.drawn, toks := s'.toks } := by
    cases s'
    cases s
    cases o
    rfl
  rw [e]
  exact ⟨.ref p, _, J, rfl, q p hfew hn⟩
end
/-! ### sorted(set(xs)), xs texts -/
def gSortSetS (d : D) (m : Me) : Res D := match view m d with
  | .lst xs => match strsD xs with
    | some ns => if ns.length < 4095 then .ok (.lst ((sortS (dd ns)).map .str)) m else .no
    | none => .no
  | _ => .no
theorem strs_rv' {K : PySem.W.Frag} {H : Hp} {μ : Mu} : ∀ (ks : List Str), RVs K H μ (ks.map D.str) (ks.map V.str)
  | [] => by simp [RVs]
  | k :: ks => by simp only [List.map_cons, RVs]; exact ⟨_, _, rfl, by simp [RV], strs_rv' ks⟩
theorem pd_sortSetS {X : Cx} {W : WX} {x y : Str} {e : Expr} {f : ME} {p1 p2 p3 pos : Pos} (hc : X.calm = true) (hu : X.A.units + 64 < cLine) (g1 : Gl X x) (n1 : X.mg x = none) (b1 : bootBuiltins x = some (.builtin "sorted")) (g2 : Gl X y) (n2 : X.mg y = none) (b2 : bootBuiltins y = some (.type "set")) (he : PD X W e f)
    (hx : x ≠ "__name__" := by decide) (dx : (x == ("__debug__" : Str)) = false := by decide) (hy : y ≠ "__name__" := by decide) (dy : (y == ("__debug__" : Str)) = false := by decide)
    (s1 : starEach [.Call (.Name y p2) [e] [] p3] X.env = (false, eval (.Call (.Name y p2) [e] [] p3) X.env) :: starEach [] X.env := by rfl) (s2 : starEach [e] X.env = (false, eval e X.env) :: starEach [] X.env := by rfl)
    (l1 : (backTo pos (starEach [] X.env)).any (·.1) = false := by rfl) (l2 : (backTo p3 (starEach [] X.env)).any (·.1) = false := by rfl) :
    PD X W (.Call (.Name x p1) [.Call (.Name y p2) [e] [] p3] [] pos) (m1 gSortSetS f) :=
  PE.imp (pe_callB (cr_sortSetS hc hu) g1 n1 b1 (pa_cons (pe_callTy (cr_setS hc) g2 n2 b2 (pa_cons he pa_nil s2) hy dy s2 l2) pa_nil s1) hx dx s1 l1) fun σ H Q ⟨μ, ρ, m, hH, hS, q⟩ => by
    refine seqR q hH hS fun d m1 v H1 μ1 e1 hH1 r1 hS1 q1 => ?_
    unfold gSortSetS at q1
    split at q1
    · rename_i xs ev
      split at q1
      · rename_i ns ei
        split at q1
        · rename_i hlt
          obtain ⟨a, vs, rfl, ha, hz, w1⟩ := view_lst hH1 r1 ev
          have := strsD_rv w1 ei
          subst this
          refine ⟨a, ns, rfl, ha, by unfold scanBound; omega, fun p hp => ?_⟩
          refine ⟨p, dd ns, rfl, upd_same, fun p' hfew hp' => ?_⟩
          have x1 := Ext.new (o := SetSO X.w p (dd ns)) hH1 hp
          have hN := hH1.new (o := SetSO X.w p (dd ns)) hp
          have x2 := Ext.new (o := .lst (((dd ns).mergeSort leS).map V.str)) hN hp'
          refine q1 _ _ μ1 (x1.trans x2) (hN.new hp') ?_
          simp only [RV]
          refine ⟨p', _, rfl, ⟨hN.notin hp', fun z => hN.hid _ z hp'⟩, upd_same, ?_, ?_⟩
          · rw [List.length_map, List.length_mergeSort, sizeLine_eq]; unfold scanBound at hfew; omega
          · exact strs_rv' _
        · exact q1.elim
      · exact q1.elim
    · exact q1.elim
end FL
namespace FL
open PySem PySem.Spec PyProof.Rows L2

/-! ### x in xs, any data -/
def rInX (K : PySem.W.Frag) (neg : Bool) : R2 := fun x y H Q => ∃ d ds, Dp K H x d ∧ (Dp K H y (.list ds) ∨ Dp K H y (.tuple ds)) ∧ d.canLay0 = true ∧ PyData.canLayAll0 ds = true ∧ d.depth ≤ 60 ∧ Q (.bl (if neg then !(ds.any fun z => PyData.eqv z d) else ds.any fun z => PyData.eqv z d)) H
section
variable {X : Cx}
theorem op_inX (hu : X.A.units + 64 < cLine) : OpR X (compareOp .In) (rInX X.K false) := by
  intro pins s σ H x y v u Q I rx ry h
  obtain ⟨d, ds, hd, he, sd, se, hdp, q⟩ := h
  obtain ⟨as, r1⟩ := Dp.reads I d x v hd rx
  have room : X.A.units + 1 + min (PyData.depthAll ds) d.depth < cLine := by have := Nat.min_le_right (PyData.depthAll ds) d.depth; omega
  rcases he with he | he
  · obtain ⟨bs, r2⟩ := Dp.reads I (.list ds) y u he ry
    exact SeqAt.in_list_reads r2 r1 se sd room ⟨.bl _, H, I, rfl, q⟩
  · obtain ⟨bs, r2⟩ := Dp.reads I (.tuple ds) y u he ry
    exact SeqAt.in_tuple_reads r2 r1 se sd room ⟨.bl _, H, I, rfl, q⟩
theorem op_notInX (hu : X.A.units + 64 < cLine) : OpR X (compareOp .NotIn) (rInX X.K true) := by
  intro pins s σ H x y v u Q I rx ry h
  obtain ⟨d, ds, hd, he, sd, se, hdp, q⟩ := h
  obtain ⟨as, r1⟩ := Dp.reads I d x v hd rx
  have room : X.A.units + 1 + min (PyData.depthAll ds) d.depth < cLine := by have := Nat.min_le_right (PyData.depthAll ds) d.depth; omega
  rcases he with he | he
  · obtain ⟨bs, r2⟩ := Dp.reads I (.list ds) y u he ry
    exact SeqAt.notIn_list_reads r2 r1 se sd room ⟨.bl _, H, I, rfl, q⟩
  · obtain ⟨bs, r2⟩ := Dp.reads I (.tuple ds) y u he ry
    exact SeqAt.notIn_tuple_reads r2 r1 se sd room ⟨.bl _, H, I, rfl, q⟩
end
def gInX (neg : Bool) (d d' : D) (m : Me) : Res D := match py (view m d), py (view m d') with
  | some p, some (.list xs) => if p.canLay0 = true ∧ PyData.canLayAll0 xs = true ∧ p.depth ≤ 60 then .ok (.bl (if neg then !(xs.any fun z => PyData.eqv z p) else xs.any fun z => PyData.eqv z p)) m else .no
  | some p, some (.tuple xs) => if p.canLay0 = true ∧ PyData.canLayAll0 xs = true ∧ p.depth ≤ 60 then .ok (.bl (if neg then !(xs.any fun z => PyData.eqv z p) else xs.any fun z => PyData.eqv z p)) m else .no
  | _, _ => .no
theorem g_inX {K : PySem.W.Frag} {neg : Bool} : G2 K (rInX K neg) (gInX neg) := fun Ex H μ m d d' x y Q hH r1 r2 q => by
  unfold gInX at q
  split at q
  · rename_i p xs e1 e2
    split at q
    · rename_i hs
      exact ⟨p, xs, dp_view hH r1 e1, .inl (dp_view hH r2 e2), hs.1, hs.2.1, hs.2.2, q _ H μ .refl hH (by simp [RV])⟩
    · exact q.elim
  · rename_i p xs e1 e2
    split at q
    · rename_i hs
      exact ⟨p, xs, dp_view hH r1 e1, .inr (dp_view hH r2 e2), hs.1, hs.2.1, hs.2.2, q _ H μ .refl hH (by simp [RV])⟩
    · exact q.elim
  · exact q.elim
end FL
namespace FL
open PySem PySem.Spec PyProof.Rows L2

/-! ### the signs of a text, walked -/
def txtL (x : Str) : List D := x.cps.toList.map fun c => .str ⟨#[c]⟩
theorem goes_txt {K : PySem.W.Frag} {H : Hp} {μ : Mu} {x : Str} : Goes1 K (Its x) H μ (txtL x) gdY := by
  intro H1 μ1 m e hH _
  refine ⟨fun i d e => ?_, by show x.cps.size ≤ (txtL x).length; simp [txtL]⟩
  unfold txtL at e
  rw [List.getElem?_map, Option.map_eq_some_iff] at e
  obtain ⟨c, hc, rfl⟩ := e
  rw [Array.getElem?_toList] at hc
  refine ⟨(Array.getElem?_eq_some_iff.mp hc).1, ?_⟩
  rintro y H' ⟨rfl, c', hc', rfl⟩
  rw [hc] at hc'; cases hc'
  exact ⟨.refl, hH, by simp [RV]⟩
noncomputable def iTxt (f : ME) : MI := fun ρ m => (f ρ m).bind fun d m => match d with
  | .str x => if x.length < 1000000 then .ok (txtL x, gdY) m else .no
  | _ => .no
theorem pdi_txt {X : Cx} {W : WX} {tg e : Expr} {f : ME} (he : PD X W e f) : PDI X W tg e (iTxt f) :=
  PI.imp (pi_str he) fun σ H R ⟨μ, ρ, m, hH, hS, q⟩ => seqR q hH hS fun d m1 v H1 μ1 e1 hH1 r1 hS1 q1 => by
    cases d with
    | str x =>
      simp only [RVv, RV] at r1
      simp only at q1
      split at q1
      · rename_i hl
        exact ⟨x, r1, q1 _ H1 μ1 .refl hH1 ⟨by unfold txtL; simp only [List.length_map, Array.length_toList]; have : x.length = x.cps.size := rfl; rw [sizeLine_eq]; omega, goes_txt⟩⟩
      · exact q1.elim
    | _ => exact q1.elim
end FL

set_option maxRecDepth 100000
namespace FL
open PySem PySem.Spec PyProof.Rows L2

/-! ### x in d.values(), flat values -/
theorem noContains_values : typeLookup (.type "dict_values") "__contains__" = pure none := by rw [typeLookup_type, builtinLookup_eq_fast]; kernel_rfl
theorem entry_contains_iter : entryFor table "proto.contains_iter" = some Builtin.«proto.contains_iter» := entryFor_of_tree (by kernel_rfl)
theorem plain_contains_iter : plainId "proto.contains_iter" = true := by decide +kernel
section
variable {P : Program} {w : World} {A : Around} {E : Value → Shared → Prop} {s : Shared}
theorem contains_loop {I : Addr} {fp wr : List Addr} {G : Array GenState → Array GenState → Prop} {n : Nat} {Pv : Nat → Value → Prop} {St : Nat → Shared → Prop} {R : Result → Shared → Prop} {x : Value} {vs : List Value} {e : Value → Bool}
    (W : WalksS P w A.in1 I fp wr G n Pv St) (hn : n = vs.length) (hval : ∀ i v, Pv i v → vs[i]? = some v) (he : ∀ v ∈ vs, ∀ (A : Around) (s : Shared), SeqAt.EqAt A s v x (e v)) :
    ∀ (k i : Nat) (s : Shared), n - i = k → i ≤ n → St i s → (∀ s', Moved wr G s s' → R (.ok (.ret (.bool ((vs.drop i).any e)))) s') →
      codeAny (model P w) A (.builtin "proto.contains_iter" ⟨[.ref I, x], []⟩) R s := by
  intro k
  induction k with
  | zero =>
    intro i s hk hi hst hR
    have hin : i = n := by omega
    subst hin
    refine codeAny_builtin entry_contains_iter ?_
    rw [Around.under_plainId plain_contains_iter _]
    show wpAny _ A.in1 (pyNext (.ref I) >>= _) _ _ s
    refine wpAny_bind (W.done s _ _ hst fun s' hm => ?_)
    have hq := hR s' hm
    rw [hn, List.drop_length] at hq
    show wpAny _ A.in1 (do rule "in.by-iteration.exhausted"; ret (.bool false)) _ _ s'
    exact wpAny_bind (wpAny_rule (wpAny_pure hq))
  | succ k ih =>
    intro i s hk hi hst hR
    have hlt : i < n := by omega
    refine codeAny_builtin entry_contains_iter ?_
    rw [Around.under_plainId plain_contains_iter _]
    show wpAny _ A.in1 (pyNext (.ref I) >>= _) _ _ s
    refine wpAny_bind (W.item i s _ _ hlt hst fun v s' hP hst' hm => ?_)
    have hv := hval i v hP
    have hdr : vs.drop i = v :: vs.drop (i + 1) := by
      obtain ⟨h1, h2⟩ := List.getElem?_eq_some_iff.mp hv
      rw [List.drop_eq_getElem_cons h1, h2]
    rw [hdr, List.any_cons] at hR
    show wpAny _ A.in1 (do
      let b ← eqBool v x
      if b = true then do rule "in.by-iteration.found"; ret (.bool true) else again (.builtin "proto.contains_iter" ⟨[.ref I, x], []⟩)) _ _ s'
    refine wpAny_bind (he v (List.mem_of_getElem? hv) A.in1 s' P w _ _ ?_)
    cases hb : e v with
    | true =>
      rw [hb, Bool.true_or] at hR
      rw [if_pos rfl]
      exact wpAny_bind (wpAny_rule (wpAny_pure (hR s' hm)))
    | false =>
      rw [hb, Bool.false_or] at hR
      rw [if_neg Bool.false_ne_true]
      exact wpAny_pure ⟨plainId_quiet plain_contains_iter _, ih (i + 1) s' (by omega) hlt hst' fun s'' hm'' => hR s'' (Moved.trans W.gtrans hm hm'')⟩
theorem in_values {W a : Addr} {x : Value} {vs : List (Key × Value)} {ep : Nat} {e : Value → Bool} {Q : Value → Shared → Prop} (hh : A.handled = none) (hW : s.heap.IsValuesView W a) (hd : s.heap.DictAt (mixKind P w) a vs ep) (he : ∀ p ∈ vs, ∀ (A : Around) (s : Shared), SeqAt.EqAt A s p.2 x (e p.2))
    (hQ : ∀ s' : Shared, (∀ b o, s.heap.get? b = some o → s'.heap.get? b = some o) → s'.gens = s.gens → s'.os = s.os → s'.drawn = s.drawn → Q (.bool (vs.any fun p => e p.2)) s') :
    wpAny (model P w) A (compareOp .In x (.ref W)) Q E s := by
  show wpAny _ _ (do return .bool (← contains (.ref W) x)) Q E s
  refine wpAny_bind ?_
  unfold contains
  try with_reducible refine wpAny_holding ?_
  refine wpAny_bind (wpAny_specialOf hW.typeIs noContains_values ?_)
  show wpAny _ _ (if ((none : Option Value) == some Value.none) = true then _ else _) _ E s
  rw [if_neg (by decide)]
  refine wpAny_bind (wpAny_callSpecialUnlessNone?_none (name := Str.ofString "__contains__") hW.typeIs noContains_values ?_)
  dsimp only
  refine wpAny_bind (wpAny_rule ?_)
  refine wpAny_bind (wpAny_tryCatch (wpAny_pyIter_values hW hd ?_))
  refine wpAny_bind (wpAny_runValue ?_)
  have hlt : a < s.heap.objs.size := by obtain ⟨o, es, ho, _⟩ := hd; exact Heap.lt_size ho
  have h3 : A.in1.handled = none := by simp [hh]
  refine contains_loop (vs := vs.map (·.2)) (e := e) ((Walks.dictValues (knd := mixKind P w) h3 s.heap.objs.size a (Nat.ne_of_lt hlt) vs ep).toS) (by simp) (fun i v ⟨k, hk⟩ => by rw [List.getElem?_map, hk]; rfl) (fun v hv => ?_) (vs.length - 0) 0 { s with heap := s.heap.push { cls := .type "dict_valueiterator", data := .fields #[.ref a, .int 0 0, .int vs.length 0, .int ep 0] } } rfl (Nat.zero_le _) ⟨⟨_, Heap.get?_push_size _ rfl, rfl, rfl⟩, by exact hd.keep fun b u e => Heap.get?_push_of_some _ e⟩ fun s' hm => ?_
  · obtain ⟨p, hp, rfl⟩ := List.mem_map.mp hv
    exact he p hp
  · show wpAny _ _ _ _ _ s'
    refine wpAny_pure (wpAny_pure ?_)
    rw [List.drop_zero, List.any_map]
    exact hQ s' (fun b o e => hm.heap b o (fun h => Nat.lt_irrefl _ ((List.mem_singleton.mp h) ▸ Heap.lt_size e)) (Heap.get?_push_of_some _ e)) hm.gens hm.os hm.drawn
end
theorem kv_any {κ : Type} {y : V} {kvs : List (κ × V)} {vs : List (κ × Value)} (r : KV kvs vs) (f : (kvs.map (·.2)).all flatV = true) : (vs.any fun p => eqU y p.2) = (kvs.map (·.2)).any fun z => eqV z y := by
  unfold KV at r
  induction r with
  | nil => rfl
  | cons r t ih =>
    simp only [List.map_cons, List.all_cons, Bool.and_eq_true] at f
    simp only [List.any_cons, List.map_cons]
    rw [ih f.2, eqU_of r.2 f.1]
def tInV (ty td : TE) : TE := fun σ H Q => ty σ H fun y H1 => td σ H1 fun x H2 => ∃ a kvs, x = V.ref a ∧ Rd H2 a (.dK kvs) ∧ flatV y = true ∧ (kvs.map (·.2)).all flatV = true ∧ Q (.bl ((kvs.map (·.2)).any fun z => eqV z y)) H2
section
variable {X : Cx} {o i : Expr} {td ty : TE} {apos mpos : Pos}
theorem pc_inVh (hc : X.calm = true) (hi : PE X i ty) (hd : PE X o td) (hbase : attributeBase o "values" X.env (eval o X.env) = eval o X.env := by rfl) (hline : (apos.endLine == mpos.line) = true := by rfl) :
    PC X .In i (.Call (.Attribute o "values" apos) [] [] mpos) (tInV ty td) := by
  refine ⟨fun pins s σ H Q I h => ?_⟩
  refine thn (hi.run pins s σ H _ I h) fun iv s0 ⟨y, H0, I0, ry, q0⟩ => ?_
  refine wpAny_Call_method0_late hbase hline (thn (hd.run pins s0 σ H0 _ I0 q0) fun v s1 ⟨x, H1, I1, r1, a, kvs, ex, ha, fy, fv, q⟩ => ?_)
  subst ex
  obtain rfl : v = Value.ref a := r1
  obtain ⟨_, hsys, vs, rel, dof⟩ := dk_rd I1.hok ha
  obtain ⟨ep, dat⟩ := dof.dictAt
  have dat' := dat
  obtain ⟨ob, es, ho, ex, hdat, hko, hpr, hnd⟩ := dat'
  refine ⟨"dict", "dict.values", F.plainAttrs_dict, F.slot_dict_values, F.type_dict_values, ⟨ob, ho, ex.1⟩, fun b e => ?_, Calls.callWith_builtin rfl (PySem.evalArgs_none ?_)⟩
  · cases e
    exact ⟨ob, ho, ex.2.1⟩
  refine call_meetsIn F.slot_dict_values ⟨ob, ho, ex.1⟩ F.entry_dict_values (F.args_dict_values_1 _) (meets_dict_values (mixKind X.prog X.w) a hsys) ⟨⟨vs, dof⟩, ?_⟩
  have k1 : ∀ b u, s1.heap.get? b = some u → (s1.heap.push { cls := .type "dict_values", data := .fields #[.ref a] }).get? b = some u := fun b u e => Heap.get?_push_of_some _ e
  have dat1 : (s1.heap.push { cls := .type "dict_values", data := .fields #[.ref a] }).DictAt (mixKind X.prog X.w) a vs ep := dat.keep k1
  refine in_values (s := { s1 with heap := s1.heap.push { cls := .type "dict_values", data := .fields #[.ref a] } }) (e := eqU y) (I1.ok.hd hc) ⟨_, Heap.get?_push_size _ rfl, rfl, rfl⟩ dat1 (fun p hp A s => ?_) fun s' k2 g o d => ?_
  · obtain ⟨j, hj, e⟩ := List.getElem_of_mem hp
    obtain ⟨k, u⟩ := p
    obtain ⟨z, h1, h2⟩ := KV.at' rel (i := j) (k := k) (v := u) (by rw [List.getElem?_eq_getElem hj, e])
    have fz : flatV z = true := List.all_eq_true.mp fv z (List.mem_map.mpr ⟨_, List.mem_of_getElem? h1, rfl⟩)
    rw [eqU_of h2 fz]
    exact eqAt_V h2 ry fz fy
  · have J := I1.kept (h' := s'.heap) (t' := s'.toks) fun b u e => k2 b u (k1 b u e)
    have e : s' = { s1 with heap := s'.heap, toks := s'.toks } := by
      cases s'
      simp only at g o d
      subst g o d
      rfl
    rw [e, kv_any rel fv]
    exact ⟨.bl _, H1, J, rfl, q⟩
end
theorem rvk_vals {K : PySem.W.Frag} {H : Hp} {μ : Mu} : ∀ {kvs : List (Key × D)} {ps : List (Key × V)}, RVk K H μ kvs ps → RVs K H μ (kvs.map (·.2)) (ps.map (·.2))
  | [], ps, r => by simp only [RVk] at r; subst r; simp [RVs]
  | (k, d) :: kvs, ps, r => by
    simp only [RVk, RVp] at r
    obtain ⟨v, w, rfl, r1, r2⟩ := r
    simp only [List.map_cons, RVs]
    exact ⟨v, _, rfl, r1, rvk_vals r2⟩
/-- x in d.values() -/
def gInV (k d : D) (m : Me) : Res D := match view m d with
  | .dct kvs => if flatD k = true ∧ (kvs.map (·.2)).all flatD = true then .ok (.bl ((kvs.map (·.2)).any fun z => eqF z k)) m else .no
  | _ => .no
section
variable {X : Cx} {W : WX} {o i : Expr} {fi fo : ME} {apos mpos pos : Pos}
theorem pc_inV (hc : X.calm = true) (hi : PD X W i fi) (ho : PD X W o fo) (hbase : attributeBase o "values" X.env (eval o X.env) = eval o X.env := by rfl) (hline : (apos.endLine == mpos.line) = true := by rfl) :
    PC X .In i (.Call (.Attribute o "values" apos) [] [] mpos) (tR X.K W (RVv X.K) (m2 gInV fi fo)) :=
  ⟨fun pins s σ H Q I h => (pc_inVh hc hi ho hbase hline).run pins s σ H Q I (by
    obtain ⟨μ, ρ, m, hH, hS, q⟩ := h
    refine seqR q hH hS fun d m1 v H1 μ1 e1 hH1 r1 hS1 q1 => ?_
    refine seqR q1 hH1 hS1 fun d' m2 v' H2 μ2 e2 hH2 r2 hS2 q2 => ?_
    unfold gInV at q2
    split at q2
    · rename_i kvs e3
      split at q2
      · rename_i hf
        obtain ⟨a, ps, rfl, h1, h2⟩ := view_dct hH2 r2 e3
        have r1' := RV.ext e2 d v r1
        obtain ⟨g1, g2⟩ := inD_eq r1' hf.1 (rvk_vals h2) hf.2
        exact ⟨a, ps, rfl, h1, by rw [← flat_eq r1']; exact hf.1, g1, q2 _ H2 μ2 .refl hH2 (by simp only [RVv, RV, g2]; rfl)⟩
      · exact q2.elim
    · exact q2.elim)⟩
theorem pd_inV (hc : X.calm = true) (hi : PD X W i fi) (ho : PD X W o fo) (hbase : attributeBase o "values" X.env (eval o X.env) = eval o X.env := by rfl) (hline : (apos.endLine == mpos.line) = true := by rfl) (h1 : behindInMarks .In (.Call (.Attribute o "values" apos) [] [] mpos) = false := by rfl) :
    PD X W (.Compare i [.In] [.Call (.Attribute o "values" apos) [] [] mpos] pos) (m2 gInV fi fo) := pe_cmp (pc_inV hc hi ho hbase hline) h1
theorem pdt_inV (hc : X.calm = true) (hi : PD X W i fi) (ho : PD X W o fo) (hbase : attributeBase o "values" X.env (eval o X.env) = eval o X.env := by rfl) (hline : (apos.endLine == mpos.line) = true := by rfl) (h1 : behindInMarks .In (.Call (.Attribute o "values" apos) [] [] mpos) = false := by rfl) :
    PDT X W (.Compare i [.In] [.Call (.Attribute o "values" apos) [] [] mpos] pos) (mB (m2 gInV fi fo)) := PT.imp (pt_cmp (pc_inV hc hi ho hbase hline) h1) fun σ H Q h => tB_imp h
end
end FL
namespace FL
open PySem PySem.Spec PyProof.Rows L2

/-! ### two dicts that are equal, compared -/
def rNeDR : R2 := fun x y H Q => ∃ a b ks ls, x = .ref a ∧ y = .ref b ∧ Rd H a (.dK ks) ∧ Rd H b (.dK ls) ∧ ks.length = ls.length ∧ (∀ p ∈ ks, valV ls p.1 = some p.2 ∧ flatB p.2 = true) ∧ Q (.bl false) H
theorem op_neDR {X : Cx} (hu : X.A.units + 64 < cLine) : OpR X (compareOp .NotEq) rNeDR := by
  intro pins s σ H x y v u Q I rx ry h
  obtain ⟨a, b, ks, ls, rfl, rfl, ea, eb, hlen, hp, q⟩ := h
  obtain rfl : v = Value.ref a := rx
  obtain rfl : u = Value.ref b := ry
  obtain ⟨_, ya, va, ra, da⟩ := dk_rd I.hok ea
  obtain ⟨_, yb, vb, rb, db⟩ := dk_rd I.hok eb
  have hl : va.length = vb.length := by rw [← ra.length, ← rb.length]; exact hlen
  exact PySem.W.keq_ne (knd := mixKind X.prog X.w) (r := true) ya yb da db (by omega) (fun _ => hits_all rb ra hp) (fin_bl I q (by simp [hl]))
theorem flat_one {K : PySem.W.Frag} {H : Hp} {μ : Mu} {d : D} {v v' : V} (f : flatD d = true) (r : RV K H μ d v) (r' : RV K H μ d v') : v = v' ∧ flatB v = true := by
  cases d <;> first | (simp only [RV] at r r'; subst r r'; exact ⟨rfl, rfl⟩) | cases f
open Classical in
noncomputable def gNeK (d d' : D) (m : Me) : Res D := match view m d, view m d' with
  | .dct ks, .dct ls => if ks.length = ls.length ∧ ∀ p ∈ ks, flatD p.2 = true ∧ getK ls p.1 = some p.2 then .ok (.bl false) m else .no
  | _, _ => .no
theorem g_neK {K : PySem.W.Frag} : G2 K rNeDR gNeK := fun Ex H μ m d d' x y Q hH r1 r2 q => by
  unfold gNeK at q
  split at q
  · rename_i ks ls e1 e2
    split at q
    · rename_i h
      obtain ⟨a, ps, rfl, h1, h2⟩ := view_dct hH r1 e1
      obtain ⟨b, qs, rfl, h3, h4⟩ := view_dct hH r2 e2
      obtain ⟨ts, t1, t2, t3⟩ := rvq_pairs h2
      have g4 := rvk_iff.mp h4
      have hlen : ps.length = qs.length := by
        have l1 := rvq_len (rvk_iff.mp h2)
        have l2 := rvq_len g4
        omega
      refine ⟨a, b, ps, qs, rfl, rfl, h1, h3, hlen, fun p hp => ?_, q _ H μ .refl hH (by simp [RV])⟩
      rw [t2] at hp
      obtain ⟨t, ht, rfl⟩ := List.mem_map.mp hp
      obtain ⟨z1, z2⟩ := h.2 (t.1, t.2.1) (by rw [t1]; exact List.mem_map_of_mem (f := fun t : Key × D × V => (t.1, t.2.1)) ht)
      have hr := t3 t ht
      have hg := rvq_get (k := t.1) g4
      simp only at z1 z2
      rw [z2] at hg
      obtain ⟨w, w1, w2⟩ := hg
      obtain ⟨f1, f2⟩ := flat_one z1 hr w2
      exact ⟨by rw [w1, ← f1], f2⟩
    · exact q.elim
  · exact q.elim
end FL

set_option maxRecDepth 100000
namespace FL
open PySem PySem.Spec PyProof.Rows L2

/-! ### d.update(d2) -/
def rDUpd : V → List V → Hp → VK → Prop := fun x xs H Q => ∃ (a b : Addr) (ks ms : List (Key × V)), x = .ref a ∧ xs = [.ref b] ∧ a ≠ b ∧ H a = some (.dK ks) ∧ Rd H b (.dK ms) ∧ ks.length + ms.length ≤ sizeLine ∧ Q .non (upd H a (.dK (mergeK ks ms)))
theorem mt_dupd {X : Cx} : MtR X "dict.update" rDUpd := by
  intro pins s σ H x xs v us Q I rx rxs h
  obtain ⟨a, b, ks, ms, rfl, rfl, hab, ha, hb, hsz, q⟩ := h
  obtain rfl : v = Value.ref a := rx
  obtain ⟨u, rfl, ru⟩ := rxs.one
  obtain rfl : u = Value.ref b := ru
  obtain ⟨_, ya, va, ra, da⟩ := dk_of I.hok ha
  obtain ⟨_, yb, vb, rb, db⟩ := dk_rd I.hok hb
  have hl : va.length + vb.length ≤ sizeLine := by rw [← ra.length, ← rb.length]; exact hsz
  refine call_meetsIn PySem.F.slot_dict_update da.typeIs PySem.F.entry_dict_update (PySem.F.args_dict_update_2 _ _) (meets_dict_update (mixKind X.prog X.w) a b hab yb) ⟨va, vb, da, db, hl, fun h' hd' ho' sb => ?_⟩
  have hm : ObjOk X.prog X.w (upd H a (.dK (mergeK ks ms))) h' a (.dK (mergeK ks ms)) := ⟨Nat.le_trans (length_mergeK ms ks) hsz, ya, merged va vb, KV.merge rb ra, hd'⟩
  have he : ∃ u, h'.get? a = some u := by obtain ⟨o, _, _, ho, _⟩ := hd'; exact ⟨o, ho⟩
  exact ⟨.non, _, I.write (e := a) (t' := s.toks) (by rw [ha]; trivial) (.inl rfl) (fun b u hb hu => (sb.2 b hb).trans hu) he hm, rfl, q⟩
def tDUpd (to : TE) (t : TA) : TE := fun σ H Q => to σ H fun x H1 => (∃ a, x = V.ref a ∧ IsD H1 a) ∧ t σ H1 fun xs H2 => rDUpd x xs H2 Q
section
variable {X : Cx} {o e : Expr} {es : List Expr} {to : TE} {t : TA} {apos cpos : Pos}
theorem pe_dupd (ho : PE X o to) (ha : PA X (e :: es) t)
    (hbase : attributeBase o "update" X.env (eval o X.env) = eval o X.env := by rfl)
    (hfew : ((backTo cpos (starEach (e :: es) X.env)).all (fun x => !x.1) && (backToKw cpos (keywordEach [] X.env)).all (fun x => x.1.isSome)
      && decide ((e :: es).length + ([] : List Keyword).length + (if ([] : List Keyword).isEmpty then 0 else 1) < 30)) = true := by rfl)
    (hline : (apos.endLine == cpos.line) = true := by rfl) (hs : starEach (e :: es) X.env = (false, eval e X.env) :: starEach es X.env := by rfl) (hplain : (backTo cpos (starEach es X.env)).any (·.1) = false := by rfl) :
    PE X (.Call (.Attribute o "update" apos) (e :: es) [] cpos) (tDUpd to t) := by
  refine ⟨fun pins s σ H Q I h => ?_⟩
  refine wpAny_Call_method_late hbase hfew hline rfl (thn (ho.run pins s σ H _ I h) fun v s1 ⟨x, H1, I1, r1, ty, q1⟩ => ?_)
  obtain ⟨a, ex, hd⟩ := ty
  subst ex
  obtain rfl : v = Value.ref a := r1
  obtain ⟨t1, t2, _⟩ := isD_at I1 hd
  refine ⟨"dict", "dict.update", PySem.F.plainAttrs_dict, PySem.F.slot_dict_update, PySem.F.type_dict_update, t1, t2, ?_⟩
  have hA := ha.run cpos pins s1 σ H1 _ I1 q1
  rw [hs] at hA ⊢
  refine Calls.callWith_builtin (by show (false || (backTo cpos (starEach es X.env)).any (·.1)) = false; rw [hplain] <;> rfl) (Calls.evalArgs_plain ?_)
  exact thn hA fun us s2 ⟨vs, H2, I2, r2, q2⟩ => mt_dupd pins s2 σ H2 (.ref a) vs (.ref a) us Q I2 rfl r2 q2
end
def mDupd (fo fe : ME) : ME := fun ρ m => (fo ρ m).bind fun d m => match d with
  | .ref i => match m[i]? with
    | some (.dK _) => (fe ρ m).bind fun y m => match m[i]?, y with
      | some (.dK ks), .dct ms => if ks.length + ms.length < 1000000 then .ok .non (m.set i (.dK (ms.foldl (fun acc kv => setK acc kv.1 kv.2) ks))) else .no
      | _, _ => .no
    | _ => .no
  | _ => .no
section
variable {X : Cx} {W : WX} {o e : Expr} {fo fe : ME} {apos cpos : Pos}
theorem pd_dupd (ho : PD X W o fo) (he : PD X W e fe) (hbase : attributeBase o "update" X.env (eval o X.env) = eval o X.env := by rfl)
    (hfew : ((backTo cpos (starEach [e] X.env)).all (fun x => !x.1) && (backToKw cpos (keywordEach [] X.env)).all (fun x => x.1.isSome)
      && decide (([e] : List Expr).length + ([] : List Keyword).length + (if ([] : List Keyword).isEmpty then 0 else 1) < 30)) = true := by rfl)
    (hline : (apos.endLine == cpos.line) = true := by rfl) (hs : starEach [e] X.env = (false, eval e X.env) :: starEach [] X.env := by rfl) (hplain : (backTo cpos (starEach [] X.env)).any (·.1) = false := by rfl) :
    PD X W (.Call (.Attribute o "update" apos) [e] [] cpos) (mDupd fo fe) :=
  PE.imp (pe_dupd ho (pa_cons he pa_nil hs) hbase hfew hline hs hplain) fun σ H Q ⟨μ, ρ, m, hH, hS, q⟩ => by
    refine seqR q hH hS fun d m1 v H1 μ1 e1 hH1 r1 hS1 q1 => ?_
    cases d with
    | ref i =>
      simp only [RVv, RV] at r1
      obtain ⟨a, rfl, ha⟩ := r1
      cases e2 : m1[i]? with
      | none => simp only [e2] at q1; exact q1.elim
      | some c =>
        cases c with
        | dK kvs0 =>
          simp only [e2] at q1
          obtain ⟨a', ea, ps0, hs0, _⟩ := hH1.at' i _ e2
          rw [ha] at ea; cases ea
          refine ⟨⟨a, rfl, .inl ⟨ps0, .inl hs0⟩⟩, ?_⟩
          refine seqR q1 hH1 hS1 fun y m2 z H2 μ2 e2' hH2 r2 hS2 q2 => ?_
          have ha2 := e2'.get ha
          cases e3 : m2[i]? with
          | none => simp only [e3] at q2; exact q2.elim
          | some c =>
            cases c with
            | dK ks =>
              cases y with
              | dct ms =>
                simp only [e3] at q2
                split at q2
                · rename_i hl
                  obtain ⟨a', ea, ps, hs2, hr⟩ := hH2.at' i _ e3
                  rw [ha2] at ea; cases ea
                  simp only [RVv, RV] at r2
                  obtain ⟨b, qs, rfl, hn, hb, hr2⟩ := r2
                  have hab : a ≠ b := fun e => hn.1 (e ▸ List.mem_of_getElem? ha2)
                  have l1 := rvq_len (rvk_iff.mp hr)
                  have l2 := rvq_len (rvk_iff.mp hr2)
                  have x := Ext.wr (o := .dK (mergeK ps qs)) hH2 ha2
                  refine ⟨a, b, ps, qs, rfl, rfl, hab, hs2, hb, by rw [← l1, ← l2, sizeLine_eq]; omega, ?_⟩
                  refine q2 _ _ μ2 x (hH2.wr ha2 ⟨_, upd_same, rvk_iff.mpr ?_⟩) (by simp [RV])
                  exact L2.Paired.mapP (merge_rv (rvk_iff.mp hr2) (rvk_iff.mp hr)) fun p q z => ⟨z.1, RV.ext x _ _ z.2⟩
                · exact q2.elim
              | _ => simp only [e3] at q2; exact q2.elim
            | _ => simp only [e3] at q2; exact q2.elim
        | _ => simp only [e2] at q1; exact q1.elim
    | _ => exact q1.elim
end
end FL
namespace FL
open PySem PySem.Spec PyProof.Rows L2

/-! ### dict(xs), xs a list of pairs: a dict as a value -/
def pairD : D → Option (Key × D)
  | .tup [k, v] => (keyD k).map fun k => (k, v)
  | _ => none
def pairsD : List D → Option (List (Key × D))
  | [] => some []
  | d :: ds => (pairD d).bind fun p => (pairsD ds).map fun r => p :: r
def gDictP (ds : List D) (m : Me) : Res D := match ds with
  | [d] => match (lstV m d).bind pairsD with
    | some kvs => .ok (.dct (kvs.foldl (fun acc kv => setK acc kv.1 kv.2) [])) m
    | none => .no
  | _ => .no
theorem pairs_rv {K : PySem.W.Frag} {H : Hp} {μ : Mu} : ∀ {ds : List D} {vs : List V} {kvs : List (Key × D)}, RVs K H μ ds vs → pairsD ds = some kvs → ∃ (ps : List Addr) (us : List (Key × V)), vs = ps.map V.ref ∧ RVq K H μ kvs us ∧ Paired (fun p kv => SqT K H p [kV kv.1, kv.2]) ps us
  | [], vs, kvs, r, e => by
    simp only [RVs] at r; subst r
    simp only [pairsD] at e; cases e
    exact ⟨[], [], rfl, .nil, .nil⟩
  | d :: ds, vs, kvs, r, e => by
    simp only [RVs] at r
    obtain ⟨v, w, rfl, r1, r2⟩ := r
    simp only [pairsD] at e
    obtain ⟨p, e1, e2⟩ := Option.bind_eq_some_iff.mp e
    obtain ⟨q, e3, rfl⟩ := Option.map_eq_some_iff.mp e2
    obtain ⟨ps, us, rfl, h1, h2⟩ := pairs_rv r2 e3
    unfold pairD at e1
    split at e1
    · rename_i k x
      obtain ⟨k', ek, rfl⟩ := Option.map_eq_some_iff.mp e1
      simp only [RV] at r1
      obtain ⟨a, xs, rfl, hs, hz, hr⟩ := r1
      simp only [RVs] at hr
      obtain ⟨u1, w1, rfl, g1, u2, w2, rfl, g2, rfl⟩ := hr
      have hk := keyD_rv g1 ek
      subst hk
      exact ⟨a :: ps, (k', u2) :: us, rfl, .cons ⟨rfl, g2⟩ h1, .cons hs.sq h2⟩
    · cases e1
theorem g_dictP {K : PySem.W.Frag} : GC K (fun xs H Q => ∃ (a : Addr) (ps : List Addr) (kvs : List (Key × V)), xs = [.ref a] ∧ SqL K H a (ps.map V.ref) ∧ Paired (fun p kv => SqT K H p [kV kv.1, kv.2]) ps kvs ∧
    ∀ p, H p = none → Q (.ref p) (upd H p (.dK (mergeK [] kvs)))) gDictP := fun Ex H μ m ds vs Q hH rr q => by
  unfold gDictP at q
  split at q
  · obtain ⟨v, rfl, r⟩ := rvs1 rr
    split at q
    · rename_i d kvs e
      obtain ⟨xs, e1, e2⟩ := Option.bind_eq_some_iff.mp e
      obtain ⟨a, ws, rfl, ha, hz, hr⟩ := lstV_of hH r e1
      obtain ⟨ps, us, rfl, h1, h2⟩ := pairs_rv hr e2
      refine ⟨a, ps, us, rfl, .of ha, h2, fun p hp => ?_⟩
      have x := Ext.new (o := .dK (mergeK [] us)) hH hp
      refine q _ _ μ x (hH.new hp) ?_
      simp only [RV]
      refine ⟨p, _, rfl, ⟨hH.notin hp, fun z => hH.hid _ z hp⟩, .inl upd_same, rvk_iff.mpr ?_⟩
      exact L2.Paired.mapP (merge_rv h1 .nil) fun p q z => ⟨z.1, RV.ext x _ _ z.2⟩
    · exact q.elim
  · exact q.elim
end FL

set_option maxRecDepth 100000
namespace FL
open PySem PySem.Spec PyProof.Rows L2

/-! ### range(i, j, -1) -/
def rngD (i : Int) (n : Nat) : List D := (List.range n).map fun (k : Nat) => .int (i + k * (-1))
theorem goes_rngD {K : PySem.W.Frag} {H : Hp} {μ : Mu} {i : Int} {n : Nat} : Goes1 K (Itc i (-1) n) H μ (rngD i n) gdY := by
  intro H1 μ1 m x hH _
  refine ⟨fun j d e => ?_, by show n ≤ (rngD i n).length; simp [rngD]⟩
  have hj : j < n := by
    have := (List.getElem?_eq_some_iff.mp e).1
    simpa [rngD] using this
  refine ⟨hj, ?_⟩
  rintro y H' ⟨rfl, rfl⟩
  have : d = .int (i + j * (-1)) := by
    simp only [rngD, List.getElem?_map, List.getElem?_range hj, Option.map_some] at e
    exact (Option.some.inj e).symm
  subst this
  exact ⟨.refl, hH, by simp [RV]⟩
def iRange3 (f : MA) : MI := fun ρ m => (f ρ m).bind fun ds m => match ds with
  | [.int i, .int j, .int c] => if c = -1 ∧ (i ≤ 1000000 ∧ -1000000 ≤ i) ∧ j ≤ 1000000 ∧ -1000000 ≤ j then .ok (rngD i (i - j).toNat, gdY) m else .no
  | _ => .no
section
variable {X : Cx} {W : WX} {tg a b c : Expr} {p pos : Pos}
theorem ints3 {K : PySem.W.Frag} {H : Hp} {μ : Mu} {i j k : Int} {vs : List V} (r : RVs K H μ [.int i, .int j, .int k] vs) : vs = [.int i, .int j, .int k] := by
  simp only [RVs, RV] at r
  obtain ⟨v, r, rfl, rfl, v', r', rfl, rfl, v'', r'', rfl, rfl, rfl⟩ := r
  rfl
theorem pdi_range3 {f : MA} (hg : Gl X "range") (hm : X.mg "range" = none) (ha : PDA X W 3 [a, b, c] f) (hs : starEach [a, b, c] X.env = (false, eval a X.env) :: starEach [b, c] X.env := by rfl) (hpl : (backTo pos (starEach [b, c] X.env)).any (·.1) = false := by rfl) :
    PDI X W tg (.Call (.Name "range" p) [a, b, c] [] pos) (iRange3 f) :=
  PI.imp (pi_range3 hg hm ha hs hpl) fun σ H R ⟨μ, ρ, m, hH, hS, q⟩ => seqR q hH hS fun ds m1 vs H1 μ1 e1 hH1 r1 hS1 q1 => by
    split at q1
    · rename_i i j c
      split at q1
      · rename_i h
        obtain ⟨rfl, h1, h2⟩ := h
        refine ⟨i, j, -1, _, ints3 r1.1, RgC.neg (by omega) (by omega) (by omega) (by omega), q1 _ H1 μ1 .refl hH1 ⟨?_, goes_rngD⟩⟩
        simp only [rngD, List.length_map, List.length_range, sizeLine_eq]; omega
      · exact q1.elim
    · exact q1.elim
end
/-! ### a tuple so many times -/
theorem tuple_mul1 (l : Addr) (items : Array Value) (n : Nat) (dd : Option Addr) (sl : Array (Option Value)) (u : Tok) :
    Meets (Builtin.«tuple.__mul__» ⟨[.ref l, .int 1 u], []⟩) (fun _ R s => s.heap.get? l = some { cls := .type "tuple", dict := dd, data := .seq items n, slots := sl } ∧ R (.ok (.ret (Value.ref l))) s) :=
  .of_wp fun prog w A R s h => by
    obtain ⟨hp, g, d, tk, os⟩ := s
    obtain ⟨hl, h⟩ := h
    have f1 := AutoSeq1.idx_int
    wp_walk using wpAny_loadPart' hl
    exact ⟨_, rfl, h⟩
theorem tuple_mul0 (l : Addr) (items : Array Value) (n : Nat) (dd : Option Addr) (sl : Array (Option Value)) (x : Int) (u : Tok) (c0 : (decide (x < -(2 ^ 63)) || decide (x ≥ 2 ^ 63)) = false) (c1 : (items.isEmpty || x == 1) = false) (c2 : (decide (x ≤ 0) || items.isEmpty) = true) :
    Meets (Builtin.«tuple.__mul__» ⟨[.ref l, .int x u], []⟩) (fun _ R s => s.heap.get? l = some { cls := .type "tuple", dict := dd, data := .seq items n, slots := sl } ∧
      R (.ok (.ret (Value.ref s.heap.objs.size))) { s with heap := s.heap.push { cls := Value.type "tuple", data := Data.seq #[] }, toks := s.toks }) :=
  .of_wp fun prog w A R s h => by
    obtain ⟨hp, g, d, tk, os⟩ := s
    obtain ⟨hl, h⟩ := h
    have f1 := AutoSeq1.idx_int
    wp_walk using wpAny_loadPart' hl
    repeat (first
      | (refine wpAny_ite_false (decide_eq_false (by rw [c0]; exact Bool.false_ne_true)) ?_; wp_walk using wpAny_loadPart' hl)
      | (refine wpAny_ite_false (decide_eq_false (by rw [c1]; exact Bool.false_ne_true)) ?_; wp_walk using wpAny_loadPart' hl)
      | (refine wpAny_ite_true (decide_eq_true c2) ?_; wp_walk using wpAny_loadPart' hl))
    exact ⟨_, rfl, h⟩
def rRepTN (K : PySem.W.Frag) : R2 := fun x y H Q => ∃ l k xs, x = .ref l ∧ y = .int k ∧ SqT K H l xs ∧ xs ≠ [] ∧ -1000 ≤ k ∧ k ≤ 1000 ∧ xs.length ≤ 1000 ∧ (k = 1 → Q (.ref l) H) ∧
  (k ≠ 1 → ∀ p (o : Obj), PlO o → H p = none → Q (.ref p) (upd H p (.frz o (.tup (List.replicate k.toNat xs).flatten))))
theorem op_repTN {X : Cx} : OpR X (binaryOp .Mult) (rRepTN X.K) := by
  intro pins s σ H x y v u Q I rx ry h
  obtain ⟨l, k, xs, rfl, rfl, hT, hne, h0, h2, hz, q1, q2⟩ := h
  obtain rfl : v = Value.ref l := rx
  obtain ⟨t, rfl⟩ := ry
  obtain ⟨its, r, ⟨⟨cls, dd, data, sl⟩, ho, hc, n, hd⟩, hs⟩ := I.tuple hT
  simp only at hc hd
  subst hc hd
  have hle : its.length = xs.length := r.length.symm
  have hn : its ≠ [] := fun e => hne (List.eq_nil_of_length_eq_zero (by rw [← hle, e]; rfl))
  have hi : its.toArray.isEmpty = false := by
    cases its with
    | nil => exact absurd rfl hn
    | cons a b => rfl
  have c0 : (decide (k < -(2 ^ 63)) || decide (k ≥ 2 ^ 63)) = false := by
    rw [decide_eq_false (by omega), decide_eq_false (by omega)]; rfl
  have road : ∀ {Q' : Value → Shared → Prop} {E' : Value → Shared → Prop}, wpAny (model X.prog X.w) X.A (call (.builtin "tuple.__mul__") [.ref l, .int k t]) Q' E' s → wpAny (model X.prog X.w) X.A (binaryOp .Mult (.ref l) (.int k t)) Q' E' s := fun w =>
    wpAny_binaryOp_repeat_ref (T := "tuple") (U := "int") (by decide) ⟨_, ho, rfl⟩ (fun s' => typeIs_int s' k t) noFill_tuple_mul F.fills_int_mul F.slot_int_rmul repeat_tuple F.slot_int_index.lookup
      (call_meets F.slot_int_rmul (typeIs_int s k t) F.entry_int_rmul (F.args_int_rmul_2 _ _) (int_rmul_tuple k t l its.toArray n dd sl) ⟨ho, rfl, ⟨_, ho, rfl⟩, w⟩)
  by_cases k1 : k = 1
  · subst k1
    exact road (call_meets F.slot_tuple_mul ⟨_, ho, rfl⟩ F.entry_tuple_mul (F.args_tuple_mul_2 _ _) (tuple_mul1 l its.toArray n dd sl t) ⟨ho, ⟨.ref l, H, I, rfl, q1 rfl⟩⟩)
  · have c1 : (its.toArray.isEmpty || k == 1) = false := by
      rw [hi, Bool.false_or]
      exact beq_eq_false_iff_ne.mpr k1
    have q := q2 k1
    have flen : (List.replicate k.toNat its).flatten.length ≤ sizeLine := by
      rw [PyProof.Rows.lm_len_rep_flat, hle, sizeLine_eq]
      have a1 : k.toNat * xs.length ≤ 1000 * 1000 := Nat.mul_le_mul (by omega) hz
      omega
    have new : ∀ (arr : Array Value), arr.toList = (List.replicate k.toNat its).flatten → EP X pins σ Q (.ref s.heap.objs.size) { s with heap := s.heap.push { cls := Value.type "tuple", data := Data.seq arr }, toks := s.toks } := fun arr ea => by
      have hr := r.rep k.toNat
      rw [← ea] at hr
      refine ⟨.ref s.heap.objs.size, upd H s.heap.objs.size (.frz { cls := .type "tuple", data := .seq arr } (.tup (List.replicate k.toNat xs).flatten)), I.laid (t' := s.toks) (fun b ob q => Heap.get?_push_of_some _ q) (Nat.le_refl _) ?_, rfl, q _ _ ⟨rfl, rfl⟩ (I.hok.fresh (Nat.le_refl _))⟩
      exact ⟨Heap.get?_push_size _ rfl, by rw [PyProof.Rows.lm_len_rep_flat, ← hle]; rw [PyProof.Rows.lm_len_rep_flat] at flen; exact flen, _, hr, ⟨_, Heap.get?_push_size _ rfl, rfl, _, rfl⟩⟩
    by_cases k0 : k ≤ 0
    · have c2 : (decide (k ≤ 0) || its.toArray.isEmpty) = true := by rw [decide_eq_true k0]; rfl
      refine road (call_meets F.slot_tuple_mul ⟨_, ho, rfl⟩ F.entry_tuple_mul (F.args_tuple_mul_2 _ _) (tuple_mul0 l its.toArray n dd sl k t c0 c1 c2) ⟨ho, new #[] ?_⟩)
      rw [show k.toNat = 0 by omega]; rfl
    · have c2 : (decide (k ≤ 0) || its.toArray.isEmpty) = false := by
        rw [hi, Bool.or_false]
        exact decide_eq_false k0
      have hsz0 : its.toArray.size = xs.length := by rw [List.size_toArray, hle]
      have hm : ((its.toArray.size : Nat) : Int) * k ≤ 1000000 := by
        rw [hsz0]
        have a1 : ((xs.length : Nat) : Int) * k ≤ 1000 * k := Int.mul_le_mul_of_nonneg_right (by omega) (by omega)
        omega
      have c4 : Builtin.Tuple.tupleTooMany (((its.toArray.size : Nat) : Int) * k) = false := by
        unfold Builtin.Tuple.tupleTooMany
        rw [sizeLine_eq]
        exact decide_eq_false (by omega)
      refine road (call_meets F.slot_tuple_mul ⟨_, ho, rfl⟩ F.entry_tuple_mul (F.args_tuple_mul_2 _ _) (tuple_mulW l its.toArray n dd sl k t c0 c1 c2 (by omega) c4 (by rw [size_rep, List.size_toArray]; exact flen)) ⟨ho, new _ ?_⟩)
      rw [size_rep]
def gMulT (d d' : D) (m : Me) : Res D := match d, d' with
  | .tup xs, .int k => if xs ≠ [] ∧ xs.length ≤ 1000 ∧ k ≤ 1000 ∧ -1000 ≤ k then .ok (.tup (List.replicate k.toNat xs).flatten) m else .no
  | _, _ => .no
theorem RVs.rep {K : PySem.W.Frag} {H : Hp} {μ : Mu} {ds : List D} {vs : List V} (r : RVs K H μ ds vs) : ∀ n : Nat, RVs K H μ (List.replicate n ds).flatten (List.replicate n vs).flatten
  | 0 => by simp [RVs]
  | n + 1 => by simp only [List.replicate_succ, List.flatten_cons]; exact r.append (RVs.rep r n)
theorem g_mulT {K : PySem.W.Frag} : G2 K (rRepTN K) gMulT := fun Ex H μ m d d' x y Q hH r1 r2 q => by
  unfold gMulT at q
  split at q
  · rename_i xs k
    split at q
    · rename_i h
      obtain ⟨a, vs, rfl, s1, z1, w1⟩ := rv_tup r1
      simp only [RV] at r2; subst r2
      have l1 := w1.length
      refine ⟨a, k, vs, rfl, rfl, s1.sq, fun e => h.1 (List.eq_nil_of_length_eq_zero (by rw [l1, e]; rfl)), h.2.2.2, h.2.2.1, by omega, fun hk => ?_, fun hk p o hd hp => ?_⟩
      · subst hk
        refine q _ H μ .refl hH ?_
        have : (List.replicate (1 : Int).toNat xs).flatten = xs := by simp
        rw [this]
        simp only [RVv, RV]
        exact ⟨a, vs, rfl, s1, z1, w1⟩
      · have ex := Ext.new (o := .frz o (.tup (List.replicate k.toNat vs).flatten)) hH hp
        refine q _ _ μ ex (hH.new hp) ?_
        simp only [RVv, RV]
        refine ⟨p, _, rfl, .inl ⟨o, upd_same, hd⟩, ?_, RVs.ext ex _ _ (RVs.rep w1 _)⟩
        rw [PyProof.Rows.lm_len_rep_flat, sizeLine_eq]
        have a1 : k.toNat * vs.length ≤ 1000 * 1000 := Nat.mul_le_mul (by omega) (by omega)
        omega
    · exact q.elim
  · exact q.elim
theorem pd_mulT {X : Cx} {W : WX} {a b : Expr} {fa fb : ME} {pos : Pos} (ha : PD X W a fa) (hb : PD X W b fb) : PD X W (.BinOp a .Mult b pos) (m2 gMulT fa fb) := pd_op op_repTN g_mulT ha hb
end FL

set_option maxRecDepth 100000
namespace FL
open PySem PySem.Spec PyProof.Rows L2 PySem.SeqAt

/-! ### None in xs, xs of dicts and Nones -/
theorem rc_dictNone {A : Around} {s : Shared} {a : Addr} (ht : s.TypeIs (.ref a) "dict") (hu : A.units < cLine) : RcAt A s (.ref a) .none false := fun prog w E Q h =>
  rc_eq_decline_or (k := false) ht rfl (by decide) PySem.F.sub_NoneType_dict PySem.F.slot_dict_eq PySem.F.slot_NoneType_eq_refl
    (fun Q' hq => by
      refine wpAny_call_entry PySem.F.slot_dict_eq ht PySem.F.entry_dict_eq ?_ (PySem.F.args_dict_eq_2 _ _)
      show wpAny _ _ (Builtin.Dict.dictSlotArgs "__eq__" ⟨[.ref a, .none], []⟩ >>= _) _ _ s
      refine wpAny_bind ?_
      unfold Builtin.Dict.dictSlotArgs
      refine wpAny_bind (wpAny_notOrdered_dict ht ?_)
      show wpAny _ _ (pure (Value.ref a, Value.none)) _ _ s
      refine wpAny_pure ?_
      refine wpAny_bind (wpAny_isInstance (T := "NoneType") (rfl : s.TypeIs .none "NoneType") PySem.F.sub_NoneType_dict ?_)
      simp only [Bool.not_false, if_true]
      refine wpAny_bind (wpAny_rule ?_)
      exact wpAny_pure ⟨_, rfl, hq⟩)
    (fun _ hq => call_gives PySem.F.slot_NoneType_eq_refl rfl PySem.F.entry_NoneType_eq (PySem.F.args_NoneType_eq_2 _ _) (NoneType___eq___none_ref_0 a) hq)
    (fun _ hq => wpAny_of_eq (rfl : isSame (.ref a) .none = pure false) hq) (.inr hu) h
theorem eq_dictNone {A : Around} {s : Shared} {a : Addr} (ht : s.TypeIs (.ref a) "dict") (hu : A.units < cLine) : EqAt A s (.ref a) .none false := fun prog w E Q h => by
  unfold eqBool
  refine wpAny_holding ?_
  refine wpAny_ite_split (fun hab => absurd (eq_of_beq hab) nofun) (fun _ => ?_)
  exact wpAny_bind (rc_dictNone ht hu prog w E _ (wpAny_truthy_bool h))

def isNoV : V → Bool
  | .non => true
  | _ => false
def isNoU : Value → Bool
  | .none => true
  | _ => false
def rInNo (neg : Bool) : R2 := fun x y H Q => ∃ a vs, x = V.non ∧ y = V.ref a ∧ H a = some (.lst vs) ∧ (∀ v ∈ vs, v = V.non ∨ ∃ b ps, v = V.ref b ∧ Rd H b (.dK ps)) ∧ Q (.bl (if neg then !(vs.any isNoV) else vs.any isNoV)) H
theorem isNo_any : ∀ {vs : List V} {us : List Value}, Vals vs us → (∀ v ∈ vs, v = V.non ∨ ∃ b, v = V.ref b) → us.any isNoU = vs.any isNoV
  | _, _, .nil, _ => rfl
  | _, _, .cons (a := v) (b := u) r t, h => by
    rw [List.any_cons, List.any_cons, isNo_any t fun v hv => h v (List.mem_cons_of_mem _ hv)]
    rcases h v (List.mem_cons_self ..) with rfl | ⟨b, rfl⟩
    · obtain rfl : u = Value.none := r
      rfl
    · obtain rfl : u = Value.ref b := r
      rfl
section
variable {X : Cx}
theorem no_eqAt {pins : List (Addr × Obj)} {σ : L2.St} {H : Hp} {s : Shared} {A : Around} {vs : List V} {us : List Value} (I : L2.Inv X pins σ H s) (hu : A.units < cLine) (r : Vals vs us) (h : ∀ v ∈ vs, v = V.non ∨ ∃ b ps, v = V.ref b ∧ Rd H b (.dK ps)) : ∀ y ∈ us.toArray, EqAt A s y .none (isNoU y) := by
  intro y hy
  have hy : y ∈ us := by simpa using hy
  obtain ⟨i, hi, e⟩ := List.getElem_of_mem hy
  have hl := r.length
  obtain ⟨u, h1, h2⟩ := r.get (i := i) (x := vs[i]) (List.getElem?_eq_getElem (by omega))
  rw [List.getElem?_eq_getElem hi] at h1
  cases h1
  rw [e] at h2
  rcases h vs[i] (List.getElem_mem _) with e2 | ⟨b, ps, e2, rd⟩
  · rw [e2] at h2
    obtain rfl : y = Value.none := h2
    exact EqAt.same _
  · rw [e2] at h2
    obtain rfl : y = Value.ref b := h2
    obtain ⟨_, hsys, ws, rel, dof⟩ := dk_rd I.hok rd
    exact eq_dictNone dof.typeIs hu
theorem op_inNo (hu : X.A.units + 64 < cLine) : OpR X (compareOp .In) (rInNo false) := by
  intro pins s σ H x y v u Q I rx ry h
  obtain ⟨a, vs, rfl, rfl, ha, hv, q⟩ := h
  obtain rfl : v = Value.none := rx
  obtain rfl : u = Value.ref a := ry
  obtain ⟨z, its, n, rr, hl, e⟩ := I.lstM ha
  refine in_listAt isNoU ⟨_, e, rfl, n, rfl⟩ (no_eqAt I (by show X.A.units + 1 < cLine; omega) rr hv) ?_
  have : its.toArray.any isNoU = vs.any isNoV := by
    rw [← Array.any_toList]
    exact isNo_any rr fun v hm => (hv v hm).imp id fun ⟨b, _, e, _⟩ => ⟨b, e⟩
  rw [this]
  exact ⟨.bl _, H, I, rfl, q⟩
theorem op_notInNo (hu : X.A.units + 64 < cLine) : OpR X (compareOp .NotIn) (rInNo true) := by
  intro pins s σ H x y v u Q I rx ry h
  obtain ⟨a, vs, rfl, rfl, ha, hv, q⟩ := h
  obtain rfl : v = Value.none := rx
  obtain rfl : u = Value.ref a := ry
  obtain ⟨z, its, n, rr, hl, e⟩ := I.lstM ha
  refine notIn_listAt isNoU ⟨_, e, rfl, n, rfl⟩ (no_eqAt I (by show X.A.units + 1 < cLine; omega) rr hv) ?_
  have : its.toArray.any isNoU = vs.any isNoV := by
    rw [← Array.any_toList]
    exact isNo_any rr fun v hm => (hv v hm).imp id fun ⟨b, _, e, _⟩ => ⟨b, e⟩
  rw [this]
  exact ⟨.bl _, H, I, rfl, q⟩
end
def okNo : D → Bool
  | .non => true
  | .dct _ => true
  | _ => false
def gInNo (neg : Bool) (d d' : D) (m : Me) : Res D := match d, view m d' with
  | .non, .lst xs => if xs.all okNo = true then .ok (.bl (if neg then !(xs.any isN) else xs.any isN)) m else .no
  | _, _ => .no
theorem no_rv {K : PySem.W.Frag} {H : Hp} {μ : Mu} {m : Me} (hH : RH K H μ m) : ∀ {xs : List D} {vs : List V}, RVs K H μ xs vs → xs.all okNo = true → (∀ v ∈ vs, v = V.non ∨ ∃ b ps, v = V.ref b ∧ Rd H b (.dK ps)) ∧ vs.any isNoV = xs.any isN
  | [], vs, r, _ => by simp only [RVs] at r; subst r; simp
  | d :: xs, vs, r, h => by
    simp only [RVs] at r
    obtain ⟨v, w, rfl, r1, r2⟩ := r
    simp only [List.all_cons, Bool.and_eq_true] at h
    obtain ⟨i1, i2⟩ := no_rv hH r2 h.2
    have key : (v = V.non ∨ ∃ b ps, v = V.ref b ∧ Rd H b (.dK ps)) ∧ isNoV v = isN d := by
      cases d with
      | non => simp only [RV] at r1; subst r1; exact ⟨.inl rfl, rfl⟩
      | dct kvs =>
        obtain ⟨a, ps, rfl, h1, h2⟩ := view_dct (m := m) hH r1 rfl
        exact ⟨.inr ⟨a, ps, rfl, h1⟩, rfl⟩
      | _ => simp [okNo] at h
    refine ⟨fun z hz => ?_, by rw [List.any_cons, List.any_cons, i2, key.2]⟩
    rcases List.mem_cons.mp hz with rfl | hz
    · exact key.1
    · exact i1 z hz
theorem g_inNo {K : PySem.W.Frag} {neg : Bool} : G2 K (rInNo neg) (gInNo neg) := fun Ex H μ m d d' x y Q hH r1 r2 q => by
  unfold gInNo at q
  split at q
  · rename_i xs e2
    split at q
    · rename_i hs
      obtain ⟨a, vs, rfl, h1, h2, h3⟩ := view_lst hH r2 e2
      obtain ⟨i1, i2⟩ := no_rv hH h3 hs
      simp only [RV] at r1
      subst r1
      exact ⟨a, vs, rfl, rfl, h1, i1, q _ H μ .refl hH (by rw [i2]; simp [RV])⟩
    · exact q.elim
  · exact q.elim
end FL

set_option maxRecDepth 100000
namespace FL
open PySem PySem.Spec PyProof.Rows L2

/-! ### the keys of a dict, walked: the dict is locked for good -/
def tKeysL (td : TE) : TI := fun σ H R => td σ H fun x H1 => ∃ d kvs, x = .ref d ∧ ((∃ o, H1 d = some (.frz o (.dK kvs)) ∧ R (Itk d o kvs) H1) ∨ (H1 d = some (.dK kvs) ∧ ∀ o, R (Itk d o kvs) (upd H1 d (.frz o (.dK kvs)))))
theorem pi_keysL {X : Cx} {tg e : Expr} {td : TE} (he : PE X e td) : PI X tg e (tKeysL td) := by
  refine ⟨fun pins s σ H R I h => ?_⟩
  refine thn (he.run pins s σ H _ I h) fun u s1 ⟨x, H1, I1, rx, d, kvs, ex, q⟩ => ?_
  subst ex
  obtain rfl : u = Value.ref d := rx
  have fin : ∀ (o : Obj) (H2 : Hp), Inv X pins σ H2 s1 → H2 d = some (.frz o (.dK kvs)) → R (Itk d o kvs) H2 → wpAny (model X.prog X.w) X.A (pyIter (.ref d)) (PIE X pins σ tg R) X.xe s1 := fun o H2 I2 hd q => by
    obtain ⟨hs, hgd, hx, es, ep, vs, hdt, hsz, kv, hm⟩ := I2.frzK hd
    refine iter_keys hs hgd hx hdt (pi_one (tk := s1.toks) I2 _ (turn_keys _ hdt) ⟨_, Heap.get?_push_size _ rfl, rfl, ?_⟩ q)
    rw [hsz] <;> rfl
  rcases q with ⟨o, hd, q⟩ | ⟨hd, q⟩
  · exact fin o H1 I1 hd q
  · obtain ⟨o, I2⟩ := I1.lock hd trivial
    exact fin o _ I2 upd_same (q o)
theorem Ext.lock {K : PySem.W.Frag} {H : Hp} {μ : Mu} {a : Addr} {kvs : List (Key × V)} (n : a ∉ μ.l ∧ a ∉ μ.h) (h : H a = some (.dK kvs)) (o : Obj) : Ext K H μ (upd H a (.frz o (.dK kvs))) μ := by
  have kp : ∀ {b : Addr} {u : HO}, H b = some u → u ≠ .dK kvs → upd H a (.frz o (.dK kvs)) b = some u := fun {b u} q z => by
    rw [upd_ne (fun y => z (by rw [y, h] at q; exact (Option.some.inj q).symm))]; exact q
  refine ⟨⟨[], by simp⟩, rfl, fun b xs q => ?_, fun b u nb di q => ⟨kp q (fun z => by rw [z] at di; exact di), nb⟩, fun b o' u nb q => ⟨kp q (fun z => nomatch z), nb⟩, fun b k nb q => ⟨?_, nb⟩, fun b o' u q => kp q (fun z => nomatch z)⟩
  · rcases q with ⟨o', q, hd⟩ | q
    · exact .inl ⟨o', kp q (fun z => nomatch z), hd⟩
    · exact .inr q
  · by_cases e : b = a
    · subst e
      rw [h] at q; cases q
      exact .inr ⟨n.2, o, upd_same⟩
    · exact .inl (by rw [upd_ne e]; exact q)
theorem RH.lock {K : PySem.W.Frag} {H : Hp} {μ : Mu} {m : Me} {a : Addr} {kvs : List (Key × V)} (hH : RH K H μ m) (n : a ∉ μ.l ∧ a ∉ μ.h) (h : H a = some (.dK kvs)) (o : Obj) : RH K (upd H a (.frz o (.dK kvs))) μ m := by
  refine ⟨hH.len, hH.nd, fun i c q => ?_, fun b z => upd_some (hH.hid b z), hH.sep⟩
  obtain ⟨b, e, r⟩ := hH.at' i c q
  refine ⟨b, e, r.ext (Ext.lock n h o) (upd_ne fun y => n.1 ?_)⟩
  rw [← y]; exact List.mem_of_getElem? e
theorem rvk_keys {K : PySem.W.Frag} {H : Hp} {μ : Mu} : ∀ {kvs : List (Key × D)} {ps : List (Key × V)}, RVk K H μ kvs ps → ps.map (·.1) = kvs.map (·.1)
  | [], ps, r => by simp only [RVk] at r; subst r; rfl
  | (k, d) :: kvs, ps, r => by
    simp only [RVk, RVp] at r
    obtain ⟨v, w, rfl, r1, r2⟩ := r
    simp [rvk_keys r2]
theorem goes_keys {K : PySem.W.Frag} {H : Hp} {μ : Mu} {a : Addr} {o : Obj} {kvs : List (Key × D)} {ps : List (Key × V)} (h : H a = some (.frz o (.dK ps))) (e : ps.map (·.1) = kvs.map (·.1)) : Goes1 K (Itk a o ps) H μ (kvs.map fun p => kyD p.1) gdY := by
  intro H1 μ1 m x hH _
  have h1 := x.fz a o _ h
  have hl : ps.length = kvs.length := by have := congrArg List.length e; simpa using this
  refine ⟨fun i d ed => ?_, h1, by rw [List.length_map]; omega⟩
  have hi : i < kvs.length := by
    have := (List.getElem?_eq_some_iff.mp ed).1
    simpa using this
  refine ⟨⟨h1, by omega⟩, ?_⟩
  rintro y H' ⟨rfl, k, v, hk, rfl⟩
  have hk' : (kvs.map (·.1))[i]? = some k := by rw [← e, List.getElem?_map, hk]; rfl
  rw [List.getElem?_map] at ed hk'
  cases ek : kvs[i]? with
  | none => rw [ek] at ed; cases ed
  | some p =>
    rw [ek] at ed hk'
    simp only [Option.map_some, Option.some.injEq] at ed hk'
    subst ed hk'
    refine ⟨.refl, hH, ?_⟩
    cases p.1 <;> simp [kyD, kV, RV]
/-- the keys of a dict -/
def asItK (d : D) (m : Me) : Res (List D × (Me → Bool)) := match d with
  | .dct kvs => if kvs.length ≤ 1000000 then .ok (kvs.map (fun p => kyD p.1), gdY) m else .no
  | .ref i => match m[i]? with
    | some (.dK kvs) => if kvs.length ≤ 1000000 then .ok (kvs.map (fun p => kyD p.1), gdY) (m.set i (.dL kvs)) else .no
    | some (.dL kvs) => if kvs.length ≤ 1000000 then .ok (kvs.map (fun p => kyD p.1), gdY) m else .no
    | _ => .no
  | _ => .no
def iKey (f : ME) : MI := fun ρ m => (f ρ m).bind asItK
theorem keys_few {kvs : List (Key × D)} (h : kvs.length ≤ 1000000) : (kvs.map fun p => kyD p.1).length ≤ sizeLine := by
  rw [List.length_map]
  have : sizeLine = 16777216 := by decide
  omega
theorem pdi_keys {X : Cx} {W : WX} {tg e : Expr} {f : ME} (he : PD X W e f) : PDI X W tg e (iKey f) :=
  PI.imp (pi_keysL he) fun σ H R ⟨μ, ρ, m, hH, hS, q⟩ => seqR q hH hS fun d m1 v H1 μ1 e1 hH1 r1 hS1 q1 => by
    cases d with
    | dct kvs =>
      simp only [RVv, RV] at r1
      obtain ⟨a, ps, rfl, hn, hs, hr⟩ := r1
      unfold asItK at q1
      simp only at q1
      split at q1
      · rename_i hz
        rcases hs with hs | ⟨o, hs⟩
        · refine ⟨a, ps, rfl, .inr ⟨hs, fun o => ?_⟩⟩
          exact q1 _ _ μ1 (Ext.lock hn hs o) (hH1.lock hn hs o) ⟨keys_few hz, goes_keys upd_same (rvk_keys hr)⟩
        · exact ⟨a, ps, rfl, .inl ⟨o, hs, q1 _ H1 μ1 .refl hH1 ⟨keys_few hz, goes_keys hs (rvk_keys hr)⟩⟩⟩
      · exact q1.elim
    | ref i =>
      simp only [RVv, RV] at r1
      obtain ⟨a, rfl, ha⟩ := r1
      unfold asItK at q1
      cases e : m1[i]? with
      | none => simp only [e] at q1; exact q1.elim
      | some c =>
        obtain ⟨a', e', rc⟩ := hH1.at' i _ e
        rw [ha] at e'; cases e'
        cases c with
        | dK kvs =>
          simp only [e] at q1
          split at q1
          · rename_i hz
            obtain ⟨ps, h1, r2⟩ := rc
            have nf : ∀ o u, H1 a ≠ some (.frz o u) := fun o u z => by rw [h1] at z; cases z
            refine ⟨a, ps, rfl, .inr ⟨h1, fun o => ?_⟩⟩
            have x := Ext.wr (o := .frz o (.dK ps)) hH1 ha nf
            exact q1 _ _ μ1 x (hH1.wr ha ⟨ps, o, upd_same, RVk.ext x _ _ r2⟩ nf) ⟨keys_few hz, goes_keys upd_same (rvk_keys r2)⟩
          · exact q1.elim
        | dL kvs =>
          simp only [e] at q1
          split at q1
          · rename_i hz
            obtain ⟨ps, o, h1, r2⟩ := rc
            exact ⟨a, ps, rfl, .inl ⟨o, h1, q1 _ H1 μ1 .refl hH1 ⟨keys_few hz, goes_keys h1 (rvk_keys r2)⟩⟩⟩
          · exact q1.elim
        | _ => simp only [e] at q1; exact q1.elim
    | _ => exact q1.elim
end FL

set_option maxRecDepth 100000
namespace FL
open PySem PySem.Spec PyProof.Rows L2

/-! ### a def as a value, and a call of a name that holds one -/
section
variable {X : Cx} {W : WX} {k i n : Nat} {f : Addr} {fd : FuncData} {ps : List Str} {x y : Str} {p pos : Pos} {e : Expr} {es : List Expr} {Fm : List D → Me → Res D}
theorem pd_fn (hg : Gl X x) (hm : X.mg x = some (.ref f)) (hn : PySem.W.nsIn X.K mainGlobals x = some (some (Value.ref f))) (hd : (x == ("__debug__" : Str)) = false := by decide) : PD X W (.Name x pos) (mC (.fn x)) :=
  PE.imp (pe_glob (v := .ref f) hg hm rfl hd) fun σ H Q ⟨μ, ρ, m, hH, hS, q⟩ => q _ H μ .refl hH (by simp only [RVv, RV]; exact ⟨f, rfl, hn⟩)
def mCallL (i : Nat) (y : Str) (F : List D → Me → Res D) (fa : MA) : ME := fun ρ m => match ρ[i]? with
  | some (some (.fn z)) => if z = y then (fa ρ m).bind fun ds m => noX (F ds m) else .no
  | _ => .no
theorem pd_callL {fa : MA} (G : FnOk X.prog X.w X.K X.mg X.base CX0 k f fd ps (spF X.K n Fm)) (hr : Room k X.A) (hN : X.N[i]? = some x) (hv : Vis X.env.scope x) (hn : PySem.W.nsIn X.K mainGlobals y = some (some (Value.ref f))) (hk : PySem.W.keepIn X.K (.ref f) = true) (hb : Binds X.K fd ps [])
    (ha : PDA X W n (e :: es) fa) (hdb : (x == ("__debug__" : Str)) = false := by decide) (hcd : (x == ("__classdict__" : Str)) = false := by decide) (he : starEach (e :: es) X.env = (false, eval e X.env) :: starEach es X.env := by rfl) (hpl : (backTo pos (starEach es X.env)).any (·.1) = false := by rfl) :
    PD X W (.Call (.Name x p) (e :: es) [] pos) (mCallL i y Fm fa) :=
  PE.imp (pe_callL G hr hN hv hk hb .nil pass0 ha hdb hcd he hpl) fun σ H Q ⟨μ, ρ, m, hH, hS, q⟩ => by
    unfold mCallL at q
    cases e1 : ρ[i]? with
    | none => simp only [e1] at q; exact q.elim
    | some o =>
      cases o with
      | none => simp only [e1] at q; exact q.elim
      | some d =>
        cases d with
        | fn z =>
          simp only [e1] at q
          by_cases hz : z = y
          · subst hz
            rw [if_pos rfl] at q
            obtain ⟨v, h1, r⟩ := hS.2 i _ e1
            simp only [RV] at r
            obtain ⟨a, rfl, h2⟩ := r
            rw [hn] at h2; cases h2
            exact ⟨h1, seqR q hH hS fun ds m1 vs H1 μ1 e1 hH1 r1 hS1 q1 => ⟨μ1, m1, ds, hH1, by simpa using r1.1, r1.2, Ok.noX' q1⟩⟩
          · rw [if_neg hz] at q; exact q.elim
        | _ => simp only [e1] at q; exact q.elim
end
end FL

set_option maxRecDepth 100000
set_option maxHeartbeats 4000000
namespace FL
open PySem PySem.Spec PyProof.Rows L2 Srt SrtO

/-! ### sorted(d.items()) where all keys are texts: whatever the values are -/
def ltS (a b : Str) : Bool := !leS b a
theorem swoK (k : Value → Str) : Swo fun v u => ltS (k v) (k u) := by
  refine ⟨fun x y h => ?_, fun x y z h1 h2 => ?_⟩
  · unfold ltS at h ⊢
    have := leS_total (k y) (k x)
    cases h1 : leS (k y) (k x) with
    | true => rw [h1] at h; cases h
    | false => rw [h1] at this; simp at this; rw [this]; rfl
  · unfold ltS at h1 h2 ⊢
    have a1 : leS (k x) (k y) = true := by simpa using h1
    have a2 : leS (k y) (k z) = true := by simpa using h2
    rw [leS_trans _ _ _ a1 a2]; rfl
theorem ltS_eq (a b : Str) : ltS a b = decide (a.cps.toList < b.cps.toList) := by
  unfold ltS leS; rw [decide_not, Bool.not_not]
def IsPS (h : Heap) (v : Value) (x : Str) : Prop := ∃ a t u, v = .ref a ∧ h.get? a = some (pairO (.str x t) u)
section
variable {prog : Program} {w : World} {A : Around} {E : Value → Shared → Prop} {s : Shared}
theorem ps_cmp {vs : List Value} {k : Value → Str} (hp : ∀ v ∈ vs, IsPS s.heap v (k v)) (hd : ∀ v ∈ vs, ∀ u ∈ vs, k v = k u → v = u) : Cmp prog w A s (tuples' true) (fun p => p.1 ∈ vs) (lt2 fun v u => ltS (k v) (k u)) := by
  intro p q hm hm'
  show wpAny (model prog w) A (keyLt' (tuples' true) p.1 q.1) (fun r s' => s' = s ∧ r = ltS (k p.1) (k q.1)) (fun _ _ => False) s
  have hdd := hd _ hm _ hm'
  obtain ⟨a, t, u, e, ho⟩ := hp _ hm
  obtain ⟨a', t', u', e', ho'⟩ := hp _ hm'
  generalize k p.1 = x at *
  generalize k q.1 = x' at *
  rw [e, e'] at hdd ⊢
  refine PySem.W.kat_lt ho rfl ho' rfl ?_
  show PySem.W.KatLex prog w A true (decide (2 < 2)) _ [(.str x t, .str x' t'), (u, u')] 0 s
  refine PySem.W.kat_cons (SeqAt.EqAt.str_str x t x' t' prog w _ _ ?_)
  refine PySem.W.kat_go (fun e1 => ?_) (fun e1 => ?_)
  · have ex : x = x' := by simpa using e1
    have ea := hdd ex
    cases ea
    rw [ho] at ho'
    have eo := Option.some.inj ho'
    have eu : u = u' := by
      have h1 : (#[Value.str x t, u] : Array Value) = #[.str x' t', u'] := congrArg (fun o : Obj => match o.data with | .seq xs _ => xs | _ => #[]) eo
      have h2 := congrArg (fun z : Array Value => z[1]?) h1
      simpa using h2
    subst eu
    refine PySem.W.kat_yes (PySem.W.kat_cons (SeqAt.EqAt.same u prog w _ _ ?_))
    refine PySem.W.kat_go (fun e2 => ?_) (fun e2 => by cases e2)
    have e3 : ltS x x' = false := by
      subst ex; exact (swoK (fun _ => x)).refl Value.none
    exact PySem.W.kat_yes (PySem.W.kat_nil ⟨rfl, e3.symm⟩)
  · exact PySem.W.kat_no (PyProof.Rows.oneLt_str ⟨rfl, (ltS_eq x x').symm⟩)
theorem ps_firsts {h : Heap} : ∀ {vs : List Value} {k : Value → Str}, (∀ v ∈ vs, IsPS h v (k v)) → ∃ fs, PySem.W.KatTups h vs fs ∧ fs.length = vs.length ∧ ∀ f ∈ fs, ∃ x t, f = Value.str x t
  | [], _, _ => ⟨[], PySem.W.KatTups.nil, rfl, fun _ h => nomatch h⟩
  | v :: vs, k, hp => by
    obtain ⟨fs, h1, h2, h3⟩ := ps_firsts (vs := vs) (k := k) fun u hu => hp u (List.mem_cons_of_mem _ hu)
    obtain ⟨a, t, u, rfl, ho⟩ := hp v List.mem_cons_self
    exact ⟨_ :: fs, PySem.W.KatTups.cons ho rfl rfl rfl h1, by simp [h2], fun f hf => by
      rcases List.mem_cons.mp hf with rfl | hf
      · exact ⟨_, _, rfl⟩
      · exact h3 f hf⟩
theorem ps_sortable {a : Addr} {vs : List Value} {k : Value → Str} (h0 : 0 < vs.length) (hp : ∀ v ∈ vs, IsPS s.heap v (k v)) (hd : ∀ v ∈ vs, ∀ u ∈ vs, k v = k u → v = u) (ha : ∀ v ∈ vs, v ≠ .ref a) : SortableO prog w A s a vs fun v u => ltS (k v) (k u) := by
  intro h' keep
  have hp' : ∀ v ∈ vs, IsPS h' v (k v) := fun v hm => by
    obtain ⟨b, t, u, e, ho⟩ := hp v hm
    exact ⟨b, t, u, e, keep b _ (fun z => ha v hm (by rw [e, z])) ho⟩
  obtain ⟨fs, h1, h2, h3⟩ := ps_firsts hp'
  refine ⟨tuples' true, fun Q E hq => ?_, ps_cmp (s := { s with heap := h' }) hp' hd⟩
  refine PySem.W.kat_kind (T := .type "str") h1 (by omega) (fun f hm => ?_) (by rfl) ?_
  · obtain ⟨x, t, rfl⟩ := h3 f hm
    exact PySem.W.Looks.now
  · have e : (Value.type "str" != Value.type "tuple") = true := by first | decide +kernel | rfl | decide
    rw [e]
    exact hq
end

theorem nd_idx {α : Type} {l : List α} (nd : l.Nodup) {i j : Nat} {a : α} (h1 : l[i]? = some a) (h2 : l[j]? = some a) : i = j := by
  obtain ⟨i1, e1⟩ := List.getElem?_eq_some_iff.mp h1
  obtain ⟨j1, e2⟩ := List.getElem?_eq_some_iff.mp h2
  exact (List.getElem_inj nd).mp (e1.trans e2.symm)
def txK : Key → Str
  | .inr x => x
  | .inl _ => Str.empty
def isT : Key → Bool
  | .inr _ => true
  | .inl _ => false
theorem txK_inj {a b : Key} (ha : isT a = true) (hb : isT b = true) (h : txK a = txK b) : a = b := by
  cases a with
  | inl i => cases ha
  | inr x => cases b with
    | inl i => cases hb
    | inr y => simp only [txK] at h; rw [h]
/-- pairs by their keys -/
def kLe {β : Type} (a b : Key × β) : Bool := leS (txK a.1) (txK b.1)
def keyV {β : Type} (zs : List (Addr × Key × β)) : Value → Str
  | .ref a => match zs.find? fun z => decide (z.1 = a) with
    | some z => txK z.2.1
    | none => Str.empty
  | _ => Str.empty
theorem keyV_of {β : Type} {as : List Addr} {bs : List (Key × β)} (nd : as.Nodup) {z : Addr × Key × β} (hz : z ∈ as.zip bs) : keyV (as.zip bs) (.ref z.1) = txK z.2.1 := by
  simp only [keyV]
  cases e : (as.zip bs).find? (fun y => decide (y.1 = z.1)) with
  | none =>
    rw [List.find?_eq_none] at e
    exact absurd (decide_eq_true rfl) (e z hz)
  | some y =>
    have h1 := List.find?_some e
    have h2 := List.mem_of_find?_eq_some e
    simp only [decide_eq_true_eq] at h1
    obtain ⟨j, hj⟩ := List.mem_iff_getElem?.mp hz
    obtain ⟨i, hi⟩ := List.mem_iff_getElem?.mp h2
    obtain ⟨z1, z2⟩ := List.getElem?_zip_eq_some.mp hj
    obtain ⟨y1, y2⟩ := List.getElem?_zip_eq_some.mp hi
    have : j = i := nd_idx nd z1 (by rw [y1, h1])
    subst this
    rw [hj] at hi; cases hi; rfl
def rSortItK (K : PySem.W.Frag) : V → Hp → VK → Prop := fun x H Q => ∃ (d : Addr) (bs : List (Key × V)), x = .ref d ∧ Rd H d (.dK bs) ∧ (∀ b ∈ bs, isT b.1 = true) ∧ (bs.map (·.1)).Nodup ∧ bs.length ≤ 1000000 ∧
  ∀ (H' : Hp) (p : Addr) (ts : List (Addr × Key × V)), (∀ b o, H b = some o → H' b = some o) → H p = none → ts.map (·.2) = bs.mergeSort kLe → H' p = some (.lst (ts.map fun t => V.ref t.1)) → (∀ t ∈ ts, ∃ o, PlO o ∧ H t.1 = none ∧ H' t.1 = some (.frz o (.tup [kV t.2.1, t.2.2]))) → Q (.ref p) H'
section
variable {X : Cx} {e : Expr} {te : TE} {p apos cpos pos : Pos}
theorem pe_sortItemsK (hc : X.calm = true) (hu : X.A.units + 64 < cLine) (he : PE X e te) (hg : Gl X "sorted") (hm : X.mg "sorted" = none) (hv : bootBuiltins "sorted" = some (.builtin "sorted")) (hbase : attributeBase e "items" X.env (eval e X.env) = eval e X.env := by rfl) (hline : (apos.endLine == cpos.line) = true := by rfl)
    (hs : starEach [.Call (.Attribute e "items" apos) [] [] cpos] X.env = (false, eval (.Call (.Attribute e "items" apos) [] [] cpos) X.env) :: starEach [] X.env := by rfl) :
    PE X (.Call (.Name "sorted" p) [.Call (.Attribute e "items" apos) [] [] cpos] [] pos) (fun σ H Q => te σ H fun x H1 => rSortItK X.K x H1 Q) := by
  refine ⟨fun pins s σ H Q I hq => ?_⟩
  refine wpAny_Call_Name_kw (ld_blt I hg hm hv ?_)
  refine PyProof.Rows.callWith_builtin1 ?_ hs rfl
  rw [hs]
  show wpAny _ _ (spliced ((false, eval (.Call (.Attribute e "items" apos) [] [] cpos) X.env) :: backTo pos (starEach [] X.env))) _ _ s
  refine Calls.spliced_cons ?_
  refine wpAny_Call_method (T := "dict") (id := "dict.items") hbase rfl hline F.plainAttrs_dict F.slot_dict_items F.type_dict_items (thn (he.run pins s σ H _ I hq) fun u s1 ⟨x, H1, I1, rx, d, bs, ex, hd, htx, hnd, hfew, q⟩ => ?_)
  subst ex
  obtain rfl : u = Value.ref d := rx
  obtain ⟨hz, hs0, vs, kv, hdo⟩ := hd.ok I1.hok
  have lk : bs.length = vs.length := Paired.length kv
  have I2 : Inv X pins σ H1 { s1 with heap := s1.heap.push { cls := .type "dict_items", data := .fields #[.ref d] } } := I1.kept (t' := s1.toks) fun b ob q => Heap.get?_push_of_some _ q
  refine ⟨hdo.typeIs, hdo.mapOf.noDict, ?_⟩
  show wpAny _ _ (callWith cpos (.builtin "dict.items") [.ref d] [] []) _ X.xe s1
  refine method_meetsIn F.slot_dict_items F.entry_dict_items rfl (PySem.evalArgs_none ⟨rfl, hdo.typeIs, F.args_dict_items_1 _, _, meets_dict_items (mixKind X.prog X.w) d hs0, ⟨vs, hdo⟩, ?_⟩)
  refine Calls.spliced_nil ?_
  obtain ⟨o, es, ep, ho, hx, hdat, hko, hpr, hnd0⟩ := hdo
  have les : es.size = vs.length := by
    have : ∀ {l : List DictEntry} {vs : List (Key × Value)}, PySem.Pairs (mixKind X.prog X.w) l vs → l.length = vs.length := fun {l vs} h => by induction h with | nil => rfl | cons _ _ _ ih => simp [ih]
    rw [← Array.length_toList]; exact this hpr
  generalize hS2 : ({ s1 with heap := s1.heap.push { cls := .type "dict_items", data := .fields #[.ref d] } } : Shared) = s2 at I2
  have hview : s2.heap.IsItemsView s1.heap.objs.size d := by rw [← hS2]; exact ⟨_, Heap.get?_push_size _ rfl, rfl, rfl⟩
  have hraw : DT.Raw s2.heap d es ep := by rw [← hS2]; exact DT.Raw.push ⟨o, ho, hx, hdat⟩ _
  refine DT.sortedI (es := es) (ep := ep) (I1.ok.hd hc) hview hraw (by rw [sizeLine_eq]; omega) fun h' tk as hk hlt hl hG => ?_
  have lak : as.length = bs.length := by omega
  have nd : as.Nodup := List.Pairwise.imp (fun h => Nat.ne_of_lt h) hG.rise
  have pr : ∀ (j : Nat) (b : Addr) (bk : Key × V), as[j]? = some b → bs[j]? = some bk → ∃ en : DictEntry, es.toList[j]? = some en ∧ RelV (kV bk.1) en.key ∧ RelV bk.2 en.val ∧ keyIs bk.1 en.key = true ∧ h'.get? b = some (pairO en.key en.val) := by
    intro j b bk hj hbk
    obtain ⟨en, he, hg⟩ := hG.pairs j b hj
    have he' : es.toList[j]? = some en := by rw [Array.getElem?_toList]; exact he
    obtain ⟨k, v, hv1, hk1, hv2⟩ := pairs_get hpr he'
    obtain ⟨y, hy, r1, r2⟩ := LiI.paired_get kv (i := j) (x := (bk.1, bk.2)) hbk
    rw [hv1] at hy
    cases hy
    dsimp only at r1 r2
    subst r1
    exact ⟨en, he', relV_key hk1, by rw [hv2]; exact r2, hk1, hg⟩
  have hob : (h'.push { cls := .type "list", data := .seq (as.map Value.ref).toArray }).get? h'.objs.size = some (seqObj "list" (as.map Value.ref).toArray 0) := Heap.get?_push_size _ rfl
  have kb : ∀ b o, s2.heap.get? b = some o → (h'.push { cls := .type "list", data := .seq (as.map Value.ref).toArray }).get? b = some o := fun b o e => Heap.get?_push_of_some _ (hk b o e)
  have ne0 : ∀ b o, h'.get? b = some o → b ≠ h'.objs.size := fun b o e => Nat.ne_of_lt (Heap.lt_size e)
  generalize hh2 : h'.push { cls := .type "list", data := .seq (as.map Value.ref).toArray } = h2 at hob kb ⊢
  have ka : ∀ b o, h'.get? b = some o → h2.get? b = some o := fun b o e => by rw [← hh2]; exact Heap.get?_push_of_some _ e
  have zmap : (as.zip bs).map (·.2) = bs := List.map_snd_zip (by rw [lak]; exact Nat.le_refl _)
  have zget : ∀ (j : Nat) (z : Addr × Key × V), (as.zip bs)[j]? = some z → as[j]? = some z.1 ∧ bs[j]? = some z.2 := fun j z h => List.getElem?_zip_eq_some.mp h
  have k12 : ∀ b o, s1.heap.get? b = some o → s2.heap.get? b = some o := fun b o e => by rw [← hS2]; exact Heap.get?_push_of_some _ e
  have hkey : ∀ z ∈ as.zip bs, ∃ x t u, z.2.1 = .inr x ∧ h2.get? z.1 = some (pairO (.str x t) u) := fun z hz => by
    obtain ⟨j, hj⟩ := List.mem_iff_getElem?.mp hz
    obtain ⟨z1, z2⟩ := zget j z hj
    obtain ⟨en, _, r1, r2, hk1, hg⟩ := pr j _ _ z1 z2
    have := htx z.2 (List.mem_of_getElem? z2)
    rcases keyIs_shape hk1 with ⟨i, t, e1, e2⟩ | ⟨x, t, e1, e2⟩
    · rw [e1] at this; cases this
    · exact ⟨x, t, en.val, e1, by rw [← e2]; exact ka _ _ hg⟩
  have ndz : ∀ z ∈ as.zip bs, ∀ y ∈ as.zip bs, txK z.2.1 = txK y.2.1 → z = y := fun z hz y hy e => by
    obtain ⟨j, hj⟩ := List.mem_iff_getElem?.mp hz
    obtain ⟨i, hi⟩ := List.mem_iff_getElem?.mp hy
    obtain ⟨z1, z2⟩ := zget j z hj
    obtain ⟨y1, y2⟩ := zget i y hi
    have e2 : z.2.1 = y.2.1 := txK_inj (htx _ (List.mem_of_getElem? z2)) (htx _ (List.mem_of_getElem? y2)) e
    have : j = i := nd_idx hnd (a := z.2.1) (by rw [List.getElem?_map, z2]; rfl) (by rw [List.getElem?_map, y2, e2]; rfl)
    subst this
    rw [hj] at hi; exact Option.some.inj hi
  have hkv : ∀ z ∈ as.zip bs, keyV (as.zip bs) (.ref z.1) = txK z.2.1 := fun z hz => keyV_of nd hz
  have hpv : ∀ v ∈ as.map Value.ref, ∃ z ∈ as.zip bs, v = .ref z.1 := fun v hv => by
    obtain ⟨a, ha, rfl⟩ := List.mem_map.mp hv
    obtain ⟨j, hj⟩ := List.mem_iff_getElem?.mp ha
    have hjl : j < as.length := (List.getElem?_eq_some_iff.mp hj).1
    refine ⟨(a, bs[j]'(by omega)), List.mem_iff_getElem?.mpr ⟨j, ?_⟩, rfl⟩
    rw [List.getElem?_zip_eq_some]
    exact ⟨hj, List.getElem?_eq_getElem (by omega)⟩
  refine wpAny_call_entry slot_list_sort ⟨_, hob, rfl⟩ entry_list_sort (SrtO.list_sort_ord (s := { s2 with heap := h2, toks := tk }) (vs := as.map Value.ref) (swoK (keyV (as.zip bs))) hob (by rw [List.length_map, lak, sizeLine_eq]; omega) (fun h2' => ps_sortable (by omega) (fun v hv => ?_) (fun v hv u hu e => ?_) (fun v hv e => ?_)) fun out hs hb => ⟨_, rfl, ?_⟩) (args_list_sort _)
  · obtain ⟨z, hz, rfl⟩ := hpv v hv
    obtain ⟨x, t, u, e1, e2⟩ := hkey z hz
    rw [hkv z hz, e1]
    exact ⟨_, t, u, rfl, e2⟩
  · obtain ⟨z, hz, rfl⟩ := hpv v hv
    obtain ⟨y, hy, rfl⟩ := hpv u hu
    rw [hkv z hz, hkv y hy] at e
    rw [ndz z hz y hy e]
  · obtain ⟨z, hz, rfl⟩ := hpv v hv
    obtain ⟨x, t, u, e1, e2⟩ := hkey z hz
    have e' := Value.ref.inj e
    rw [← e'] at hob
    have hob2 := Option.some.inj (e2.symm.trans hob)
    have hc2 := congrArg Obj.cls hob2
    exact absurd (Value.type.inj hc2) (by decide)
  · have kF : ∀ b o, b ≠ h'.objs.size → h2.get? b = some o → (sortedHeap h2 h'.objs.size (as.map Value.ref) (List.toArray out)).get? b = some o := fun b o hb e => (PyProof.Rows.sortedHeap_old hb (Heap.lt_size e)).trans e
    have kS : ∀ b o, s2.heap.get? b = some o → (sortedHeap h2 h'.objs.size (as.map Value.ref) (List.toArray out)).get? b = some o := fun b o e => kF b o (ne0 _ _ (hk b o e)) (kb b o e)
    obtain ⟨eF, heF⟩ := PyProof.Rows.sortedHeap_at (vs := as.map Value.ref) (out := List.toArray out) hob
    have J1 : Inv X pins σ H1 { s2 with heap := sortedHeap h2 h'.objs.size (as.map Value.ref) (List.toArray out), toks := tk } := I2.kept (t' := tk) kS
    have hn0 : H1 h'.objs.size = none := I2.hok.fresh (Nat.le_of_lt hlt)
    generalize hts : (as.zip bs).mergeSort (fun a b : Addr × Key × V => kLe a.2 b.2) = ts
    have hperm : ts.Perm (as.zip bs) := by rw [← hts]; exact List.mergeSort_perm _ _
    have hto : out = ts.map fun t => Value.ref t.1 := by
      have pz : (ts.map fun t => Value.ref t.1).Perm (as.map Value.ref) := by
        have h1 := hperm.map (fun t : Addr × Key × V => Value.ref t.1)
        have h2 : (as.zip bs).map (fun t : Addr × Key × V => Value.ref t.1) = as.map Value.ref := by
          rw [show (fun t : Addr × Key × V => Value.ref t.1) = Value.ref ∘ (fun t => t.1) from rfl, ← List.map_map, List.map_fst_zip (by omega)]
        rw [← h2]; exact h1
      refine List.Perm.eq_of_pairwise (le := fun v u => leS (keyV (as.zip bs) v) (keyV (as.zip bs) u) = true) (fun v u hv hu h1 h2 => ?_) ?_ ?_ (hb.perm.trans pz.symm)
      · obtain ⟨z, hz, rfl⟩ := hpv v (hb.perm.mem_iff.mp hv)
        obtain ⟨y, hy, rfl⟩ := hpv u (pz.mem_iff.mp hu)
        have := leS_anti h1 h2
        rw [hkv z hz, hkv y hy] at this
        rw [ndz z hz y hy this]
      · exact hs.imp fun h => by unfold ltS at h; simpa using h
      · rw [List.pairwise_map, ← hts]
        have := List.pairwise_mergeSort (le := fun a b : Addr × Key × V => kLe a.2 b.2) (fun a b c h1 h2 => leS_trans _ _ _ h1 h2) (fun a b => leS_total _ _) (as.zip bs)
        refine this.imp_of_mem fun {z y} hz hy h => ?_
        rw [hkv z (List.mem_mergeSort.mp hz), hkv y (List.mem_mergeSort.mp hy)]
        exact h
    have hlen : (ts.map fun t => V.ref t.1).length ≤ sizeLine := by
      rw [List.length_map, hperm.length_eq, List.length_zip, sizeLine_eq]; omega
    have rv : Vals (ts.map fun t => V.ref t.1) out := by
      rw [hto]
      exact vals_maps (fun z : Addr × Key × V => V.ref z.1) (fun z => Value.ref z.1) ts fun _ _ => rfl
    have J2 : Inv X pins σ (upd H1 h'.objs.size (.lst (ts.map fun t => V.ref t.1))) { s2 with heap := sortedHeap h2 h'.objs.size (as.map Value.ref) (List.toArray out), toks := tk } :=
      J1.take (h' := sortedHeap h2 h'.objs.size (as.map Value.ref) (List.toArray out)) (t' := tk) (fun b ob _ e => e) (I2.fpOk (Nat.le_of_lt hlt) hn0) ⟨hlen, out, eF, rv, heF⟩
    have lz : as.length = (es.toList.zip bs).length := by simp; omega
    have mget : ∀ x ∈ List.zipWith (fun (a : Addr) (p : DictEntry × Key × V) => (a, pairO p.1.key p.1.val, [kV p.2.1, p.2.2])) as (es.toList.zip bs), ∃ (j : Nat) (a : Addr) (en : DictEntry) (bk : Key × V), as[j]? = some a ∧ es.toList[j]? = some en ∧ bs[j]? = some bk ∧ x = (a, pairO en.key en.val, [kV bk.1, bk.2]) := fun x hx => by
      obtain ⟨j, hj⟩ := List.mem_iff_getElem?.mp hx
      obtain ⟨a, p, e1, e2, rfl⟩ := List.getElem?_zipWith_eq_some.mp hj
      obtain ⟨e3, e4⟩ := List.getElem?_zip_eq_some.mp e2
      exact ⟨j, a, p.1, p.2, e1, e3, e4, rfl⟩
    obtain ⟨H2, J3, g, qt⟩ := takeF I2 (List.zipWith (fun (a : Addr) (p : DictEntry × Key × V) => (a, pairO p.1.key p.1.val, [kV p.2.1, p.2.2])) as (es.toList.zip bs)) _ J2 (by
        have : (List.zipWith (fun (a : Addr) (p : DictEntry × Key × V) => (a, pairO p.1.key p.1.val, [kV p.2.1, p.2.2])) as (es.toList.zip bs)).map (·.1) = as := by
          rw [List.map_zipWith]
          refine List.ext_getElem? fun j => ?_
          rw [List.getElem?_zipWith]
          by_cases hj : j < as.length
          · rw [List.getElem?_eq_getElem hj, List.getElem?_eq_getElem (show j < (es.toList.zip bs).length by omega)]
          · rw [List.getElem?_eq_none (by omega)]
        rw [this]; exact nd) fun x hx => by
      obtain ⟨j, a, en, bk, e1, e2, e3, rfl⟩ := mget x hx
      obtain ⟨en', f1, r1, r2, hk1, hg⟩ := pr j a bk e1 e3
      rw [e2] at f1; cases f1
      refine ⟨Nat.le_of_lt (hG.above a (List.mem_of_getElem? e1)), ?_, fun H3 => ⟨kF _ _ (ne0 _ _ hg) (ka _ _ hg), by show 2 ≤ sizeLine; decide, [en.key, en.val], .cons r1 (.cons r2 .nil), ⟨_, kF _ _ (ne0 _ _ hg) (ka _ _ hg), rfl, 0, rfl⟩⟩⟩
      rw [upd_ne (ne0 _ _ hg)]
      exact I2.hok.fresh (Nat.le_of_lt (hG.above a (List.mem_of_getElem? e1)))
    refine ⟨.ref h'.objs.size, H2, J3, rfl, q H2 h'.objs.size ts (fun b o e => g b o (by rw [upd_ne (ne_of_none e hn0)]; exact e)) hn0 ?_ (g _ _ upd_same) fun t ht => ?_⟩
    · have := List.map_mergeSort (r := fun a b : Addr × Key × V => kLe a.2 b.2) (s := kLe) (f := fun x : Addr × Key × V => x.2) (l := as.zip bs) (fun a _ b _ => rfl)
      rw [← hts, this, zmap]
    · obtain ⟨j, hj⟩ := List.mem_iff_getElem?.mp (hperm.mem_iff.mp ht)
      obtain ⟨z1, z2⟩ := zget j t hj
      obtain ⟨en, f1, r1, r2, hk1, hg⟩ := pr j t.1 t.2 z1 z2
      have hm : (t.1, pairO en.key en.val, [kV t.2.1, t.2.2]) ∈ List.zipWith (fun (a : Addr) (p : DictEntry × Key × V) => (a, pairO p.1.key p.1.val, [kV p.2.1, p.2.2])) as (es.toList.zip bs) := by
        refine List.mem_iff_getElem?.mpr ⟨j, ?_⟩
        rw [List.getElem?_zipWith, z1, show (es.toList.zip bs)[j]? = some (en, t.2) from List.getElem?_zip_eq_some.mpr ⟨f1, z2⟩]
      exact ⟨_, ⟨rfl, rfl⟩, I2.hok.fresh (Nat.le_of_lt (hG.above t.1 (List.mem_of_getElem? z1))), qt _ hm⟩
end


structure OkSortK (kvs : List (Key × D)) : Prop where
  txt : ∀ p ∈ kvs, isT p.1 = true
  nd : (kvs.map (·.1)).Nodup
  few : kvs.length ≤ 1000000
open Classical in
noncomputable def gSortItK (d : D) (m : Me) : Res D := match view m d with
  | .dct kvs => if OkSortK kvs then .ok (.lst ((kvs.mergeSort kLe).map prrD)) m else .no
  | _ => .no
section
variable {X : Cx} {W : WX} {e : Expr} {f : ME} {p apos cpos pos : Pos}
theorem pd_sortItK (hc : X.calm = true) (hu : X.A.units + 64 < cLine) (hg : Gl X "sorted") (hm : X.mg "sorted" = none) (hv : bootBuiltins "sorted" = some (.builtin "sorted")) (he : PD X W e f) (hbase : attributeBase e "items" X.env (eval e X.env) = eval e X.env := by rfl) (hline : (apos.endLine == cpos.line) = true := by rfl)
    (hs : starEach [.Call (.Attribute e "items" apos) [] [] cpos] X.env = (false, eval (.Call (.Attribute e "items" apos) [] [] cpos) X.env) :: starEach [] X.env := by rfl) :
    PD X W (.Call (.Name "sorted" p) [.Call (.Attribute e "items" apos) [] [] cpos] [] pos) (m1 gSortItK f) :=
  PE.imp (pe_sortItemsK hc hu he hg hm hv hbase hline hs) fun σ H Q ⟨μ, ρ, m, hH, hS, q⟩ => seqR q hH hS fun d m1 v H1 μ1 e1 hH1 r1 hS1 q1 => by
    unfold gSortItK at q1
    split at q1
    case h_2 => exact q1.elim
    rename_i kvs ev
    split at q1
    case isFalse => exact q1.elim
    rename_i ok
    obtain ⟨a, ps, rfl, hrd, hrk⟩ := view_dct hH1 r1 ev
    obtain ⟨ts, rfl, rfl, ht⟩ := rvq_pairs hrk
    refine ⟨a, ts.map fun t => (t.1, t.2.2), rfl, hrd, fun b hb => ?_, ?_, by have := ok.few; simpa using this, fun H' pl us hk hp hus hl hpr => ?_⟩
    · obtain ⟨t, h1, rfl⟩ := List.mem_map.mp hb
      exact ok.txt (t.1, t.2.1) (List.mem_map_of_mem h1)
    · have := ok.nd
      rw [List.map_map] at this ⊢
      exact this
    · have ex := Ext.keeps (K := X.K) (μ := μ1) hk
      refine q1 _ H' μ1 ex (hH1.keeps hk) ?_
      have m1' : (ts.map fun t => (t.1, t.2.2)).mergeSort kLe = (ts.mergeSort fun a b => kLe (a.1, a.2.1) (b.1, b.2.1)).map fun t => (t.1, t.2.2) :=
        (List.map_mergeSort (r := fun a b : Key × D × V => kLe (a.1, a.2.1) (b.1, b.2.1)) (f := fun t : Key × D × V => (t.1, t.2.2)) (fun a _ b _ => rfl)).symm
      have m2' : (ts.map fun t => (t.1, t.2.1)).mergeSort kLe = (ts.mergeSort fun a b => kLe (a.1, a.2.1) (b.1, b.2.1)).map fun t => (t.1, t.2.1) :=
        (List.map_mergeSort (r := fun a b : Key × D × V => kLe (a.1, a.2.1) (b.1, b.2.1)) (f := fun t : Key × D × V => (t.1, t.2.1)) (fun a _ b _ => rfl)).symm
      rw [m1'] at hus
      rw [m2', List.map_map]
      have hsub : ∀ t ∈ (ts.mergeSort fun a b => kLe (a.1, a.2.1) (b.1, b.2.1)), t ∈ ts := fun t h => (List.mergeSort_perm ts _).mem_iff.mp h
      have hlen : (ts.mergeSort fun a b => kLe (a.1, a.2.1) (b.1, b.2.1)).length ≤ 1000000 := by rw [List.length_mergeSort]; have := ok.few; simpa using this
      generalize (ts.mergeSort fun a b => kLe (a.1, a.2.1) (b.1, b.2.1)) = zs at *
      simp only [RV]
      refine ⟨pl, _, rfl, ⟨hH1.notin hp, fun z => hH1.hid _ z hp⟩, hl, ?_, ?_⟩
      · have := congrArg List.length hus
        rw [List.length_map, List.length_map] at this
        rw [List.length_map, this, sizeLine_eq]; omega
      · have key : ∀ (us : List (Addr × Key × V)) (zs : List (Key × D × V)), us.map (·.2) = zs.map (fun t => (t.1, t.2.2)) → (∀ t ∈ us, ∃ o, PlO o ∧ H1 t.1 = none ∧ H' t.1 = some (.frz o (.tup [kV t.2.1, t.2.2]))) → (∀ t ∈ zs, t ∈ ts) → RVs X.K H' μ1 (zs.map (prrD ∘ fun t => (t.1, t.2.1))) (us.map fun t => V.ref t.1) := by
          intro us
          induction us with
          | nil => intro zs e _ _; cases zs with | nil => simp [RVs] | cons => simp at e
          | cons u us ih =>
            intro zs e h1 h2
            cases zs with
            | nil => simp at e
            | cons z zs =>
              simp only [List.map_cons, List.cons.injEq] at e
              simp only [List.map_cons, RVs]
              refine ⟨_, _, rfl, ?_, ih zs e.2 (fun t h => h1 t (List.mem_cons_of_mem _ h)) fun t h => h2 t (List.mem_cons_of_mem _ h)⟩
              obtain ⟨o, po, hn, hf⟩ := h1 u List.mem_cons_self
              rw [e.1] at hf
              have rz := RV.ext ex _ _ (ht z (h2 z List.mem_cons_self))
              simp only [Function.comp, prrD, RV]
              refine ⟨u.1, [kV z.1, z.2.2], rfl, .inl ⟨o, hf, po⟩, by rw [sizeLine_eq]; simp, ?_⟩
              simp only [RVs]
              refine ⟨_, _, rfl, ?_, _, _, rfl, rz, rfl⟩
              cases z.1 <;> simp [kyD, kV, RV]
        exact key us zs hus hpr hsub
end
end FL

set_option maxRecDepth 100000
namespace FL
open PySem PySem.Spec PyProof.Rows L2

/-! ### d.update(d2), d2 another thing of the store -/
def mDupdR (fo fe : ME) : ME := fun ρ m => (fo ρ m).bind fun d m => match d with
  | .ref i => match m[i]? with
    | some (.dK _) => (fe ρ m).bind fun y m => match m[i]?, y with
      | some (.dK ks), .ref j => if j = i then .no else match m[j]? with
        | some (.dK ms) => if ks.length + ms.length < 1000000 then .ok .non (m.set i (.dK (ms.foldl (fun acc kv => setK acc kv.1 kv.2) ks))) else .no
        | _ => .no
      | _, _ => .no
    | _ => .no
  | _ => .no
section
variable {X : Cx} {W : WX} {o e : Expr} {fo fe : ME} {apos cpos : Pos}
theorem pd_dupdR (ho : PD X W o fo) (he : PD X W e fe) (hbase : attributeBase o "update" X.env (eval o X.env) = eval o X.env := by rfl)
    (hfew : ((backTo cpos (starEach [e] X.env)).all (fun x => !x.1) && (backToKw cpos (keywordEach [] X.env)).all (fun x => x.1.isSome)
      && decide (([e] : List Expr).length + ([] : List Keyword).length + (if ([] : List Keyword).isEmpty then 0 else 1) < 30)) = true := by rfl)
    (hline : (apos.endLine == cpos.line) = true := by rfl) (hs : starEach [e] X.env = (false, eval e X.env) :: starEach [] X.env := by rfl) (hplain : (backTo cpos (starEach [] X.env)).any (·.1) = false := by rfl) :
    PD X W (.Call (.Attribute o "update" apos) [e] [] cpos) (mDupdR fo fe) :=
  PE.imp (pe_dupd ho (pa_cons he pa_nil hs) hbase hfew hline hs hplain) fun σ H Q ⟨μ, ρ, m, hH, hS, q⟩ => by
    refine seqR q hH hS fun d m1 v H1 μ1 e1 hH1 r1 hS1 q1 => ?_
    cases d with
    | ref i =>
      simp only [RVv, RV] at r1
      obtain ⟨a, rfl, ha⟩ := r1
      cases e2 : m1[i]? with
      | none => simp only [e2] at q1; exact q1.elim
      | some c =>
        cases c with
        | dK kvs0 =>
          simp only [e2] at q1
          obtain ⟨a', ea, ps0, hs0, _⟩ := hH1.at' i _ e2
          rw [ha] at ea; cases ea
          refine ⟨⟨a, rfl, .inl ⟨ps0, .inl hs0⟩⟩, ?_⟩
          refine seqR q1 hH1 hS1 fun y m2 z H2 μ2 e2' hH2 r2 hS2 q2 => ?_
          have ha2 := e2'.get ha
          cases e3 : m2[i]? with
          | none => simp only [e3] at q2; exact q2.elim
          | some c =>
            cases c with
            | dK ks =>
              cases y with
              | ref j =>
                simp only [e3] at q2
                by_cases hji : j = i
                · rw [if_pos hji] at q2; exact q2.elim
                rw [if_neg hji] at q2
                cases e4 : m2[j]? with
                | none => simp only [e4] at q2; exact q2.elim
                | some c4 =>
                  cases c4 with
                  | dK ms =>
                    simp only [e4] at q2
                    split at q2
                    · rename_i hl
                      obtain ⟨a', ea, ps, hs2, hr⟩ := hH2.at' i _ e3
                      rw [ha2] at ea; cases ea
                      simp only [RVv, RV] at r2
                      obtain ⟨b, rfl, hb⟩ := r2
                      obtain ⟨b', eb, qs, hb2, hr2⟩ := hH2.at' j _ e4
                      rw [hb] at eb; cases eb
                      have hab : a ≠ b := fun e => by
                        subst e
                        obtain ⟨h1, h1'⟩ := List.getElem?_eq_some_iff.mp ha2
                        obtain ⟨h2, h2'⟩ := List.getElem?_eq_some_iff.mp hb
                        exact hji ((List.getElem_inj hH2.nd).mp (h2'.trans h1'.symm))
                      have l1 := rvq_len (rvk_iff.mp hr)
                      have l2 := rvq_len (rvk_iff.mp hr2)
                      have nf : ∀ o u, H2 a ≠ some (.frz o u) := fun o u z => by rw [hs2] at z; cases z
                      have x := Ext.wr (o := .dK (mergeK ps qs)) hH2 ha2 nf
                      refine ⟨a, b, ps, qs, rfl, rfl, hab, hs2, .inl hb2, by rw [← l1, ← l2, sizeLine_eq]; omega, ?_⟩
                      refine q2 _ _ μ2 x (hH2.wr ha2 ⟨_, upd_same, rvk_iff.mpr ?_⟩ nf) (by simp [RV])
                      exact L2.Paired.mapP (merge_rv (rvk_iff.mp hr2) (rvk_iff.mp hr)) fun p q z => ⟨z.1, RV.ext x _ _ z.2⟩
                    · exact q2.elim
                  | _ => simp only [e4] at q2; exact q2.elim
              | _ => simp only [e3] at q2; exact q2.elim
            | _ => simp only [e3] at q2; exact q2.elim
        | _ => simp only [e2] at q1; exact q1.elim
    | _ => exact q1.elim
end
end FL

set_option maxRecDepth 100000
namespace FL
open PySem PySem.Spec PyProof.Rows L2

/-! ### min(xs), xs a list or a tuple of data that can be compared -/
def mnIx (xs : List PyData) : Nat := argBest (fun i j => PySem.W.dataLt (xs.getD i .none) (xs.getD j .none)) (xs.length - 1)
def rMinG (K : PySem.W.Frag) : List V → Hp → VK → Prop := fun vs H Q => ∃ (a : Addr) (bs : List DV), vs = [.ref a] ∧ SqL K H a (bs.map (·.1)) ∧ (∀ b ∈ bs, Dp K H b.1 b.2 ∧ b.2.depth ≤ 60) ∧ PySem.W.AlikeAll (bs.map (·.2)) ∧ 0 < bs.length ∧ bs.length ≤ 1000000 ∧
  ∀ b, bs[mnIx (bs.map (·.2))]? = some b → Q b.1 H
theorem each_reads {h : Heap} : ∀ {vs : List Value} {bs : List DV}, PySem.W.EachIs (fun u (b : DV) => ∃ as, Reads h u b.2 as) vs bs → ∃ as, ReadsAll h vs (bs.map (·.2)) as
  | _, _, .nil => ⟨_, .nil⟩
  | _, _, .cons r t => by
    obtain ⟨as, r⟩ := r
    obtain ⟨bs, t⟩ := each_reads t
    exact ⟨_, .cons r t⟩
theorem each_get {R : Value → DV → Prop} : ∀ {vs : List Value} {bs : List DV}, PySem.W.EachIs R vs bs → ∀ (i : Nat) (v : Value), vs[i]? = some v → ∃ b, bs[i]? = some b ∧ R v b
  | _, _, .nil, i, v, e => by simp at e
  | _, _, .cons r t, 0, v, e => by
    simp only [List.getElem?_cons_zero, Option.some.injEq] at e
    subst e
    exact ⟨_, rfl, r⟩
  | _, _, .cons r t, i + 1, v, e => by
    simp only [List.getElem?_cons_succ] at e ⊢
    exact each_get t i v e
theorem each_len {R : Value → DV → Prop} : ∀ {vs : List Value} {bs : List DV}, PySem.W.EachIs R vs bs → vs.length = bs.length
  | _, _, .nil => rfl
  | _, _, .cons r t => by simp [each_len t]
theorem depths_le {xs : List PyData} {k : Nat} (h : ∀ x ∈ xs, x.depth ≤ k) : PyData.depthAll xs ≤ k := by
  induction xs with
  | nil => simp [PyData.depthAll]
  | cons a l ih =>
    have := h a List.mem_cons_self
    have := ih fun x hx => h x (List.mem_cons_of_mem _ hx)
    simp only [PyData.depthAll]; omega
theorem cr_minG {X : Cx} (hc : X.calm = true) (hu : X.A.units + 64 < cLine) : CallR X (.builtin "min") (rMinG X.K) := by
  intro pins s σ H xs us Q I r h
  obtain ⟨a, bs, rfl, hq, hb, hal, hne, hz, q⟩ := h
  obtain ⟨u, rfl, ru⟩ := vals1 r
  cases ru
  obtain ⟨its, rv, p, _⟩ := I.list hq
  obtain ⟨e1, e2⟩ := each_dv I rv fun b hb' => (hb b hb').1
  obtain ⟨as, hr⟩ := each_reads e2
  have hl := each_len e1
  have hd : PyData.depthAll (bs.map (·.2)) ≤ 60 := depths_le fun x hx => by obtain ⟨b, h1, rfl⟩ := List.mem_map.mp hx; exact (hb b h1).2
  have hr' : ReadsAll s.heap its.toArray.toList (bs.map (·.2)) as := by simpa using hr
  refine PySem.call_min_walkH (PySem.W.iter_listW (A := X.A.in1) (I.ok.hd hc) p.isList fun s₂ e W st hfp hw hk => ?_)
  refine ⟨_, _, _, _, _, _, _, s.heap, _, rfl, W, st, hfp, by simp; omega, hw, hk, PySem.W.cmpIn_lt (A := X.A.in1) hr' hal (by show X.A.units + 1 + _ < _; omega), fun v s' hP m => ?_⟩
  obtain ⟨h', tk, rfl, hk'⟩ := PySem.W.moved_old e rfl m
  have hsz : its.toArray.size - 1 = (bs.map (·.2)).length - 1 := by simp [hl]
  rw [hsz] at hP
  have hP' : its[mnIx (bs.map (·.2))]? = some v := by simpa [mnIx] using hP
  obtain ⟨b, h1, h2⟩ := each_get e1 _ v hP'
  exact ⟨b.1, H, I.kept hk', h2, q b h1⟩
structure OkMin (xs : List D) : Prop where
  py : ∀ x ∈ xs, (py x).isSome = true ∧ (enc x).depth ≤ 60
  al : PySem.W.AlikeAll (xs.map enc)
  ne : 0 < xs.length
  few : xs.length ≤ 1000000
open Classical in
noncomputable def gMin (ds : List D) (m : Me) : Res D := match ds with
  | [d] => match lstV m d with
    | some xs => if OkMin xs then .ok (xs.getD (mnIx (xs.map enc)) .non) m else .no
    | none => .no
  | _ => .no
theorem g_min {K : PySem.W.Frag} : GC K (rMinG K) gMin := fun Ex H μ m ds vs Q hH rr q => by
  unfold gMin at q
  split at q
  case h_2 => exact q.elim
  rename_i d
  obtain ⟨v, rfl, r⟩ := rvs1 rr
  split at q
  case h_2 => exact q.elim
  rename_i xs e
  split at q
  case isFalse => exact q.elim
  rename_i ok
  obtain ⟨a, vs, rfl, ha, hz, hr⟩ := lstV_of hH r e
  obtain ⟨ts, rfl, rfl, ht⟩ := pairs_rvs hr
  have e3 : (ts.map fun t => (t.2, enc t.1)).map (·.2) = (ts.map (·.1)).map enc := by rw [List.map_map, List.map_map]; rfl
  refine ⟨a, ts.map fun t => (t.2, enc t.1), rfl, ?_, ?_, ?_, ?_, ?_, fun b hb => ?_⟩
  · rw [List.map_map]; exact .of ha
  · intro b hb
    obtain ⟨t, h1, rfl⟩ := List.mem_map.mp hb
    obtain ⟨h2, h3⟩ := ok.py t.1 (List.mem_map_of_mem h1)
    exact ⟨enc_dp (ht t h1) h2, h3⟩
  · rw [e3]; exact ok.al
  · have := ok.ne; simpa using this
  · have := ok.few; simpa using this
  · rw [e3] at hb
    generalize mnIx ((ts.map (·.1)).map enc) = i at hb q
    rw [List.getElem?_map] at hb
    cases e4 : ts[i]? with
    | none => rw [e4] at hb; cases hb
    | some t =>
      rw [e4] at hb
      cases hb
      have e5 : (ts.map (·.1)).getD i .non = t.1 := by rw [List.getD_eq_getElem?_getD, List.getElem?_map, e4]; rfl
      rw [e5] at q
      exact q _ H μ .refl hH (ht t (List.mem_of_getElem? e4))
/-! ### sorted(d), all keys numbers -/
def ikeys : List (Key × D) → Option (List Int)
  | [] => some []
  | (.inl i, _) :: r => (ikeys r).map (i :: ·)
  | _ => none
def leI (a b : Int) : Bool := decide (a ≤ b)
def gSortDI (ds : List D) (m : Me) : Res D := match ds with
  | [d] => match view m d with
    | .dct kvs => match ikeys kvs with
      | some ks => if ks.length < 64 then .ok (.lst ((ks.mergeSort leI).map .int)) m else .no
      | none => .no
    | _ => .no
  | _ => .no
theorem ikeys_rv {K : PySem.W.Frag} {H : Hp} {μ : Mu} : ∀ {kvs : List (Key × D)} {ps : List (Key × V)} {ks : List Int}, RVq K H μ kvs ps → ikeys kvs = some ks → ps.map (·.1) = ks.map Sum.inl
  | [], [], ks, _, e => by cases e; rfl
  | (k, d) :: kvs, (k', v) :: ps, ks, r, e => by
    cases r with
    | cons r1 r2 =>
      obtain rfl : k = k' := r1.1
      cases k with
      | inr x => cases e
      | inl i =>
        simp only [ikeys] at e
        cases e2 : ikeys kvs with
        | none => rw [e2] at e; cases e
        | some l =>
          rw [e2] at e; cases e
          simp [ikeys_rv r2 e2]
theorem leI_sort {ys ks : List Int} (hp : ys.Perm ks) (hs : ys.Pairwise (· ≤ ·)) : ks.mergeSort leI = ys := by
  refine List.Perm.eq_of_pairwise (le := fun a b => leI a b = true) (fun a b _ _ h1 h2 => ?_) ?_ ?_ ((List.mergeSort_perm ks leI).trans hp.symm)
  · simp only [leI, decide_eq_true_eq] at h1 h2; omega
  · exact List.pairwise_mergeSort (le := leI) (fun a b c h1 h2 => by simp only [leI, decide_eq_true_eq] at *; omega) (fun a b => by simp only [leI, Bool.or_eq_true, decide_eq_true_eq]; omega) ks
  · exact hs.imp fun h => by simpa [leI] using h
theorem g_sortDI {K : PySem.W.Frag} : GC K (fun xs H Q => ∃ (a : Addr) (kvs : List (Key × V)) (ks : List Int), xs = [.ref a] ∧ Rd H a (.dK kvs) ∧ kvs.map (·.1) = ks.map Sum.inl ∧ ks.length < 64 ∧
    ∀ (ys : List Int) (p : Addr), ys.Perm ks → ys.Pairwise (· ≤ ·) → H p = none → Q (.ref p) (upd H p (.lst (ys.map V.int)))) gSortDI := fun Ex H μ m ds vs Q hH rr q => by
  unfold gSortDI at q
  split at q
  · obtain ⟨v, rfl, r⟩ := rvs1 rr
    split at q
    · rename_i d kvs e
      obtain ⟨a, ps, rfl, hs, hr⟩ := view_dct hH r e
      split at q
      · rename_i ks e2
        split at q
        · rename_i h64
          refine ⟨a, ps, ks, rfl, hs, ikeys_rv (rvk_iff.mp hr) e2, h64, fun ys p hp hsd hn => ?_⟩
          have ey := leI_sort hp hsd
          have ex := Ext.new (o := .lst (ys.map V.int)) hH hn
          refine q _ _ μ ex (hH.new hn) ?_
          simp only [RV]
          refine ⟨p, _, rfl, ⟨hH.notin hn, fun z => hH.hid _ z hn⟩, upd_same, ?_, ?_⟩
          · rw [List.length_map, hp.length_eq, sizeLine_eq]; omega
          · rw [ey]; exact ints_rv _
        · exact q.elim
      · exact q.elim
    · exact q.elim
  · exact q.elim
/-! ### d != e, of two lengths, or both empty -/
def rNeL : R2 := fun x y H Q => ∃ a b ks ls, x = .ref a ∧ y = .ref b ∧ Rd H a (.dK ks) ∧ Rd H b (.dK ls) ∧ (ks.length = ls.length → ks = []) ∧ Q (.bl (decide (ks.length ≠ ls.length))) H
theorem op_neL {X : Cx} (hu : X.A.units + 64 < cLine) : OpR X (compareOp .NotEq) rNeL := by
  intro pins s σ H x y v u Q I rx ry h
  obtain ⟨a, b, ks, ls, rfl, rfl, ea, eb, hlen, q⟩ := h
  obtain rfl : v = Value.ref a := rx
  obtain rfl : u = Value.ref b := ry
  obtain ⟨_, ya, va, ra, da⟩ := dk_rd I.hok ea
  obtain ⟨_, yb, vb, rb, db⟩ := dk_rd I.hok eb
  have l1 := ra.length
  have l2 := rb.length
  refine PySem.W.keq_ne (knd := mixKind X.prog X.w) (r := true) ya yb da db (by omega) (fun e => hits_all rb ra fun p hp => ?_) (fin_bl I q ?_)
  · rw [hlen (by omega)] at hp; cases hp
  · rw [← l1, ← l2]
    by_cases e : ks.length = ls.length <;> simp [e]
def gNeL (d d' : D) (m : Me) : Res D := match view m d, view m d' with
  | .dct ks, .dct ls => if ks.length = ls.length ∧ ks.length ≠ 0 then .no else .ok (.bl (decide (ks.length ≠ ls.length))) m
  | _, _ => .no
theorem g_neL {K : PySem.W.Frag} : G2 K rNeL gNeL := fun Ex H μ m d d' x y Q hH r1 r2 q => by
  unfold gNeL at q
  split at q
  · rename_i ks ls e1 e2
    split at q
    · exact q.elim
    · rename_i h
      obtain ⟨a, ps, rfl, h1, h2⟩ := view_dct hH r1 e1
      obtain ⟨b, qs, rfl, h3, h4⟩ := view_dct hH r2 e2
      have l1 := rvq_len (rvk_iff.mp h2)
      have l2 := rvq_len (rvk_iff.mp h4)
      refine ⟨a, b, ps, qs, rfl, rfl, h1, h3, fun e => ?_, q _ H μ .refl hH (by simp [RV, l1, l2])⟩
      cases ps with
      | nil => rfl
      | cons p ps => exact absurd ⟨by rw [l1, l2]; exact e, by rw [l1]; simp⟩ h
  · exact q.elim
/-! ### d.setdefault(k, y) -/
def mSetd (fo fk fv : ME) : ME := fun ρ m => (fo ρ m).bind fun d m => match d with
  | .ref i => match m[i]? with
    | some (.dK _) => (fk ρ m).bind fun k m => (fv ρ m).bind fun y m => match m[i]?, keyD k with
      | some (.dK kvs), some k => if kvs.length < 1000000 then match getK kvs k with
        | some v => .ok v m
        | none => .ok y (m.set i (.dK (setK kvs k y)))
        else .no
      | _, _ => .no
    | _ => .no
  | _ => .no
section
variable {X : Cx} {W : WX} {o e f : Expr} {fo fk fv : ME} {apos cpos : Pos}
theorem pd_setd (ho : PD X W o fo) (he : PD X W e fk) (hf : PD X W f fv) (mm : M2 X o "setdefault" apos e f cpos) : PD X W (.Call (.Attribute o "setdefault" apos) [e, f] [] cpos) (mSetd fo fk fv) :=
  PE.imp (pe_dsetd ho he hf mm) fun σ H Q ⟨μ, ρ, m, hH, hS, q⟩ => by
    refine seqR q hH hS fun d m1 v H1 μ1 e1 hH1 r1 hS1 q1 => ?_
    cases d with
    | ref i =>
      simp only [RVv, RV] at r1
      obtain ⟨a, rfl, ha⟩ := r1
      cases e2 : m1[i]? with
      | none => simp only [e2] at q1; exact q1.elim
      | some c =>
        cases c with
        | dK kvs0 =>
          simp only [e2] at q1
          obtain ⟨a', ea, ps0, hs0, _⟩ := hH1.at' i _ e2
          rw [ha] at ea; cases ea
          refine ⟨a, rfl, .inl ⟨ps0, .inl hs0⟩, ?_⟩
          refine seqR q1 hH1 hS1 fun k m2 z H2 μ2 e2' hH2 r2 hS2 q2 => ?_
          refine seqR q2 hH2 hS2 fun y m3 w H3 μ3 e3' hH3 r3 hS3 q3 => ?_
          have ha3 := e3'.get (e2'.get ha)
          have rk := RV.ext e3' k z r2
          cases e4 : m3[i]? with
          | none => simp only [e4] at q3; exact q3.elim
          | some c =>
            cases c with
            | dK kvs =>
              cases e5 : keyD k with
              | none => simp only [e4, e5] at q3; exact q3.elim
              | some kk =>
                simp only [e4, e5] at q3
                split at q3
                · rename_i hl
                  obtain ⟨a', ea, ps, hs, hr⟩ := hH3.at' i _ e4
                  rw [ha3] at ea; cases ea
                  have hq := rvk_iff.mp hr
                  have hlen : ps.length < sizeLine := by rw [← rvq_len hq, sizeLine_eq]; omega
                  refine ⟨ps, kk, hs, keyD_rv rk e5, hlen, fun v hv => ?_, fun hn => ?_⟩
                  · have hg := rvq_get (k := kk) hq
                    cases e6 : getK kvs kk with
                    | none =>
                      simp only [e6] at hg
                      rw [hg] at hv; cases hv
                    | some u =>
                      simp only [e6] at hg q3
                      obtain ⟨u', h1, h2⟩ := hg
                      rw [h1] at hv; cases hv
                      exact q3 _ H3 μ3 .refl hH3 h2
                  · have hg := rvq_get (k := kk) hq
                    cases e6 : getK kvs kk with
                    | some u =>
                      simp only [e6] at hg
                      obtain ⟨u', h1, h2⟩ := hg
                      rw [h1] at hn; cases hn
                    | none =>
                      simp only [e6] at q3
                      have nf : ∀ o u, H3 a ≠ some (.frz o u) := fun o u z => by rw [hs] at z; cases z
                      have x := Ext.wr (o := .dK (putK ps kk w)) hH3 ha3 nf
                      refine q3 _ _ μ3 x (hH3.wr ha3 ⟨_, upd_same, rvk_iff.mpr ?_⟩ nf) (RV.ext x _ _ r3)
                      exact L2.Paired.mapP (rvq_set r3 hq) fun p q z => ⟨z.1, RV.ext x _ _ z.2⟩
                · exact q3.elim
            | _ => simp only [e4] at q3; exact q3.elim
        | _ => simp only [e2] at q1; exact q1.elim
    | _ => exact q1.elim
end
end FL

/-! ### the text by places -/
namespace G
open PySem PySem.Spec PyProof.Rows L2 FL
def topS (i : Nat) : Stmt := PySem.Challenge.pw_namestay_k56_what_stands_in_cores.main.body.getD i (.Pass ⟨0, 0, 0, 0⟩)
theorem boot_abs' : bootBuiltins "abs" = some (.builtin "abs") := by decide +kernel
theorem boot_bool' : bootBuiltins "bool" = some (.type "bool") := by decide +kernel
theorem boot_dict' : bootBuiltins "dict" = some (.type "dict") := by decide +kernel
theorem boot_int' : bootBuiltins "int" = some (.type "int") := by decide +kernel
theorem boot_isinstance' : bootBuiltins "isinstance" = some (.builtin "isinstance") := by decide +kernel
theorem boot_list' : bootBuiltins "list" = some (.type "list") := by decide +kernel
theorem boot_max' : bootBuiltins "max" = some (.builtin "max") := by decide +kernel
theorem boot_min' : bootBuiltins "min" = some (.builtin "min") := by decide +kernel
theorem boot_range' : bootBuiltins "range" = some (.type "range") := by decide +kernel
theorem boot_set' : bootBuiltins "set" = some (.type "set") := by decide +kernel
theorem boot_sorted' : bootBuiltins "sorted" = some (.builtin "sorted") := by decide +kernel
theorem boot_str' : bootBuiltins "str" = some (.type "str") := by decide +kernel
theorem boot_tuple' : bootBuiltins "tuple" = some (.type "tuple") := by decide +kernel
abbrev s0 : Stmt := topS 1 -- parts_of
theorem sc0 : FnScope ["core"] ["core"] (defScope s0) := ⟨rfl, rfl, rfl, by decide +kernel, rfl, by decide +kernel, by decide +kernel⟩
abbrev s1 : Stmt := topS 2 -- with_parts
theorem sc1 : FnScope ["core", "parts"] ["core", "parts"] (defScope s1) := ⟨rfl, rfl, rfl, by decide +kernel, rfl, by decide +kernel, by decide +kernel⟩
abbrev s2 : Stmt := topS 3 -- open_places
theorem sc2 : FnScope ["core", "found", "part", "outer", "k"] ["core"] (defScope s2) := ⟨rfl, rfl, rfl, by decide +kernel, rfl, by decide +kernel, by decide +kernel⟩
abbrev s3 : Stmt := topS 5 -- form_below
theorem sc3 : FnScope ["core", "ties", "word", "i", "parts", "part"] ["core", "ties"] (defScope s3) := ⟨rfl, rfl, rfl, by decide +kernel, rfl, by decide +kernel, by decide +kernel⟩
abbrev s4 : Stmt := topS 6 -- form_of
theorem sc4 : FnScope ["core"] ["core"] (defScope s4) := ⟨rfl, rfl, rfl, by decide +kernel, rfl, by decide +kernel, by decide +kernel⟩
abbrev s5 : Stmt := topS 8 -- all_parts
theorem sc5 : FnScope ["core", "found", "part"] ["core"] (defScope s5) := ⟨rfl, rfl, rfl, by decide +kernel, rfl, by decide +kernel, by decide +kernel⟩
abbrev s6 : Stmt := topS 9 -- kinds_in
theorem sc6 : FnScope ["core", "found", "part"] ["core"] (defScope s6) := ⟨rfl, rfl, rfl, by decide +kernel, rfl, by decide +kernel, by decide +kernel⟩
abbrev s7 : Stmt := topS 10 -- deep_of
theorem sc7 : FnScope ["core", "part"] ["core"] (defScope s7) := ⟨rfl, rfl, rfl, by decide +kernel, rfl, by decide +kernel, by decide +kernel⟩
abbrev s8 : Stmt := topS 11 -- refs_by_place
theorem sc8 : FnScope ["core", "found", "part", "k"] ["core"] (defScope s8) := ⟨rfl, rfl, rfl, by decide +kernel, rfl, by decide +kernel, by decide +kernel⟩
abbrev s9 : Stmt := topS 12 -- most_read
theorem sc9 : FnScope ["core", "found", "k"] ["core"] (defScope s9) := ⟨rfl, rfl, rfl, by decide +kernel, rfl, by decide +kernel, by decide +kernel⟩
abbrev s10 : Stmt := topS 13 -- alike_parts
theorem sc10 : FnScope ["core", "parts", "able", "found", "n", "m", "i"] ["core"] (defScope s10) := ⟨rfl, rfl, rfl, by decide +kernel, rfl, by decide +kernel, by decide +kernel⟩
abbrev s11 : Stmt := topS 15 -- _law_draws
theorem sc11 : FnScope ["script", "many", "draws", "mixed", "k", "cell", "rest", "turn"] ["script", "many"] (defScope s11) := ⟨rfl, rfl, rfl, by decide +kernel, rfl, by decide +kernel, by decide +kernel⟩
abbrev s12 : Stmt := topS 16 -- _law_next
theorem sc12 : FnScope ["w", "many"] ["w", "many"] (defScope s12) := ⟨rfl, rfl, rfl, by decide +kernel, rfl, by decide +kernel, by decide +kernel⟩
abbrev s13 : Stmt := topS 17 -- _law_pick
theorem sc13 : FnScope ["w", "rows"] ["w", "rows"] (defScope s13) := ⟨rfl, rfl, rfl, by decide +kernel, rfl, by decide +kernel, by decide +kernel⟩
abbrev s14 : Stmt := topS 18 -- _law_alike
theorem sc14 : FnScope ["told", "due", "k"] ["told", "due"] (defScope s14) := ⟨rfl, rfl, rfl, by decide +kernel, rfl, by decide +kernel, by decide +kernel⟩
abbrev s15 : Stmt := topS 19 -- _law_form
theorem sc15 : FnScope ["w", "depth", "ties", "kind", "backs", "i", "many", "one", "parts", "j", "k"] ["w", "depth", "ties"] (defScope s15) := ⟨rfl, rfl, rfl, by decide +kernel, rfl, by decide +kernel, by decide +kernel⟩
abbrev s16 : Stmt := topS 20 -- _law_core
theorem sc16 : FnScope ["form", "ties", "p", "word", "places", "parts", "body", "one", "part"] ["form", "ties", "p"] (defScope s16) := ⟨rfl, rfl, rfl, by decide +kernel, rfl, by decide +kernel, by decide +kernel⟩
abbrev s17 : Stmt := topS 21 -- _law_kids
theorem sc17 : FnScope ["core"] ["core"] (defScope s17) := ⟨rfl, rfl, rfl, by decide +kernel, rfl, by decide +kernel, by decide +kernel⟩
abbrev s18 : Stmt := topS 22 -- _law_every
theorem sc18 : FnScope ["core", "found", "part"] ["core"] (defScope s18) := ⟨rfl, rfl, rfl, by decide +kernel, rfl, by decide +kernel, by decide +kernel⟩
abbrev s19 : Stmt := topS 23 -- _law_deep
theorem sc19 : FnScope ["core", "part"] ["core"] (defScope s19) := ⟨rfl, rfl, rfl, by decide +kernel, rfl, by decide +kernel, by decide +kernel⟩
abbrev s20 : Stmt := topS 24 -- _law_named
theorem sc20 : FnScope ["core", "ties", "word", "able", "parts", "k", "part"] ["core", "ties"] (defScope s20) := ⟨rfl, rfl, rfl, by decide +kernel, rfl, by decide +kernel, by decide +kernel⟩
abbrev s21 : Stmt := topS 25 -- _law_has_free
theorem sc21 : FnScope ["named", "part"] ["named"] (defScope s21) := ⟨rfl, rfl, rfl, by decide +kernel, rfl, by decide +kernel, by decide +kernel⟩
abbrev s22 : Stmt := topS 26 -- law
theorem sc22 : FnScope ["script", "w", "turn", "form", "core", "every", "part", "best", "named", "able", "pairs", "i", "kinds", "reads", "k", "told", "more", "j", "one"] ["script"] (defScope s22) := ⟨rfl, rfl, rfl, by decide +kernel, rfl, by decide +kernel, by decide +kernel⟩
/-! ### what the defs compute -/
/-- parts_of(core); names 0 core -/
noncomputable def b0 (f : Nat → List D → Me → Res D) : MS :=
  (sSeq (sIf (mB (m2 gEq (m2 gIx (mVar 0) (mC (.int 0))) (mC (.str ("fn" : Str))))) (sSeq (sRet (mLst (mCons (m2 gIx (mVar 0) (mC (.int 2))) mNil))) sNext) sNext) (sSeq (sIf (mB (m2 gEq (m2 gIx (mVar 0) (mC (.int 0))) (mC (.str ("let" : Str))))) (sSeq (sRet (m2 gAdd (mArgs gList (mCons (m2 gIx (mVar 0) (mC (.int 2))) mNil)) (mLst (mCons (m2 gIx (mVar 0) (mC (.int 3))) mNil)))) sNext) sNext) (sSeq (sIf (mB (m2 gEq (m2 gIx (mVar 0) (mC (.int 0))) (mC (.str ("call" : Str))))) (sSeq (sRet (m2 gAdd (mLst (mCons (m2 gIx (mVar 0) (mC (.int 1))) mNil)) (mArgs gList (mCons (m2 gIx (mVar 0) (mC (.int 2))) mNil)))) sNext) sNext) (sSeq (sRet (mIf (mB (m2 gEq (m2 gIx (mVar 0) (mC (.int 0))) (mC (.str ("if" : Str))))) (mArgs gList (mCons (mSl (mVar 0) (mOpt (mC (.int 1))) mNo) mNil)) (mLst mNil))) sNext))))
/-- with_parts(core, parts); names 0 core, 1 parts -/
noncomputable def b1 (f : Nat → List D → Me → Res D) : MS :=
  (sSeq (sIf (mB (m2 gEq (m2 gIx (mVar 0) (mC (.int 0))) (mC (.str ("fn" : Str))))) (sSeq (sRet (mTup (mCons (mC (.str ("fn" : Str))) (mCons (m2 gIx (mVar 0) (mC (.int 1))) (mCons (m2 gIx (mVar 1) (mC (.int 0))) mNil))))) sNext) sNext) (sSeq (sIf (mB (m2 gEq (m2 gIx (mVar 0) (mC (.int 0))) (mC (.str ("let" : Str))))) (sSeq (sRet (mTup (mCons (mC (.str ("let" : Str))) (mCons (m2 gIx (mVar 0) (mC (.int 1))) (mCons (mArgs gTuple (mCons (mSl (mVar 1) mNo (mOpt (m1 gNeg (mC (.int 1))))) mNil)) (mCons (m2 gIx (mVar 1) (m1 gNeg (mC (.int 1)))) mNil)))))) sNext) sNext) (sSeq (sIf (mB (m2 gEq (m2 gIx (mVar 0) (mC (.int 0))) (mC (.str ("call" : Str))))) (sSeq (sRet (mTup (mCons (mC (.str ("call" : Str))) (mCons (m2 gIx (mVar 1) (mC (.int 0))) (mCons (mArgs gTuple (mCons (mSl (mVar 1) (mOpt (mC (.int 1))) mNo) mNil)) mNil))))) sNext) sNext) (sSeq (sRet (mIf (mB (m2 gEq (m2 gIx (mVar 0) (mC (.int 0))) (mC (.str ("if" : Str))))) (m2 gAdd (mTup (mCons (mC (.str ("if" : Str))) mNil)) (mArgs gTuple (mCons (mVar 1) mNil))) (mVar 0))) sNext))))
/-- open_places(core); names 0 core, 1 found, 2 part, 3 outer, 4 k -/
noncomputable def b2 (f : Nat → List D → Me → Res D) : MS :=
  (sSeq (sIf (mB (m2 gEq (m2 gIx (mVar 0) (mC (.int 0))) (mC (.str ("ref" : Str))))) (sSeq (sRet (mTup (mCons (m2 gIx (mVar 0) (mC (.int 1))) mNil))) sNext) sNext) (sSeq (sSet 1 (mNew mNil)) (sSeq (sFor (iSeq (mCall (f 0) (mCons (mVar 0) mNil))) (tgN 2) (sSeq (sDo (mExtendT (mVar 1) (mCall (f 2) (mCons (mVar 2) mNil)))) sNext)) (sSeq (sIf (mB (m2 gEq (m2 gIx (mVar 0) (mC (.int 0))) (mC (.str ("fn" : Str))))) (sSeq (sSet 1 (mCompC (iSeq (mVar 1)) [4] (tgN 4) (mB (m2 (gInN true) (mVar 4) (m2 gIx (mVar 0) (mC (.int 1))))) (mVar 4))) sNext) sNext) (sSeq (sIf (mB (m2 gEq (m2 gIx (mVar 0) (mC (.int 0))) (mC (.str ("let" : Str))))) (sSeq (sSet 3 (mNew mNil)) (sSeq (sFor (iSeq (m2 gIx (mVar 0) (mC (.int 2)))) (tgN 2) (sSeq (sDo (mExtendT (mVar 3) (mCall (f 2) (mCons (mVar 2) mNil)))) sNext)) (sSeq (sSet 1 (m2 gCatC (mVar 3) (mComp (iSeq (mCall (f 2) (mCons (m2 gIx (mVar 0) (mC (.int 3))) mNil))) [4] (tgN 4) (mB (m2 (gInN true) (mVar 4) (m2 gIx (mVar 0) (mC (.int 1))))) (mVar 4)))) sNext))) sNext) (sSeq (sRet (mArgs gTuple (mCons (m1 gSortSet (mVar 1)) mNil))) sNext))))))
/-- form_below(core, ties); names 0 core, 1 ties, 2 word, 3 i, 4 parts, 5 part -/
noncomputable def b3 (f : Nat → List D → Me → Res D) : MS :=
  (sSeq (sSet 2 (m2 gIx (mVar 0) (mC (.int 0)))) (sSeq (sIf (mB (m2 gEq (mVar 2) (mC (.str ("ref" : Str))))) (sSeq (sFor (iRange1 (mCons (mArgs gLen (mCons (mVar 1) mNil)) mNil)) (tgN 3) (sSeq (sIf (mB (m2 (gInN false) (m2 gIx (mVar 0) (mC (.int 1))) (m2 gIx (mVar 1) (mVar 3)))) (sSeq (sRet (mTup (mCons (mC (.str ("back" : Str))) (mCons (mVar 3) (mCons (mIndex (m2 gIx (mVar 1) (mVar 3)) (m2 gIx (mVar 0) (mC (.int 1)))) mNil))))) sNext) sNext) sNext)) (sSeq (sRet (mVar 0)) sNext)) sNext) (sSeq (sIf (mB (m2 gEq (mVar 2) (mC (.str ("fn" : Str))))) (sSeq (sRet (mTup (mCons (mC (.str ("fn" : Str))) (mCons (mArgs gLen (mCons (m2 gIx (mVar 0) (mC (.int 1))) mNil)) (mCons (mCall (f 3) (mCons (m2 gIx (mVar 0) (mC (.int 2))) (mCons (m2 gAdd (mLst (mCons (m2 gIx (mVar 0) (mC (.int 1))) mNil)) (mVar 1)) mNil))) mNil))))) sNext) sNext) (sSeq (sIf (mB (m2 gEq (mVar 2) (mC (.str ("let" : Str))))) (sSeq (sSet 4 (mArgs gTuple (mCons (mComp (iSeq (m2 gIx (mVar 0) (mC (.int 2)))) [5] (tgN 5) cYes (mCall (f 3) (mCons (mVar 5) (mCons (mVar 1) mNil)))) mNil))) (sSeq (sRet (mTup (mCons (mC (.str ("let" : Str))) (mCons (mArgs gLen (mCons (m2 gIx (mVar 0) (mC (.int 1))) mNil)) (mCons (mVar 4) (mCons (mCall (f 3) (mCons (m2 gIx (mVar 0) (mC (.int 3))) (mCons (m2 gAdd (mLst (mCons (m2 gIx (mVar 0) (mC (.int 1))) mNil)) (mVar 1)) mNil))) mNil)))))) sNext)) sNext) (sSeq (sRet (mCall (f 1) (mCons (mVar 0) (mCons (mComp (iSeq (mCall (f 0) (mCons (mVar 0) mNil))) [5] (tgN 5) cYes (mCall (f 3) (mCons (mVar 5) (mCons (mVar 1) mNil)))) mNil)))) sNext)))))
/-- form_of(core); names 0 core -/
noncomputable def b4 (f : Nat → List D → Me → Res D) : MS :=
  (sSeq (sRet (mCall (f 3) (mCons (mVar 0) (mCons (mLst mNil) mNil)))) sNext)
/-- all_parts(core); names 0 core, 1 found, 2 part -/
noncomputable def b5 (f : Nat → List D → Me → Res D) : MS :=
  (sSeq (sSet 1 (mNew (mCons (mVar 0) mNil))) (sSeq (sFor (iSeq (mCall (f 0) (mCons (mVar 0) mNil))) (tgN 2) (sSeq (sDo (mExtend (mVar 1) (mCall (f 5) (mCons (mVar 2) mNil)))) sNext)) (sSeq (sRet (mVar 1)) sNext)))
/-- kinds_in(core); names 0 core, 1 found, 2 part -/
noncomputable def b6 (f : Nat → List D → Me → Res D) : MS :=
  (sSeq (sSet 1 mNewK) (sSeq (sFor (iSeq (mCall (f 5) (mCons (mVar 0) mNil))) (tgN 2) (sSeq (sDput (mVar 1) (m2 gIx (mVar 2) (mC (.int 0))) (m2 gAdd (m3 gDget2 (mVar 1) (m2 gIx (mVar 2) (mC (.int 0))) (mC (.int 0))) (mC (.int 1)))) sNext)) (sSeq (sRet (mVar 1)) sNext)))
/-- deep_of(core); names 0 core, 1 part -/
noncomputable def b7 (f : Nat → List D → Me → Res D) : MS :=
  (sSeq (sRet (m2 gAdd (mC (.int 1)) (mArgs gMaxL (mCons (m2 gAdd (mLst (mCons (mC (.int 0)) mNil)) (mComp (iSeq (mCall (f 0) (mCons (mVar 0) mNil))) [1] (tgN 1) cYes (mCall (f 7) (mCons (mVar 1) mNil)))) mNil)))) sNext)
/-- refs_by_place(core); names 0 core, 1 found, 2 part, 3 k -/
noncomputable def b8 (f : Nat → List D → Me → Res D) : MS :=
  (sSeq (sSet 1 mNewK) (sSeq (sFor (iSeq (mCall (f 5) (mCons (mVar 0) mNil))) (tgN 2) (sSeq (sIf (mB (m2 (gInN false) (m2 gIx (mVar 2) (mC (.int 0))) (mTup (mCons (mC (.str ("fn" : Str))) (mCons (mC (.str ("let" : Str))) mNil))))) (sSeq (sFor (iSeq (m2 gIx (mVar 2) (mC (.int 1)))) (tgN 3) (sSeq (sDo (mSetd (mVar 1) (mVar 3) (mC (.int 0)))) sNext)) sNext) sNext) sNext)) (sSeq (sFor (iSeq (mCall (f 5) (mCons (mVar 0) mNil))) (tgN 2) (sSeq (sIf (mAnd (mB (m2 gEq (m2 gIx (mVar 2) (mC (.int 0))) (mC (.str ("ref" : Str))))) (mB (m2 (gDin false) (m2 gIx (mVar 2) (mC (.int 1))) (mVar 1)))) (sSeq (sDaug (mVar 1) (m2 gIx (mVar 2) (mC (.int 1))) (mC (.int 1))) sNext) sNext) sNext)) (sSeq (sRet (mVar 1)) sNext))))
/-- most_read(core); names 0 core, 1 found, 2 k -/
noncomputable def b9 (f : Nat → List D → Me → Res D) : MS :=
  (sSeq (sSet 1 (mCall (f 8) (mCons (mVar 0) mNil))) (sSeq (sRet (mIf (mB (m2 gNeL (mVar 1) mNewK)) (m2 gIx (mArgs gMin (mCons (mComp (iKey (mVar 1)) [2] (tgN 2) cYes (mTup (mCons (m1 gNeg (m2 gDget (mVar 1) (mVar 2))) (mCons (mVar 2) mNil)))) mNil)) (mC (.int 1))) (mC .non))) sNext))
/-- alike_parts(core); names 0 core, 1 parts, 2 able, 3 found, 4 n, 5 m, 6 i -/
noncomputable def b10 (f : Nat → List D → Me → Res D) : MS :=
  (sSeq (sSet 1 (mCall (f 5) (mCons (mVar 0) mNil))) (sSeq (sSet 2 (mComp (iRange1 (mCons (mArgs gLen (mCons (mVar 1) mNil)) mNil)) [6] (tgN 6) (mAnd (mB (m2 gNe (mCall (f 0) (mCons (m2 gIx (mVar 1) (mVar 6)) mNil)) (mLst mNil))) (mB (m2 gEq (mCall (f 2) (mCons (m2 gIx (mVar 1) (mVar 6)) mNil)) (mTup mNil)))) (mVar 6))) (sSeq (sSet 3 (mNew mNil)) (sSeq (sFor (iRange1 (mCons (mArgs gLen (mCons (mVar 2) mNil)) mNil)) (tgN 4) (sSeq (sFor (iRange2 (mCons (m2 gAdd (mVar 4) (mC (.int 1))) (mCons (mArgs gLen (mCons (mVar 2) mNil)) mNil))) (tgN 5) (sSeq (sIf (mB (m2 gEq (mCall (f 4) (mCons (m2 gIx (mVar 1) (m2 gIx (mVar 2) (mVar 4))) mNil)) (mCall (f 4) (mCons (m2 gIx (mVar 1) (m2 gIx (mVar 2) (mVar 5))) mNil)))) (sSeq (sDo (mAppend (mVar 3) (mTup (mCons (m2 gIx (mVar 2) (mVar 4)) (mCons (m2 gIx (mVar 2) (mVar 5)) mNil))))) sNext) sNext) sNext)) sNext)) (sSeq (sRet (mArgs gTuple (mCons (mVar 3) mNil))) sNext)))))
/-- _law_draws(script, many); names 0 script, 1 many, 2 draws, 3 mixed, 4 k, 5 cell, 6 rest, 7 turn -/
noncomputable def b11 (f : Nat → List D → Me → Res D) : MS :=
  (sSeq (sSet 2 (mNew mNil)) (sSeq (sSet 3 (mC (.int 7))) (sSeq (sFor (iRange1 (mCons (mArgs gLen (mCons (mVar 0) mNil)) mNil)) (tgN 4) (sSeq (sSet 5 (mArgs gAbs (mCons (mArgs gInt (mCons (m2 gIx (mVar 0) (mVar 4)) mNil)) mNil))) (sSeq (sSet 3 (m2 gMod (mArgs gInt (mCons (m2 gAdd (m2 gAdd (m2 gMul (mVar 3) (mC (.int 48271))) (m2 gMod (mVar 5) (mC (.int 1000003)))) (mVar 4)) mNil)) (mC (.int 65537)))) (sSeq (sSet 6 (mC (.int 0))) (sSeq (sIf (mB (m2 gGe (mVar 5) (m2 gPow (mC (.int 10)) (mC (.int 18))))) (sSeq (sSet 6 (mVar 5)) sNext) (sSeq (sDo (mAppend (mVar 2) (m2 gMod (mArgs gInt (mCons (mVar 5) mNil)) (mC (.int 997))))) (sSeq (sDo (mAppend (mVar 2) (m2 gMod (m2 gMod (mArgs gInt (mCons (m2 gAdd (m2 gMul (mVar 3) (mC (.int 69621))) (mC (.int 5))) mNil)) (mC (.int 65521))) (mC (.int 997))))) sNext))) (sSeq (sFor (iRange1 (mCons (mC (.int 60)) mNil)) (tgN 7) (sSeq (sIf (mB (m2 gGt (mVar 6) (mC (.int 0)))) (sSeq (sDo (mAppend (mVar 2) (m2 gMod (mArgs gInt (mCons (mVar 6) mNil)) (mC (.int 997))))) (sSeq (sSet 6 (m2 gDiv (mVar 6) (mC (.int 997)))) sNext)) sNext) sNext)) sNext)))))) (sSeq (sFor (iRange1 (mCons (mVar 1) mNil)) (tgN 4) (sSeq (sSet 3 (m2 gMod (mArgs gInt (mCons (m2 gAdd (m2 gAdd (m2 gMul (mVar 3) (mC (.int 16807))) (mVar 4)) (mC (.int 1))) mNil)) (mC (.int 65537)))) (sSeq (sDo (mAppend (mVar 2) (m2 gMod (mArgs gInt (mCons (mVar 3) mNil)) (mC (.int 997))))) sNext))) (sSeq (sRet (mSl (mVar 2) mNo (mOpt (mVar 1)))) sNext)))))
/-- _law_next(w, many); names 0 w, 1 many -/
noncomputable def b12 (f : Nat → List D → Me → Res D) : MS :=
  (sSeq (sDaug (mVar 0) (mC (.str ("at" : Str))) (mC (.int 1))) (sSeq (sIf (mB (m2 gGt (m2 gDget (mVar 0) (mC (.str ("at" : Str)))) (mArgs gLen (mCons (m2 gDget (mVar 0) (mC (.str ("draws" : Str)))) mNil)))) (sSeq (sRet (mC (.int 0))) sNext) sNext) (sSeq (sRet (m2 gMod (mArgs gInt (mCons (m2 gIx (m2 gDget (mVar 0) (mC (.str ("draws" : Str)))) (m2 gSub (m2 gDget (mVar 0) (mC (.str ("at" : Str)))) (mC (.int 1)))) mNil)) (mVar 1))) sNext)))
/-- _law_pick(w, rows); names 0 w, 1 rows -/
noncomputable def b13 (f : Nat → List D → Me → Res D) : MS :=
  (sSeq (sRet (m2 gIx (mVar 1) (mCall (f 12) (mCons (mVar 0) (mCons (mArgs gLen (mCons (mVar 1) mNil)) mNil))))) sNext)
/-- _law_alike(told, due); names 0 told, 1 due, 2 k -/
noncomputable def b14 (f : Nat → List D → Me → Res D) : MS :=
  (sSeq (sIf (mB (m1 (gIsi "tuple") (mVar 1))) (sSeq (sIf (mOr (mNot (mB (m1 (gIsi "tuple") (mVar 0)))) (mB (m2 gNe (mArgs gLen (mCons (mVar 0) mNil)) (mArgs gLen (mCons (mVar 1) mNil))))) (sSeq (sRet (mC (.bl false))) sNext) sNext) (sSeq (sRet (m2 gEq (mComp (iRange1 (mCons (mArgs gLen (mCons (mVar 1) mNil)) mNil)) [2] (tgN 2) (mNot (mB (mCall (f 14) (mCons (m2 gIx (mVar 0) (mVar 2)) (mCons (m2 gIx (mVar 1) (mVar 2)) mNil))))) (mVar 2)) (mLst mNil))) sNext)) sNext) (sSeq (sIf (mB (m2 gIsN (mVar 1) (mC .non))) (sSeq (sRet (m2 gIsN (mVar 0) (mC .non))) sNext) sNext) (sSeq (sIf (mB (m1 (gIsi "bool") (mVar 1))) (sSeq (sRet (mAndV (m1 (gIsi "bool") (mVar 0)) (m2 gEq (mVar 0) (mVar 1)))) sNext) sNext) (sSeq (sIf (mB (m1 (gIsi "int") (mVar 1))) (sSeq (sRet (mAndV (m1 (gIsi "int") (mVar 0)) (mAndV (mNotV (m1 (gIsi "bool") (mVar 0))) (m2 gEq (mVar 0) (mVar 1))))) sNext) sNext) (sSeq (sRet (mAndV (m1 (gIsi "str") (mVar 0)) (m2 gEq (mVar 0) (mVar 1)))) sNext)))))
/-- _law_form(w, depth, ties); names 0 w, 1 depth, 2 ties, 3 kind, 4 backs, 5 i, 6 many, 7 one, 8 parts, 9 j, 10 k -/
noncomputable def b15 (f : Nat → List D → Me → Res D) : MS :=
  (sSeq (sSet 3 (mIf (mB (m2 gGt (mVar 1) (mC (.int 0)))) (mCall (f 12) (mCons (mVar 0) (mCons (mC (.int 9)) mNil))) (mCall (f 12) (mCons (mVar 0) (mCons (mC (.int 4)) mNil))))) (sSeq (sSet 4 (mLst mNil)) (sSeq (sFor (iRange1 (mCons (mArgs gLen (mCons (mVar 2) mNil)) mNil)) (tgN 5) (sSeq (sSet 4 (m2 gAdd (mVar 4) (mComp (iRange1 (mCons (m2 gIx (mVar 2) (mVar 5)) mNil)) [9] (tgN 9) cYes (mTup (mCons (mC (.str ("back" : Str))) (mCons (mVar 5) (mCons (mVar 9) mNil))))))) sNext)) (sSeq (sIf (mAnd (mB (m2 gLt (mVar 3) (mC (.int 2)))) (mB (m2 gNe (mVar 4) (mLst mNil)))) (sSeq (sRet (mCall (f 13) (mCons (mVar 0) (mCons (mVar 4) mNil)))) sNext) sNext) (sSeq (sIf (mB (m2 gLt (mVar 3) (mC (.int 4)))) (sSeq (sRet (mCall (f 13) (mCons (mVar 0) (mCons (mLst (mCons (mTup (mCons (mC (.str ("num" : Str))) (mCons (mC (.int 0)) mNil))) (mCons (mTup (mCons (mC (.str ("num" : Str))) (mCons (mC (.int 1)) mNil))) (mCons (mTup (mCons (mC (.str ("num" : Str))) (mCons (m1 gNeg (mC (.int 12))) mNil))) (mCons (mTup (mCons (mC (.str ("open" : Str))) (mCons (mC (.str ("+" : Str))) mNil))) (mCons (mTup (mCons (mC (.str ("open" : Str))) (mCons (mC (.str ("q" : Str))) mNil))) (mCons (mTup (mCons (mC (.str ("quote" : Str))) (mCons (mTup (mCons (mC (.str ("word" : Str))) (mCons (mC (.str ("a" : Str))) mNil))) mNil))) (mCons (mTup (mCons (mC (.str ("quote" : Str))) (mCons (mTup (mCons (mC (.str ("list" : Str))) (mCons (mTup (mCons (mTup (mCons (mC (.str ("num" : Str))) (mCons (mC (.int 3)) mNil))) (mCons (mTup (mCons (mC (.str ("word" : Str))) (mCons (mC (.str ("_" : Str))) mNil))) mNil))) mNil))) mNil))) (mCons (mTup (mCons (mC (.str ("num" : Str))) (mCons (mC (.int 7)) mNil))) mNil))))))))) mNil)))) sNext) sNext) (sSeq (sSet 6 (mCall (f 12) (mCons (mVar 0) (mCons (mC (.int 3)) mNil)))) (sSeq (sIf (mB (m2 gEq (mVar 3) (mC (.int 4)))) (sSeq (sRet (mTup (mCons (mC (.str ("fn" : Str))) (mCons (mVar 6) (mCons (mCall (f 15) (mCons (mVar 0) (mCons (m2 gSub (mVar 1) (mC (.int 1))) (mCons (m2 gAdd (mLst (mCons (mVar 6) mNil)) (mVar 2)) mNil)))) mNil))))) sNext) sNext) (sSeq (sIf (mB (m2 gEq (mVar 3) (mC (.int 5)))) (sSeq (sSet 8 (mArgs gTuple (mCons (mComp (iRange1 (mCons (mVar 6) mNil)) [10] (tgN 10) cYes (mCall (f 15) (mCons (mVar 0) (mCons (m2 gSub (mVar 1) (mC (.int 1))) (mCons (mVar 2) mNil))))) mNil))) (sSeq (sRet (mTup (mCons (mC (.str ("let" : Str))) (mCons (mVar 6) (mCons (mVar 8) (mCons (mCall (f 15) (mCons (mVar 0) (mCons (m2 gSub (mVar 1) (mC (.int 1))) (mCons (m2 gAdd (mLst (mCons (mVar 6) mNil)) (mVar 2)) mNil)))) mNil)))))) sNext)) sNext) (sSeq (sIf (mB (m2 gEq (mVar 3) (mC (.int 6)))) (sSeq (sRet (m2 gAdd (mTup (mCons (mC (.str ("if" : Str))) mNil)) (mArgs gTuple (mCons (mComp (iRange1 (mCons (mC (.int 3)) mNil)) [10] (tgN 10) cYes (mCall (f 15) (mCons (mVar 0) (mCons (m2 gSub (mVar 1) (mC (.int 1))) (mCons (mVar 2) mNil))))) mNil)))) sNext) sNext) (sSeq (sSet 7 (mCall (f 15) (mCons (mVar 0) (mCons (m2 gSub (mVar 1) (mC (.int 1))) (mCons (mVar 2) mNil))))) (sSeq (sRet (mTup (mCons (mC (.str ("call" : Str))) (mCons (mVar 7) (mCons (mArgs gTuple (mCons (mComp (iRange1 (mCons (mVar 6) mNil)) [10] (tgN 10) cYes (mCall (f 15) (mCons (mVar 0) (mCons (m2 gSub (mVar 1) (mC (.int 1))) (mCons (mVar 2) mNil))))) mNil)) mNil))))) sNext)))))))))))
/-- _law_core(form, ties, p); names 0 form, 1 ties, 2 p, 3 word, 4 places, 5 parts, 6 body, 7 one, 8 part -/
noncomputable def b16 (f : Nat → List D → Me → Res D) : MS :=
  (sSeq (sSet 3 (m2 gIx (mVar 0) (mC (.int 0)))) (sSeq (sIf (mB (m2 gEq (mVar 3) (mC (.str ("back" : Str))))) (sSeq (sRet (mTup (mCons (mC (.str ("ref" : Str))) (mCons (m2 gIx (m2 gIx (mVar 1) (m2 gIx (mVar 0) (mC (.int 1)))) (m2 gIx (mVar 0) (mC (.int 2)))) mNil)))) sNext) sNext) (sSeq (sIf (mB (m2 (gInN false) (mVar 3) (mTup (mCons (mC (.str ("num" : Str))) (mCons (mC (.str ("open" : Str))) (mCons (mC (.str ("quote" : Str))) mNil)))))) (sSeq (sRet (mVar 0)) sNext) sNext) (sSeq (sIf (mB (m2 gEq (mVar 3) (mC (.str ("if" : Str))))) (sSeq (sRet (m2 gAdd (mTup (mCons (mC (.str ("if" : Str))) mNil)) (mArgs gTuple (mCons (mComp (iSeq (mSl (mVar 0) (mOpt (mC (.int 1))) mNo)) [8] (tgN 8) cYes (mCall (f 16) (mCons (mVar 8) (mCons (mVar 1) (mCons (mVar 2) mNil))))) mNil)))) sNext) sNext) (sSeq (sIf (mB (m2 gEq (mVar 3) (mC (.str ("call" : Str))))) (sSeq (sSet 7 (mCall (f 16) (mCons (m2 gIx (mVar 0) (mC (.int 1))) (mCons (mVar 1) (mCons (mVar 2) mNil))))) (sSeq (sRet (mTup (mCons (mC (.str ("call" : Str))) (mCons (mVar 7) (mCons (mArgs gTuple (mCons (mComp (iSeq (m2 gIx (mVar 0) (mC (.int 2)))) [8] (tgN 8) cYes (mCall (f 16) (mCons (mVar 8) (mCons (mVar 1) (mCons (mVar 2) mNil))))) mNil)) mNil))))) sNext)) sNext) (sSeq (sSet 4 (mTupRg (mRg2 (m2 gDget (mVar 2) (mC (.str ("next" : Str)))) (m2 gAdd (m2 gDget (mVar 2) (mC (.str ("next" : Str)))) (m2 gIx (mVar 0) (mC (.int 1))))))) (sSeq (sDaug (mVar 2) (mC (.str ("next" : Str))) (m2 gIx (mVar 0) (mC (.int 1)))) (sSeq (sSet 5 (mIf (mB (m2 gEq (mVar 3) (mC (.str ("let" : Str))))) (mArgs gTuple (mCons (mComp (iSeq (m2 gIx (mVar 0) (mC (.int 2)))) [8] (tgN 8) cYes (mCall (f 16) (mCons (mVar 8) (mCons (mVar 1) (mCons (mVar 2) mNil))))) mNil)) (mTup mNil))) (sSeq (sSet 6 (mCall (f 16) (mCons (m2 gIx (mVar 0) (m2 gSub (mArgs gLen (mCons (mVar 0) mNil)) (mC (.int 1)))) (mCons (m2 gAdd (mLst (mCons (mVar 4) mNil)) (mVar 1)) (mCons (mVar 2) mNil))))) (sSeq (sRet (mIf (mB (m2 gEq (mVar 3) (mC (.str ("let" : Str))))) (mTup (mCons (mC (.str ("let" : Str))) (mCons (mVar 4) (mCons (mVar 5) (mCons (mVar 6) mNil))))) (mTup (mCons (mC (.str ("fn" : Str))) (mCons (mVar 4) (mCons (mVar 6) mNil)))))) sNext))))))))))
/-- _law_kids(core); names 0 core -/
noncomputable def b17 (f : Nat → List D → Me → Res D) : MS :=
  (sSeq (sIf (mB (m2 gEq (m2 gIx (mVar 0) (mC (.int 0))) (mC (.str ("if" : Str))))) (sSeq (sRet (mSl (mVar 0) (mOpt (mC (.int 1))) mNo)) sNext) sNext) (sSeq (sIf (mB (m2 gEq (m2 gIx (mVar 0) (mC (.int 0))) (mC (.str ("call" : Str))))) (sSeq (sRet (m2 gAdd (mTup (mCons (m2 gIx (mVar 0) (mC (.int 1))) mNil)) (m2 gIx (mVar 0) (mC (.int 2))))) sNext) sNext) (sSeq (sRet (mIf (mB (m2 gEq (m2 gIx (mVar 0) (mC (.int 0))) (mC (.str ("let" : Str))))) (m2 gAdd (m2 gIx (mVar 0) (mC (.int 2))) (mSl (mVar 0) (mOpt (mC (.int 3))) mNo)) (mIf (mB (m2 gEq (m2 gIx (mVar 0) (mC (.int 0))) (mC (.str ("fn" : Str))))) (mSl (mVar 0) (mOpt (mC (.int 2))) mNo) (mTup mNil)))) sNext)))
/-- _law_every(core); names 0 core, 1 found, 2 part -/
noncomputable def b18 (f : Nat → List D → Me → Res D) : MS :=
  (sSeq (sSet 1 (mLst (mCons (mVar 0) mNil))) (sSeq (sFor (iSeq (mCall (f 17) (mCons (mVar 0) mNil))) (tgN 2) (sSeq (sSet 1 (m2 gAdd (mVar 1) (mCall (f 18) (mCons (mVar 2) mNil)))) sNext)) (sSeq (sRet (mVar 1)) sNext)))
/-- _law_deep(core); names 0 core, 1 part -/
noncomputable def b19 (f : Nat → List D → Me → Res D) : MS :=
  (sSeq (sRet (m2 gAdd (mC (.int 1)) (mArgs gMaxL (mCons (m2 gAdd (mLst (mCons (mC (.int 0)) mNil)) (mComp (iSeq (mCall (f 17) (mCons (mVar 0) mNil))) [1] (tgN 1) cYes (mCall (f 19) (mCons (mVar 1) mNil)))) mNil)))) sNext)
/-- _law_named(core, ties); names 0 core, 1 ties, 2 word, 3 able, 4 parts, 5 k, 6 part -/
noncomputable def b20 (f : Nat → List D → Me → Res D) : MS :=
  (sSeq (sSet 2 (m2 gIx (mVar 0) (mC (.int 0)))) (sSeq (sIf (mB (m2 gEq (mVar 2) (mC (.str ("ref" : Str))))) (sSeq (sSet 3 (mComp (iRange1 (mCons (mArgs gLen (mCons (mVar 1) mNil)) mNil)) [5] (tgN 5) (mB (m2 (gInN false) (m2 gIx (mVar 0) (mC (.int 1))) (m2 gIx (mVar 1) (mVar 5)))) (mVar 5))) (sSeq (sRet (mIf (mB (m2 gNe (mVar 3) (mLst mNil))) (mTup (mCons (mC (.str ("back" : Str))) (mCons (m2 gIx (mVar 3) (mC (.int 0))) (mCons (mIndex (m2 gIx (mVar 1) (m2 gIx (mVar 3) (mC (.int 0)))) (m2 gIx (mVar 0) (mC (.int 1)))) mNil)))) (mTup (mCons (mC (.str ("free" : Str))) mNil)))) sNext)) sNext) (sSeq (sIf (mB (m2 (gInN false) (mVar 2) (mTup (mCons (mC (.str ("fn" : Str))) (mCons (mC (.str ("let" : Str))) mNil))))) (sSeq (sSet 4 (mIf (mB (m2 gEq (mVar 2) (mC (.str ("let" : Str))))) (mArgs gTuple (mCons (mComp (iSeq (m2 gIx (mVar 0) (mC (.int 2)))) [6] (tgN 6) cYes (mCall (f 20) (mCons (mVar 6) (mCons (mVar 1) mNil)))) mNil)) (mTup mNil))) (sSeq (sRet (mTup (mCons (mVar 2) (mCons (mArgs gLen (mCons (m2 gIx (mVar 0) (mC (.int 1))) mNil)) (mCons (mVar 4) (mCons (mCall (f 20) (mCons (m2 gIx (mVar 0) (m2 gSub (mArgs gLen (mCons (mVar 0) mNil)) (mC (.int 1)))) (mCons (m2 gAdd (mLst (mCons (m2 gIx (mVar 0) (mC (.int 1))) mNil)) (mVar 1)) mNil))) mNil)))))) sNext)) sNext) (sSeq (sRet (mIf (mB (m2 gNe (mCall (f 17) (mCons (mVar 0) mNil)) (mTup mNil))) (m2 gAdd (mTup (mCons (mVar 2) mNil)) (mArgs gTuple (mCons (mComp (iSeq (mCall (f 17) (mCons (mVar 0) mNil))) [6] (tgN 6) cYes (mCall (f 20) (mCons (mVar 6) (mCons (mVar 1) mNil)))) mNil))) (mVar 0))) sNext))))
/-- _law_has_free(named); names 0 named, 1 part -/
noncomputable def b21 (f : Nat → List D → Me → Res D) : MS :=
  (sSeq (sRet (mOrV (m2 gEq (mVar 0) (mTup (mCons (mC (.str ("free" : Str))) mNil))) (mAndV (m1 (gIsi "tuple") (mVar 0)) (m2 gNe (mComp (iSeq (mVar 0)) [1] (tgN 1) (mAnd (mB (m1 (gIsi "tuple") (mVar 1))) (mB (mCall (f 21) (mCons (mVar 1) mNil)))) (mVar 1)) (mLst mNil))))) sNext)
/-- law(script); names 0 script, 1 w, 2 turn, 3 form, 4 core, 5 every, 6 part, 7 best, 8 named, 9 able, 10 pairs, 11 i, 12 kinds, 13 reads, 14 k, 15 told, 16 more, 17 j, 18 one -/
noncomputable def b22 (f : Nat → List D → Me → Res D) : MS :=
  (sSeq (sSet 1 (mDisp (pCons (mC (.str ("draws" : Str))) (mCall (f 11) (mCons (mVar 0) (mCons (mC (.int 700)) mNil))) (pCons (mC (.str ("at" : Str))) (mC (.int 0)) pNil)))) (sSeq (sFor (iRange1 (mCons (mC (.int 8)) mNil)) (tgN 2) (sSeq (sSet 3 (mCall (f 15) (mCons (mVar 1) (mCons (mC (.int 3)) (mCons (mLst mNil) mNil))))) (sSeq (sIf (mB (m2 gEq (mCall (f 12) (mCons (mVar 1) (mCons (mC (.int 2)) mNil))) (mC (.int 0)))) (sSeq (sSet 3 (mTup (mCons (mC (.str ("call" : Str))) (mCons (mVar 3) (mCons (mTup (mCons (mCall (f 15) (mCons (mVar 1) (mCons (mC (.int 2)) (mCons (mLst mNil) mNil)))) (mCons (mVar 3) mNil))) mNil))))) sNext) sNext) (sSeq (sSet 4 (mCall (f 16) (mCons (mVar 3) (mCons (mLst mNil) (mCons (mDisp (pCons (mC (.str ("next" : Str))) (mCall (f 12) (mCons (mVar 1) (mCons (mC (.int 9)) mNil))) pNil)) mNil))))) (sSeq (sSet 5 (mCall (f 18) (mCons (mVar 4) mNil))) (sSeq (sAsg (tgTup 2 (tgCons (tgN 12) (tgCons (tgN 13) tgNil))) (mTup (mCons mNewK (mCons mNewK mNil)))) (sSeq (sFor (iSeq (mVar 5)) (tgN 6) (sSeq (sDput (mVar 12) (m2 gIx (mVar 6) (mC (.int 0))) (m2 gAdd (m3 gDget2 (mVar 12) (m2 gIx (mVar 6) (mC (.int 0))) (mC (.int 0))) (mC (.int 1)))) (sSeq (sFor (iSeq (mIf (mB (m2 (gInN false) (m2 gIx (mVar 6) (mC (.int 0))) (mTup (mCons (mC (.str ("fn" : Str))) (mCons (mC (.str ("let" : Str))) mNil))))) (m2 gIx (mVar 6) (mC (.int 1))) (mTup mNil))) (tgN 14) (sSeq (sDput (mVar 13) (mVar 14) (mArgs gLen (mCons (mComp (iSeq (mVar 5)) [18] (tgN 18) (mB (m2 gEq (mVar 18) (mTup (mCons (mC (.str ("ref" : Str))) (mCons (mVar 14) mNil))))) (mVar 18)) mNil))) sNext)) sNext))) (sSeq (sPar 15 16 (mCons (mCall (f 6) (mCons (mVar 4) mNil)) (mCons (mCall (f 8) (mCons (mVar 4) mNil)) mNil))) (sSeq (sIf (mOr (mNot (mB (m1 (gIsi "dict") (mVar 15)))) (mOr (mNot (mB (m1 (gIsi "dict") (mVar 16)))) (mNot (mB (mCall (f 14) (mCons (mArgs gTuple (mCons (m1 gSortIt (mVar 15)) mNil)) (mCons (mArgs gTuple (mCons (m1 gSortIt (mVar 12)) mNil)) mNil))))))) (sSeq (sRet (mC (.bl false))) sNext) sNext) (sSeq (sIf (mOr (mNot (mB (mCall (f 14) (mCons (mArgs gTuple (mCons (m1 gSortIt (mVar 16)) mNil)) (mCons (mArgs gTuple (mCons (m1 gSortIt (mVar 13)) mNil)) mNil))))) (mNot (mB (mCall (f 14) (mCons (mCall (f 7) (mCons (mVar 4) mNil)) (mCons (mCall (f 19) (mCons (mVar 4) mNil)) mNil)))))) (sSeq (sRet (mC (.bl false))) sNext) sNext) (sSeq (sSet 7 (mComp (iSeq (mArgs gSortDI (mCons (mVar 13) mNil))) [14] (tgN 14) (mB (m2 gEq (mComp (iKey (mVar 13)) [17] (tgN 17) (mB (m2 gGt (m2 gDget (mVar 13) (mVar 17)) (m2 gDget (mVar 13) (mVar 14)))) (mVar 17)) (mLst mNil))) (mVar 14))) (sSeq (sIf (mNot (mB (mCall (f 14) (mCons (mCall (f 9) (mCons (mVar 4) mNil)) (mCons (mIf (mB (m2 gNe (mVar 7) (mLst mNil))) (m2 gIx (mVar 7) (mC (.int 0))) (mC .non)) mNil))))) (sSeq (sRet (mC (.bl false))) sNext) sNext) (sSeq (sSet 8 (mComp (iSeq (mVar 5)) [6] (tgN 6) cYes (mCall (f 20) (mCons (mVar 6) (mCons (mLst mNil) mNil))))) (sSeq (sSet 9 (mComp (iRange1 (mCons (mArgs gLen (mCons (mVar 5) mNil)) mNil)) [11] (tgN 11) (mAnd (mB (m2 gNe (mCall (f 17) (mCons (m2 gIx (mVar 5) (mVar 11)) mNil)) (mTup mNil))) (mNot (mB (mCall (f 21) (mCons (m2 gIx (mVar 8) (mVar 11)) mNil))))) (mVar 11))) (sSeq (sSet 10 (mLst mNil)) (sSeq (sFor (iSeq (mVar 9)) (tgN 11) (sSeq (sSet 10 (m2 gAdd (mVar 10) (mComp (iSeq (mVar 9)) [17] (tgN 17) (mAnd (mB (m2 gLt (mVar 11) (mVar 17))) (mB (m2 gEq (m2 gIx (mVar 8) (mVar 11)) (m2 gIx (mVar 8) (mVar 17))))) (mTup (mCons (mVar 11) (mCons (mVar 17) mNil)))))) sNext)) (sSeq (sIf (mNot (mB (mCall (f 14) (mCons (mCall (f 10) (mCons (mVar 4) mNil)) (mCons (mArgs gTuple (mCons (mVar 10) mNil)) mNil))))) (sSeq (sRet (mC (.bl false))) sNext) sNext) sNext))))))))))))))))) (sSeq (sRet (mCall (f 14) (mCons (mCall (f 9) (mCons (mTup (mCons (mC (.str ("num" : Str))) (mCons (mC (.int 1)) mNil))) mNil)) (mCons (mC .non) mNil)))) sNext)))
noncomputable def fns : Nat → Nat → List D → Me → Res D
  | 0, _ => fun _ _ => .no
  | n + 1, 0 => runDef 1 1 (b0 (fns n))
  | n + 1, 1 => runDef 2 2 (b1 (fns n))
  | n + 1, 2 => runDef 5 1 (b2 (fns n))
  | n + 1, 3 => runDef 6 2 (b3 (fns n))
  | n + 1, 4 => runDef 1 1 (b4 (fns n))
  | n + 1, 5 => runDef 3 1 (b5 (fns n))
  | n + 1, 6 => runDef 3 1 (b6 (fns n))
  | n + 1, 7 => runDef 2 1 (b7 (fns n))
  | n + 1, 8 => runDef 4 1 (b8 (fns n))
  | n + 1, 9 => runDef 3 1 (b9 (fns n))
  | n + 1, 10 => runDef 7 1 (b10 (fns n))
  | n + 1, 11 => runDef 8 2 (b11 (fns n))
  | n + 1, 12 => runDef 2 2 (b12 (fns n))
  | n + 1, 13 => runDef 2 2 (b13 (fns n))
  | n + 1, 14 => runDef 3 2 (b14 (fns n))
  | n + 1, 15 => runDef 11 3 (b15 (fns n))
  | n + 1, 16 => runDef 9 3 (b16 (fns n))
  | n + 1, 17 => runDef 1 1 (b17 (fns n))
  | n + 1, 18 => runDef 3 1 (b18 (fns n))
  | n + 1, 19 => runDef 2 1 (b19 (fns n))
  | n + 1, 20 => runDef 7 2 (b20 (fns n))
  | n + 1, 21 => runDef 2 1 (b21 (fns n))
  | n + 1, 22 => runDef 19 1 (b22 (fns n))
  | _ + 1, _ => fun _ _ => .no
/-! ### what stands at the top -/
structure Facts (K : PySem.W.Frag) (mg : Str → Option Value) where
  a0 : Addr
  fd0 : FuncData
  F0 : Fun K "parts_of" "parts_of" s0 a0 fd0
  m0 : mg "parts_of" = some (.ref a0)
  b0 : Binds K fd0 ["core"] []
  a1 : Addr
  fd1 : FuncData
  F1 : Fun K "with_parts" "with_parts" s1 a1 fd1
  m1 : mg "with_parts" = some (.ref a1)
  b1 : Binds K fd1 ["core", "parts"] []
  a2 : Addr
  fd2 : FuncData
  F2 : Fun K "open_places" "open_places" s2 a2 fd2
  m2 : mg "open_places" = some (.ref a2)
  b2 : Binds K fd2 ["core"] []
  a3 : Addr
  fd3 : FuncData
  F3 : Fun K "form_below" "form_below" s3 a3 fd3
  m3 : mg "form_below" = some (.ref a3)
  b3 : Binds K fd3 ["core", "ties"] []
  a4 : Addr
  fd4 : FuncData
  F4 : Fun K "form_of" "form_of" s4 a4 fd4
  m4 : mg "form_of" = some (.ref a4)
  b4 : Binds K fd4 ["core"] []
  a5 : Addr
  fd5 : FuncData
  F5 : Fun K "all_parts" "all_parts" s5 a5 fd5
  m5 : mg "all_parts" = some (.ref a5)
  b5 : Binds K fd5 ["core"] []
  a6 : Addr
  fd6 : FuncData
  F6 : Fun K "kinds_in" "kinds_in" s6 a6 fd6
  m6 : mg "kinds_in" = some (.ref a6)
  b6 : Binds K fd6 ["core"] []
  a7 : Addr
  fd7 : FuncData
  F7 : Fun K "deep_of" "deep_of" s7 a7 fd7
  m7 : mg "deep_of" = some (.ref a7)
  b7 : Binds K fd7 ["core"] []
  a8 : Addr
  fd8 : FuncData
  F8 : Fun K "refs_by_place" "refs_by_place" s8 a8 fd8
  m8 : mg "refs_by_place" = some (.ref a8)
  b8 : Binds K fd8 ["core"] []
  a9 : Addr
  fd9 : FuncData
  F9 : Fun K "most_read" "most_read" s9 a9 fd9
  m9 : mg "most_read" = some (.ref a9)
  b9 : Binds K fd9 ["core"] []
  a10 : Addr
  fd10 : FuncData
  F10 : Fun K "alike_parts" "alike_parts" s10 a10 fd10
  m10 : mg "alike_parts" = some (.ref a10)
  b10 : Binds K fd10 ["core"] []
  a11 : Addr
  fd11 : FuncData
  F11 : Fun K "_law_draws" "_law_draws" s11 a11 fd11
  m11 : mg "_law_draws" = some (.ref a11)
  b11 : Binds K fd11 ["script", "many"] []
  a12 : Addr
  fd12 : FuncData
  F12 : Fun K "_law_next" "_law_next" s12 a12 fd12
  m12 : mg "_law_next" = some (.ref a12)
  b12 : Binds K fd12 ["w", "many"] []
  a13 : Addr
  fd13 : FuncData
  F13 : Fun K "_law_pick" "_law_pick" s13 a13 fd13
  m13 : mg "_law_pick" = some (.ref a13)
  b13 : Binds K fd13 ["w", "rows"] []
  a14 : Addr
  fd14 : FuncData
  F14 : Fun K "_law_alike" "_law_alike" s14 a14 fd14
  m14 : mg "_law_alike" = some (.ref a14)
  b14 : Binds K fd14 ["told", "due"] []
  a15 : Addr
  fd15 : FuncData
  F15 : Fun K "_law_form" "_law_form" s15 a15 fd15
  m15 : mg "_law_form" = some (.ref a15)
  b15 : Binds K fd15 ["w", "depth", "ties"] []
  a16 : Addr
  fd16 : FuncData
  F16 : Fun K "_law_core" "_law_core" s16 a16 fd16
  m16 : mg "_law_core" = some (.ref a16)
  b16 : Binds K fd16 ["form", "ties", "p"] []
  a17 : Addr
  fd17 : FuncData
  F17 : Fun K "_law_kids" "_law_kids" s17 a17 fd17
  m17 : mg "_law_kids" = some (.ref a17)
  b17 : Binds K fd17 ["core"] []
  a18 : Addr
  fd18 : FuncData
  F18 : Fun K "_law_every" "_law_every" s18 a18 fd18
  m18 : mg "_law_every" = some (.ref a18)
  b18 : Binds K fd18 ["core"] []
  a19 : Addr
  fd19 : FuncData
  F19 : Fun K "_law_deep" "_law_deep" s19 a19 fd19
  m19 : mg "_law_deep" = some (.ref a19)
  b19 : Binds K fd19 ["core"] []
  a20 : Addr
  fd20 : FuncData
  F20 : Fun K "_law_named" "_law_named" s20 a20 fd20
  m20 : mg "_law_named" = some (.ref a20)
  b20 : Binds K fd20 ["core", "ties"] []
  a21 : Addr
  fd21 : FuncData
  F21 : Fun K "_law_has_free" "_law_has_free" s21 a21 fd21
  m21 : mg "_law_has_free" = some (.ref a21)
  b21 : Binds K fd21 ["named"] []
  a22 : Addr
  fd22 : FuncData
  F22 : Fun K "law" "law" s22 a22 fd22
  m22 : mg "law" = some (.ref a22)
  b22 : Binds K fd22 ["script"] []
  z_list : mg "list" = none
  z_tuple : mg "tuple" = none
  z_sorted : mg "sorted" = none
  z_set : mg "set" = none
  z_len : mg "len" = none
  z_range : mg "range" = none
  z_max : mg "max" = none
  z_min : mg "min" = none
  z_int : mg "int" = none
  z_abs : mg "abs" = none
  z_isinstance : mg "isinstance" = none
  z_str : mg "str" = none
  z_bool : mg "bool" = none
  z_dict : mg "dict" = none
section
variable {P : Program} {w : World} {K : PySem.W.Frag} {mg : Str → Option Value} {base : Heap}
structure OkAll (P : Program) (w : World) (base : Heap) {K : PySem.W.Frag} {mg : Str → Option Value} (T : Facts K mg) (n : Nat) : Prop where
  g0 : FnOk P w K mg base CX0 n T.a0 T.fd0 ["core"] (spF K 1 (fns n 0))
  g1 : FnOk P w K mg base CX0 n T.a1 T.fd1 ["core", "parts"] (spF K 2 (fns n 1))
  g2 : FnOk P w K mg base CX0 n T.a2 T.fd2 ["core"] (spF K 1 (fns n 2))
  g3 : FnOk P w K mg base CX0 n T.a3 T.fd3 ["core", "ties"] (spF K 2 (fns n 3))
  g4 : FnOk P w K mg base CX0 n T.a4 T.fd4 ["core"] (spF K 1 (fns n 4))
  g5 : FnOk P w K mg base CX0 n T.a5 T.fd5 ["core"] (spF K 1 (fns n 5))
  g6 : FnOk P w K mg base CX0 n T.a6 T.fd6 ["core"] (spF K 1 (fns n 6))
  g7 : FnOk P w K mg base CX0 n T.a7 T.fd7 ["core"] (spF K 1 (fns n 7))
  g8 : FnOk P w K mg base CX0 n T.a8 T.fd8 ["core"] (spF K 1 (fns n 8))
  g9 : FnOk P w K mg base CX0 n T.a9 T.fd9 ["core"] (spF K 1 (fns n 9))
  g10 : FnOk P w K mg base CX0 n T.a10 T.fd10 ["core"] (spF K 1 (fns n 10))
  g11 : FnOk P w K mg base CX0 n T.a11 T.fd11 ["script", "many"] (spF K 2 (fns n 11))
  g12 : FnOk P w K mg base CX0 n T.a12 T.fd12 ["w", "many"] (spF K 2 (fns n 12))
  g13 : FnOk P w K mg base CX0 n T.a13 T.fd13 ["w", "rows"] (spF K 2 (fns n 13))
  g14 : FnOk P w K mg base CX0 n T.a14 T.fd14 ["told", "due"] (spF K 2 (fns n 14))
  g15 : FnOk P w K mg base CX0 n T.a15 T.fd15 ["w", "depth", "ties"] (spF K 3 (fns n 15))
  g16 : FnOk P w K mg base CX0 n T.a16 T.fd16 ["form", "ties", "p"] (spF K 3 (fns n 16))
  g17 : FnOk P w K mg base CX0 n T.a17 T.fd17 ["core"] (spF K 1 (fns n 17))
  g18 : FnOk P w K mg base CX0 n T.a18 T.fd18 ["core"] (spF K 1 (fns n 18))
  g19 : FnOk P w K mg base CX0 n T.a19 T.fd19 ["core"] (spF K 1 (fns n 19))
  g20 : FnOk P w K mg base CX0 n T.a20 T.fd20 ["core", "ties"] (spF K 2 (fns n 20))
  g21 : FnOk P w K mg base CX0 n T.a21 T.fd21 ["named"] (spF K 1 (fns n 21))
  g22 : FnOk P w K mg base CX0 n T.a22 T.fd22 ["script"] (spF K 1 (fns n 22))
theorem ok0 (T : Facts K mg) {n : Nat} (O : OkAll P w base T n) : FnOk P w K mg base CX0 (n + 1) T.a0 T.fd0 ["core"] (spF K 1 (fns (n + 1) 0)) := by
  refine fn_ok (fm := b0 (fns n)) T.F0 sc0 fun cdv A outer s H E hr => ?_
  have nd := sc0.nd
  exact (pdb_cons (pds_if (pdt_cmp (op_eqD hr.units) g_eq (pd_at (pd_var 0) pd_int) pd_str (nomark _)) (pdb_cons (pds_ret (pd_lst (pda_cons (pd_at (pd_var 0) pd_int) pda_nil)))
    pdb_nil) pdb_nil)
    (pdb_cons (pds_if (pdt_cmp (op_eqD hr.units) g_eq (pd_at (pd_var 0) pd_int) pd_str (nomark _)) (pdb_cons (pds_ret (pd_add (pd_callTy call_list_of g_list rfl T.z_list boot_list' (pda_cons (pd_at (pd_var 0) pd_int) pda_nil)) (pd_lst (pda_cons (pd_at (pd_var 0) pd_int) pda_nil))))
    pdb_nil) pdb_nil)
    (pdb_cons (pds_if (pdt_cmp (op_eqD hr.units) g_eq (pd_at (pd_var 0) pd_int) pd_str (nomark _)) (pdb_cons (pds_ret (pd_add (pd_lst (pda_cons (pd_at (pd_var 0) pd_int) pda_nil)) (pd_callTy call_list_of g_list rfl T.z_list boot_list' (pda_cons (pd_at (pd_var 0) pd_int) pda_nil))))
    pdb_nil) pdb_nil)
    (pdb_cons (pds_ret (pd_if (pdt_cmp (op_eqD hr.units) g_eq (pd_at (pd_var 0) pd_int) pd_str (nomark _)) (pd_callTy call_list_of g_list rfl T.z_list boot_list' (pda_cons (pd_slice (pd_var 0) (pdo_some pd_int) pdo_none) pda_nil)) (pd_lst pda_nil)))
    pdb_nil))))
theorem ok1 (T : Facts K mg) {n : Nat} (O : OkAll P w base T n) : FnOk P w K mg base CX0 (n + 1) T.a1 T.fd1 ["core", "parts"] (spF K 2 (fns (n + 1) 1)) := by
  refine fn_ok (fm := b1 (fns n)) T.F1 sc1 fun cdv A outer s H E hr => ?_
  have nd := sc1.nd
  exact (pdb_cons (pds_if (pdt_cmp (op_eqD hr.units) g_eq (pd_at (pd_var 0) pd_int) pd_str (nomark _)) (pdb_cons (pds_ret (pd_tup (pda_cons pd_str (pda_cons (pd_at (pd_var 0) pd_int) (pda_cons (pd_at (pd_var 1) pd_int) pda_nil)))))
    pdb_nil) pdb_nil)
    (pdb_cons (pds_if (pdt_cmp (op_eqD hr.units) g_eq (pd_at (pd_var 0) pd_int) pd_str (nomark _)) (pdb_cons (pds_ret (pd_tup (pda_cons pd_str (pda_cons (pd_at (pd_var 0) pd_int) (pda_cons (pd_callTy call_tuple_ofN g_tuple rfl T.z_tuple boot_tuple' (pda_cons (pd_slice (pd_var 1) pdo_none (pdo_some (pd_neg pd_int))) pda_nil)) (pda_cons (pd_at (pd_var 1) (pd_neg pd_int)) pda_nil))))))
    pdb_nil) pdb_nil)
    (pdb_cons (pds_if (pdt_cmp (op_eqD hr.units) g_eq (pd_at (pd_var 0) pd_int) pd_str (nomark _)) (pdb_cons (pds_ret (pd_tup (pda_cons pd_str (pda_cons (pd_at (pd_var 1) pd_int) (pda_cons (pd_callTy call_tuple_ofN g_tuple rfl T.z_tuple boot_tuple' (pda_cons (pd_slice (pd_var 1) (pdo_some pd_int) pdo_none) pda_nil)) pda_nil)))))
    pdb_nil) pdb_nil)
    (pdb_cons (pds_ret (pd_if (pdt_cmp (op_eqD hr.units) g_eq (pd_at (pd_var 0) pd_int) pd_str (nomark _)) (pd_add (pd_tup (pda_cons pd_str pda_nil)) (pd_callTy call_tuple_ofN g_tuple rfl T.z_tuple boot_tuple' (pda_cons (pd_var 1) pda_nil))) (pd_var 0)))
    pdb_nil))))
theorem ok2 (T : Facts K mg) {n : Nat} (O : OkAll P w base T n) : FnOk P w K mg base CX0 (n + 1) T.a2 T.fd2 ["core"] (spF K 1 (fns (n + 1) 2)) := by
  refine fn_ok (fm := b2 (fns n)) T.F2 sc2 fun cdv A outer s H E hr => ?_
  have nd := sc2.nd
  exact (pdb_cons (pds_if (pdt_cmp (op_eqD hr.units) g_eq (pd_at (pd_var 0) pd_int) pd_str (nomark _)) (pdb_cons (pds_ret (pd_tup (pda_cons (pd_at (pd_var 0) pd_int) pda_nil)))
    pdb_nil) pdb_nil)
    (pdb_cons (pds_set 1 nd (pd_new pda_nil))
    (pdb_cons (pds_for PassesOwn.never rfl (pdi_seq (pd_call O.g0 hr rfl T.m0 T.F0.kp T.b0 (pda_cons (pd_var 0) pda_nil))) (pg_name (i := 2) nd rfl (by first | exact Or.inl rfl | exact Or.inr rfl)) tg_n (pdb_cons (pds_expr (pd_extendT (pd_var 1) (pd_call O.g2 hr rfl T.m2 T.F2.kp T.b2 (pda_cons (pd_var 2) pda_nil))))
    pdb_nil))
    (pdb_cons (pds_if (pdt_cmp (op_eqD hr.units) g_eq (pd_at (pd_var 0) pd_int) pd_str (nomark _)) (pdb_cons (pds_setLcC 1 rfl nd (pdi_seq (pd_var 1)) (own := [("k", 4)]) (blkOk_by (by kernel_rfl)) tg_n (by decide) (fun _ _ _ _ _ => (pg_name (i := 4) nd rfl (by first | exact Or.inl rfl | exact Or.inr rfl))) (fun _ _ _ _ _ => pts_c (pdt_cmp op_notIn_seq g_inN (pd_var 4) (pd_at (pd_var 0) pd_int) (by rfl))) (fun _ _ _ _ _ => (pd_var 4)) (sw_true rfl rfl rfl (by kernel_rfl)))
    pdb_nil) pdb_nil)
    (pdb_cons (pds_if (pdt_cmp (op_eqD hr.units) g_eq (pd_at (pd_var 0) pd_int) pd_str (nomark _)) (pdb_cons (pds_set 3 nd (pd_new pda_nil))
    (pdb_cons (pds_for PassesOwn.never rfl (pdi_seq (pd_at (pd_var 0) pd_int)) (pg_name (i := 2) nd rfl (by first | exact Or.inl rfl | exact Or.inr rfl)) tg_n (pdb_cons (pds_expr (pd_extendT (pd_var 3) (pd_call O.g2 hr rfl T.m2 T.F2.kp T.b2 (pda_cons (pd_var 2) pda_nil))))
    pdb_nil))
    (pdb_cons (pds_set 1 nd (pd_catC (pd_var 3) (pd_lc rfl nd (pdi_seq (pd_call O.g2 hr rfl T.m2 T.F2.kp T.b2 (pda_cons (pd_at (pd_var 0) pd_int) pda_nil))) (own := [("k", 4)]) (blkOk_by (by kernel_rfl)) tg_n (by decide) (fun _ _ _ _ _ => (pg_name (i := 4) nd rfl (by first | exact Or.inl rfl | exact Or.inr rfl))) (fun _ _ _ _ _ => pts_c (pdt_cmp op_notIn_seq g_inN (pd_var 4) (pd_at (pd_var 0) pd_int) (by rfl))) (fun _ _ _ _ _ => (pd_var 4)))))
    pdb_nil))) pdb_nil)
    (pdb_cons (pds_ret (pd_callTy call_tuple_ofN g_tuple rfl T.z_tuple boot_tuple' (pda_cons (pd_sortSet rfl rfl T.z_sorted boot_sorted' rfl T.z_set boot_set' (pd_var 1)) pda_nil)))
    pdb_nil))))))
theorem ok3 (T : Facts K mg) {n : Nat} (O : OkAll P w base T n) : FnOk P w K mg base CX0 (n + 1) T.a3 T.fd3 ["core", "ties"] (spF K 2 (fns (n + 1) 3)) := by
  refine fn_ok (fm := b3 (fns n)) T.F3 sc3 fun cdv A outer s H E hr => ?_
  have nd := sc3.nd
  exact (pdb_cons (pds_set 2 nd (pd_at (pd_var 0) pd_int))
    (pdb_cons (pds_if (pdt_cmp (op_eqD hr.units) g_eq (pd_var 2) pd_str (nomark _)) (pdb_cons (pds_for PassesOwn.never rfl (pdi_range1 rfl T.z_range (pda_cons (pd_callB (call_len.or call_lenR) g_len rfl T.z_len PySem.boot_len (pda_cons (pd_var 1) pda_nil)) pda_nil)) (pg_name (i := 3) nd rfl (by first | exact Or.inl rfl | exact Or.inr rfl)) tg_n (pdb_cons (pds_if (pdt_cmp op_in_seq g_inN (pd_at (pd_var 0) pd_int) (pd_at (pd_var 1) (pd_var 3)) (by rfl)) (pdb_cons (pds_ret (pd_tup (pda_cons pd_str (pda_cons (pd_var 3) (pda_cons (pd_index (pd_at (pd_var 1) (pd_var 3)) (pd_at (pd_var 0) pd_int)) pda_nil)))))
    pdb_nil) pdb_nil)
    pdb_nil))
    (pdb_cons (pds_ret (pd_var 0))
    pdb_nil)) pdb_nil)
    (pdb_cons (pds_if (pdt_cmp (op_eqD hr.units) g_eq (pd_var 2) pd_str (nomark _)) (pdb_cons (pds_ret (pd_tup (pda_cons pd_str (pda_cons (pd_callB (call_len.or call_lenR) g_len rfl T.z_len PySem.boot_len (pda_cons (pd_at (pd_var 0) pd_int) pda_nil)) (pda_cons (pd_call O.g3 hr rfl T.m3 T.F3.kp T.b3 (pda_cons (pd_at (pd_var 0) pd_int) (pda_cons (pd_add (pd_lst (pda_cons (pd_at (pd_var 0) pd_int) pda_nil)) (pd_var 1)) pda_nil))) pda_nil)))))
    pdb_nil) pdb_nil)
    (pdb_cons (pds_if (pdt_cmp (op_eqD hr.units) g_eq (pd_var 2) pd_str (nomark _)) (pdb_cons (pds_set 4 nd (pd_callTy call_tuple_ofN g_tuple rfl T.z_tuple boot_tuple' (pda_cons (pd_lc rfl nd (pdi_seq (pd_at (pd_var 0) pd_int)) (own := [("part", 5)]) (blkOk_by (by kernel_rfl)) tg_n (by decide) (fun _ _ _ _ _ => (pg_name (i := 5) nd rfl (by first | exact Or.inl rfl | exact Or.inr rfl))) (fun _ _ _ _ _ => pts_yes) (fun _ _ _ _ _ => (pd_call O.g3 hr rfl T.m3 T.F3.kp T.b3 (pda_cons (pd_var 5) (pda_cons (pd_var 1) pda_nil))))) pda_nil)))
    (pdb_cons (pds_ret (pd_tup (pda_cons pd_str (pda_cons (pd_callB (call_len.or call_lenR) g_len rfl T.z_len PySem.boot_len (pda_cons (pd_at (pd_var 0) pd_int) pda_nil)) (pda_cons (pd_var 4) (pda_cons (pd_call O.g3 hr rfl T.m3 T.F3.kp T.b3 (pda_cons (pd_at (pd_var 0) pd_int) (pda_cons (pd_add (pd_lst (pda_cons (pd_at (pd_var 0) pd_int) pda_nil)) (pd_var 1)) pda_nil))) pda_nil))))))
    pdb_nil)) pdb_nil)
    (pdb_cons (pds_ret (pd_call O.g1 hr rfl T.m1 T.F1.kp T.b1 (pda_cons (pd_var 0) (pda_cons (pd_lc rfl nd (pdi_seq (pd_call O.g0 hr rfl T.m0 T.F0.kp T.b0 (pda_cons (pd_var 0) pda_nil))) (own := [("part", 5)]) (blkOk_by (by kernel_rfl)) tg_n (by decide) (fun _ _ _ _ _ => (pg_name (i := 5) nd rfl (by first | exact Or.inl rfl | exact Or.inr rfl))) (fun _ _ _ _ _ => pts_yes) (fun _ _ _ _ _ => (pd_call O.g3 hr rfl T.m3 T.F3.kp T.b3 (pda_cons (pd_var 5) (pda_cons (pd_var 1) pda_nil))))) pda_nil))))
    pdb_nil)))))
theorem ok4 (T : Facts K mg) {n : Nat} (O : OkAll P w base T n) : FnOk P w K mg base CX0 (n + 1) T.a4 T.fd4 ["core"] (spF K 1 (fns (n + 1) 4)) := by
  refine fn_ok (fm := b4 (fns n)) T.F4 sc4 fun cdv A outer s H E hr => ?_
  have nd := sc4.nd
  exact (pdb_cons (pds_ret (pd_call O.g3 hr rfl T.m3 T.F3.kp T.b3 (pda_cons (pd_var 0) (pda_cons (pd_lst pda_nil) pda_nil))))
    pdb_nil)
theorem ok5 (T : Facts K mg) {n : Nat} (O : OkAll P w base T n) : FnOk P w K mg base CX0 (n + 1) T.a5 T.fd5 ["core"] (spF K 1 (fns (n + 1) 5)) := by
  refine fn_ok (fm := b5 (fns n)) T.F5 sc5 fun cdv A outer s H E hr => ?_
  have nd := sc5.nd
  exact (pdb_cons (pds_set 1 nd (pd_new (pda_cons (pd_var 0) pda_nil)))
    (pdb_cons (pds_for PassesOwn.never rfl (pdi_seq (pd_call O.g0 hr rfl T.m0 T.F0.kp T.b0 (pda_cons (pd_var 0) pda_nil))) (pg_name (i := 2) nd rfl (by first | exact Or.inl rfl | exact Or.inr rfl)) tg_n (pdb_cons (pds_expr (pd_extend (pd_var 1) (pd_call O.g5 hr rfl T.m5 T.F5.kp T.b5 (pda_cons (pd_var 2) pda_nil))))
    pdb_nil))
    (pdb_cons (pds_ret (pd_var 1))
    pdb_nil)))
theorem ok6 (T : Facts K mg) {n : Nat} (O : OkAll P w base T n) : FnOk P w K mg base CX0 (n + 1) T.a6 T.fd6 ["core"] (spF K 1 (fns (n + 1) 6)) := by
  refine fn_ok (fm := b6 (fns n)) T.F6 sc6 fun cdv A outer s H E hr => ?_
  have nd := sc6.nd
  exact (pdb_cons (pds_set 1 nd pd_newK)
    (pdb_cons (pds_for PassesOwn.never rfl (pdi_seq (pd_call O.g5 hr rfl T.m5 T.F5.kp T.b5 (pda_cons (pd_var 0) pda_nil))) (pg_name (i := 2) nd rfl (by first | exact Or.inl rfl | exact Or.inr rfl)) tg_n (pdb_cons (pds_dput (hu_of hr) (pd_var 1) (pd_at (pd_var 2) pd_int) (pd_add (pd_dget2 (hu_of hr) (pd_var 1) (pd_at (pd_var 2) pd_int) pd_int ⟨rfl, rfl, rfl, rfl⟩) pd_int))
    pdb_nil))
    (pdb_cons (pds_ret (pd_var 1))
    pdb_nil)))
theorem ok7 (T : Facts K mg) {n : Nat} (O : OkAll P w base T n) : FnOk P w K mg base CX0 (n + 1) T.a7 T.fd7 ["core"] (spF K 1 (fns (n + 1) 7)) := by
  refine fn_ok (fm := b7 (fns n)) T.F7 sc7 fun cdv A outer s H E hr => ?_
  have nd := sc7.nd
  exact (pdb_cons (pds_ret (pd_add pd_int (pd_callB (cr_max rfl) g_maxL rfl T.z_max boot_max' (pda_cons (pd_add (pd_lst (pda_cons pd_int pda_nil)) (pd_lc rfl nd (pdi_seq (pd_call O.g0 hr rfl T.m0 T.F0.kp T.b0 (pda_cons (pd_var 0) pda_nil))) (own := [("part", 1)]) (blkOk_by (by kernel_rfl)) tg_n (by decide) (fun _ _ _ _ _ => (pg_name (i := 1) nd rfl (by first | exact Or.inl rfl | exact Or.inr rfl))) (fun _ _ _ _ _ => pts_yes) (fun _ _ _ _ _ => (pd_call O.g7 hr rfl T.m7 T.F7.kp T.b7 (pda_cons (pd_var 1) pda_nil))))) pda_nil))))
    pdb_nil)
theorem ok8 (T : Facts K mg) {n : Nat} (O : OkAll P w base T n) : FnOk P w K mg base CX0 (n + 1) T.a8 T.fd8 ["core"] (spF K 1 (fns (n + 1) 8)) := by
  refine fn_ok (fm := b8 (fns n)) T.F8 sc8 fun cdv A outer s H E hr => ?_
  have nd := sc8.nd
  exact (pdb_cons (pds_set 1 nd pd_newK)
    (pdb_cons (pds_for PassesOwn.never rfl (pdi_seq (pd_call O.g5 hr rfl T.m5 T.F5.kp T.b5 (pda_cons (pd_var 0) pda_nil))) (pg_name (i := 2) nd rfl (by first | exact Or.inl rfl | exact Or.inr rfl)) tg_n (pdb_cons (pds_if (pdt_cmp op_in_seq g_inN (pd_at (pd_var 2) pd_int) (pd_tup (pda_cons pd_str (pda_cons pd_str pda_nil))) (by rfl)) (pdb_cons (pds_for PassesOwn.never rfl (pdi_seq (pd_at (pd_var 2) pd_int)) (pg_name (i := 3) nd rfl (by first | exact Or.inl rfl | exact Or.inr rfl)) tg_n (pdb_cons (pds_expr (pd_setd (pd_var 1) (pd_var 3) pd_int ⟨rfl, rfl, rfl, rfl⟩))
    pdb_nil))
    pdb_nil) pdb_nil)
    pdb_nil))
    (pdb_cons (pds_for PassesOwn.never rfl (pdi_seq (pd_call O.g5 hr rfl T.m5 T.F5.kp T.b5 (pda_cons (pd_var 0) pda_nil))) (pg_name (i := 2) nd rfl (by first | exact Or.inl rfl | exact Or.inr rfl)) tg_n (pdb_cons (pds_if (pdt_w (pdw_and (pdt_cmp (op_eqD hr.units) g_eq (pd_at (pd_var 2) pd_int) pd_str (nomark _)) (pdw_and1 (pdt_din (hu_of hr) (pd_at (pd_var 2) pd_int) (pd_var 1))))) (pdb_cons (pds_daug (hu_of hr) (pd_var 1) (pd_at (pd_var 2) pd_int) pd_int)
    pdb_nil) pdb_nil)
    pdb_nil))
    (pdb_cons (pds_ret (pd_var 1))
    pdb_nil))))
theorem ok9 (T : Facts K mg) {n : Nat} (O : OkAll P w base T n) : FnOk P w K mg base CX0 (n + 1) T.a9 T.fd9 ["core"] (spF K 1 (fns (n + 1) 9)) := by
  refine fn_ok (fm := b9 (fns n)) T.F9 sc9 fun cdv A outer s H E hr => ?_
  have nd := sc9.nd
  exact (pdb_cons (pds_set 1 nd (pd_call O.g8 hr rfl T.m8 T.F8.kp T.b8 (pda_cons (pd_var 0) pda_nil)))
    (pdb_cons (pds_ret (pd_if (pdt_cmp (op_neL hr.units) g_neL (pd_var 1) pd_newK (nomark _)) (pd_at (pd_callB (cr_minG rfl hr.units) g_min rfl T.z_min boot_min' (pda_cons (pd_lc rfl nd (pdi_keys (pd_var 1)) (own := [("k", 2)]) (blkOk_by (by kernel_rfl)) tg_n (by decide) (fun _ _ _ _ _ => (pg_name (i := 2) nd rfl (by first | exact Or.inl rfl | exact Or.inr rfl))) (fun _ _ _ _ _ => pts_yes) (fun _ _ _ _ _ => (pd_tup (pda_cons (pd_neg (pd_dget (hu_of hr) (pd_var 1) (pd_var 2))) (pda_cons (pd_var 2) pda_nil))))) pda_nil)) pd_int) pd_non))
    pdb_nil))
theorem ok10 (T : Facts K mg) {n : Nat} (O : OkAll P w base T n) : FnOk P w K mg base CX0 (n + 1) T.a10 T.fd10 ["core"] (spF K 1 (fns (n + 1) 10)) := by
  refine fn_ok (fm := b10 (fns n)) T.F10 sc10 fun cdv A outer s H E hr => ?_
  have nd := sc10.nd
  exact (pdb_cons (pds_set 1 nd (pd_call O.g5 hr rfl T.m5 T.F5.kp T.b5 (pda_cons (pd_var 0) pda_nil)))
    (pdb_cons (pds_setLc 2 rfl nd (pdi_range1 rfl T.z_range (pda_cons (pd_callB (call_len.or call_lenR) g_len rfl T.z_len PySem.boot_len (pda_cons (pd_var 1) pda_nil)) pda_nil)) (own := [("i", 6)]) (blkOk_by (by kernel_rfl)) tg_n (by decide) (fun _ _ _ _ _ => (pg_name (i := 6) nd rfl (by first | exact Or.inl rfl | exact Or.inr rfl))) (fun _ _ _ _ _ => pts_c (pdt_w (pdw_and (pdt_cmp (op_neD hr.units) g_ne (pd_call O.g0 hr rfl T.m0 T.F0.kp T.b0 (pda_cons (pd_at (pd_var 1) (pd_var 6)) pda_nil)) (pd_lst pda_nil) (nomark _)) (pdw_and1 (pdt_cmp (op_eqD hr.units) g_eq (pd_call O.g2 hr rfl T.m2 T.F2.kp T.b2 (pda_cons (pd_at (pd_var 1) (pd_var 6)) pda_nil)) (pd_tup pda_nil) (nomark _)))))) (fun _ _ _ _ _ => (pd_var 6)) (sw_true rfl rfl rfl (by kernel_rfl)))
    (pdb_cons (pds_set 3 nd (pd_new pda_nil))
    (pdb_cons (pds_for PassesOwn.never rfl (pdi_range1 rfl T.z_range (pda_cons (pd_callB (call_len.or call_lenR) g_len rfl T.z_len PySem.boot_len (pda_cons (pd_var 2) pda_nil)) pda_nil)) (pg_name (i := 4) nd rfl (by first | exact Or.inl rfl | exact Or.inr rfl)) tg_n (pdb_cons (pds_for PassesOwn.never rfl (pdi_range2 rfl T.z_range (pda_cons (pd_add (pd_var 4) pd_int) (pda_cons (pd_callB (call_len.or call_lenR) g_len rfl T.z_len PySem.boot_len (pda_cons (pd_var 2) pda_nil)) pda_nil))) (pg_name (i := 5) nd rfl (by first | exact Or.inl rfl | exact Or.inr rfl)) tg_n (pdb_cons (pds_if (pdt_cmp (op_eqD hr.units) g_eq (pd_call O.g4 hr rfl T.m4 T.F4.kp T.b4 (pda_cons (pd_at (pd_var 1) (pd_at (pd_var 2) (pd_var 4))) pda_nil)) (pd_call O.g4 hr rfl T.m4 T.F4.kp T.b4 (pda_cons (pd_at (pd_var 1) (pd_at (pd_var 2) (pd_var 5))) pda_nil)) (nomark _)) (pdb_cons (pds_expr (pd_append (pd_var 3) (pd_tup (pda_cons (pd_at (pd_var 2) (pd_var 4)) (pda_cons (pd_at (pd_var 2) (pd_var 5)) pda_nil)))))
    pdb_nil) pdb_nil)
    pdb_nil))
    pdb_nil))
    (pdb_cons (pds_ret (pd_callTy call_tuple_ofN g_tuple rfl T.z_tuple boot_tuple' (pda_cons (pd_var 3) pda_nil)))
    pdb_nil)))))
theorem ok11 (T : Facts K mg) {n : Nat} (O : OkAll P w base T n) : FnOk P w K mg base CX0 (n + 1) T.a11 T.fd11 ["script", "many"] (spF K 2 (fns (n + 1) 11)) := by
  refine fn_ok (fm := b11 (fns n)) T.F11 sc11 fun cdv A outer s H E hr => ?_
  have nd := sc11.nd
  exact (pdb_cons (pds_set 2 nd (pd_new pda_nil))
    (pdb_cons (pds_set 3 nd pd_int)
    (pdb_cons (pds_for PassesOwn.never rfl (pdi_range1 rfl T.z_range (pda_cons (pd_callB (call_len.or call_lenR) g_len rfl T.z_len PySem.boot_len (pda_cons (pd_var 0) pda_nil)) pda_nil)) (pg_name (i := 4) nd rfl (by first | exact Or.inl rfl | exact Or.inr rfl)) tg_n (pdb_cons (pds_set 5 nd (pd_callB call_abs g_abs rfl T.z_abs boot_abs' (pda_cons (pd_callTy call_int1 g_int rfl T.z_int boot_int' (pda_cons (pd_at (pd_var 0) (pd_var 4)) pda_nil)) pda_nil)))
    (pdb_cons (pds_set 3 nd (pd_mod (pd_callTy call_int1 g_int rfl T.z_int boot_int' (pda_cons (pd_add (pd_add (pd_mul (pd_var 3) pd_int) (pd_mod (pd_var 5) pd_int)) (pd_var 4)) pda_nil)) pd_int))
    (pdb_cons (pds_set 6 nd pd_int)
    (pdb_cons (pds_if (pdt_cmp op_ge g_ge (pd_var 5) (pd_pow pd_int pd_int) (nomark _)) (pdb_cons (pds_set 6 nd (pd_var 5))
    pdb_nil) (pdb_cons (pds_expr (pd_append (pd_var 2) (pd_mod (pd_callTy call_int1 g_int rfl T.z_int boot_int' (pda_cons (pd_var 5) pda_nil)) pd_int)))
    (pdb_cons (pds_expr (pd_append (pd_var 2) (pd_mod (pd_mod (pd_callTy call_int1 g_int rfl T.z_int boot_int' (pda_cons (pd_add (pd_mul (pd_var 3) pd_int) pd_int) pda_nil)) pd_int) pd_int)))
    pdb_nil)))
    (pdb_cons (pds_for PassesOwn.never rfl (pdi_range1 rfl T.z_range (pda_cons pd_int pda_nil)) (pg_name (i := 7) nd rfl (by first | exact Or.inl rfl | exact Or.inr rfl)) tg_n (pdb_cons (pds_if (pdt_cmp op_gt g_gt (pd_var 6) pd_int (nomark _)) (pdb_cons (pds_expr (pd_append (pd_var 2) (pd_mod (pd_callTy call_int1 g_int rfl T.z_int boot_int' (pda_cons (pd_var 6) pda_nil)) pd_int)))
    (pdb_cons (pds_set 6 nd (pd_div (pd_var 6) pd_int))
    pdb_nil)) pdb_nil)
    pdb_nil))
    pdb_nil))))))
    (pdb_cons (pds_for PassesOwn.never rfl (pdi_range1 rfl T.z_range (pda_cons (pd_var 1) pda_nil)) (pg_name (i := 4) nd rfl (by first | exact Or.inl rfl | exact Or.inr rfl)) tg_n (pdb_cons (pds_set 3 nd (pd_mod (pd_callTy call_int1 g_int rfl T.z_int boot_int' (pda_cons (pd_add (pd_add (pd_mul (pd_var 3) pd_int) (pd_var 4)) pd_int) pda_nil)) pd_int))
    (pdb_cons (pds_expr (pd_append (pd_var 2) (pd_mod (pd_callTy call_int1 g_int rfl T.z_int boot_int' (pda_cons (pd_var 3) pda_nil)) pd_int)))
    pdb_nil)))
    (pdb_cons (pds_ret (pd_slice (pd_var 2) pdo_none (pdo_some (pd_var 1))))
    pdb_nil)))))
theorem ok12 (T : Facts K mg) {n : Nat} (O : OkAll P w base T n) : FnOk P w K mg base CX0 (n + 1) T.a12 T.fd12 ["w", "many"] (spF K 2 (fns (n + 1) 12)) := by
  refine fn_ok (fm := b12 (fns n)) T.F12 sc12 fun cdv A outer s H E hr => ?_
  have nd := sc12.nd
  exact (pdb_cons (pds_daug (hu_of hr) (pd_var 0) pd_str pd_int)
    (pdb_cons (pds_if (pdt_cmp op_gt g_gt (pd_dget (hu_of hr) (pd_var 0) pd_str) (pd_callB (call_len.or call_lenR) g_len rfl T.z_len PySem.boot_len (pda_cons (pd_dget (hu_of hr) (pd_var 0) pd_str) pda_nil)) (nomark _)) (pdb_cons (pds_ret pd_int)
    pdb_nil) pdb_nil)
    (pdb_cons (pds_ret (pd_mod (pd_callTy call_int1 g_int rfl T.z_int boot_int' (pda_cons (pd_at (pd_dget (hu_of hr) (pd_var 0) pd_str) (pd_sub (pd_dget (hu_of hr) (pd_var 0) pd_str) pd_int)) pda_nil)) (pd_var 1)))
    pdb_nil)))
theorem ok13 (T : Facts K mg) {n : Nat} (O : OkAll P w base T n) : FnOk P w K mg base CX0 (n + 1) T.a13 T.fd13 ["w", "rows"] (spF K 2 (fns (n + 1) 13)) := by
  refine fn_ok (fm := b13 (fns n)) T.F13 sc13 fun cdv A outer s H E hr => ?_
  have nd := sc13.nd
  exact (pdb_cons (pds_ret (pd_at (pd_var 1) (pd_call O.g12 hr rfl T.m12 T.F12.kp T.b12 (pda_cons (pd_var 0) (pda_cons (pd_callB (call_len.or call_lenR) g_len rfl T.z_len PySem.boot_len (pda_cons (pd_var 1) pda_nil)) pda_nil)))))
    pdb_nil)
theorem ok14 (T : Facts K mg) {n : Nat} (O : OkAll P w base T n) : FnOk P w K mg base CX0 (n + 1) T.a14 T.fd14 ["told", "due"] (spF K 2 (fns (n + 1) 14)) := by
  refine fn_ok (fm := b14 (fns n)) T.F14 sc14 fun cdv A outer s H E hr => ?_
  have nd := sc14.nd
  exact (pdb_cons (pds_if (pdt_val (pd_isi rfl T.z_isinstance rfl T.z_tuple boot_tuple' (pd_var 1))) (pdb_cons (pds_if (pdt_w (pdw_or (pdt_not (pdt_val (pd_isi rfl T.z_isinstance rfl T.z_tuple boot_tuple' (pd_var 0)))) (pdw_or1 (pdt_cmp (op_neD hr.units) g_ne (pd_callB (call_len.or call_lenR) g_len rfl T.z_len PySem.boot_len (pda_cons (pd_var 0) pda_nil)) (pd_callB (call_len.or call_lenR) g_len rfl T.z_len PySem.boot_len (pda_cons (pd_var 1) pda_nil)) (nomark _))))) (pdb_cons (pds_ret pd_bl)
    pdb_nil) pdb_nil)
    (pdb_cons (pds_ret (pd_cmp (op_eqD hr.units) g_eq (pd_lc rfl nd (pdi_range1 rfl T.z_range (pda_cons (pd_callB (call_len.or call_lenR) g_len rfl T.z_len PySem.boot_len (pda_cons (pd_var 1) pda_nil)) pda_nil)) (own := [("k", 2)]) (blkOk_by (by kernel_rfl)) tg_n (by decide) (fun _ _ _ _ _ => (pg_name (i := 2) nd rfl (by first | exact Or.inl rfl | exact Or.inr rfl))) (fun _ _ _ _ _ => pts_c (pdt_not (pdt_val (pd_call O.g14 hr rfl T.m14 T.F14.kp T.b14 (pda_cons (pd_at (pd_var 0) (pd_var 2)) (pda_cons (pd_at (pd_var 1) (pd_var 2)) pda_nil)))))) (fun _ _ _ _ _ => (pd_var 2))) (pd_lst pda_nil) (nomark _)))
    pdb_nil)) pdb_nil)
    (pdb_cons (pds_if (pdt_cmp op_isN g_isN (pd_var 1) pd_non (nomark _)) (pdb_cons (pds_ret (pd_cmp op_isN g_isN (pd_var 0) pd_non (nomark _)))
    pdb_nil) pdb_nil)
    (pdb_cons (pds_if (pdt_val (pd_isi rfl T.z_isinstance rfl T.z_bool boot_bool' (pd_var 1))) (pdb_cons (pds_ret (pd_and (pd_isi rfl T.z_isinstance rfl T.z_bool boot_bool' (pd_var 0)) (pd_one (pd_cmp (op_eqD hr.units) g_eq (pd_var 0) (pd_var 1) (nomark _)))))
    pdb_nil) pdb_nil)
    (pdb_cons (pds_if (pdt_val (pd_isi rfl T.z_isinstance rfl T.z_int boot_int' (pd_var 1))) (pdb_cons (pds_ret (pd_and (pd_isi rfl T.z_isinstance rfl T.z_int boot_int' (pd_var 0)) (pd_and (pd_not (pd_isi rfl T.z_isinstance rfl T.z_bool boot_bool' (pd_var 0))) (pd_one (pd_cmp (op_eqD hr.units) g_eq (pd_var 0) (pd_var 1) (nomark _))))))
    pdb_nil) pdb_nil)
    (pdb_cons (pds_ret (pd_and (pd_isi rfl T.z_isinstance rfl T.z_str boot_str' (pd_var 0)) (pd_one (pd_cmp (op_eqD hr.units) g_eq (pd_var 0) (pd_var 1) (nomark _)))))
    pdb_nil)))))
theorem ok15 (T : Facts K mg) {n : Nat} (O : OkAll P w base T n) : FnOk P w K mg base CX0 (n + 1) T.a15 T.fd15 ["w", "depth", "ties"] (spF K 3 (fns (n + 1) 15)) := by
  refine fn_ok (fm := b15 (fns n)) T.F15 sc15 fun cdv A outer s H E hr => ?_
  have nd := sc15.nd
  exact (pdb_cons (pds_set 3 nd (pd_if (pdt_cmp op_gt g_gt (pd_var 1) pd_int (nomark _)) (pd_call O.g12 hr rfl T.m12 T.F12.kp T.b12 (pda_cons (pd_var 0) (pda_cons pd_int pda_nil))) (pd_call O.g12 hr rfl T.m12 T.F12.kp T.b12 (pda_cons (pd_var 0) (pda_cons pd_int pda_nil)))))
    (pdb_cons (pds_set 4 nd (pd_lst pda_nil))
    (pdb_cons (pds_for PassesOwn.never rfl (pdi_range1 rfl T.z_range (pda_cons (pd_callB (call_len.or call_lenR) g_len rfl T.z_len PySem.boot_len (pda_cons (pd_var 2) pda_nil)) pda_nil)) (pg_name (i := 5) nd rfl (by first | exact Or.inl rfl | exact Or.inr rfl)) tg_n (pdb_cons (pds_set 4 nd (pd_add (pd_var 4) (pd_lc rfl nd (pdi_range1 rfl T.z_range (pda_cons (pd_at (pd_var 2) (pd_var 5)) pda_nil)) (own := [("j", 9)]) (blkOk_by (by kernel_rfl)) tg_n (by decide) (fun _ _ _ _ _ => (pg_name (i := 9) nd rfl (by first | exact Or.inl rfl | exact Or.inr rfl))) (fun _ _ _ _ _ => pts_yes) (fun _ _ _ _ _ => (pd_tup (pda_cons pd_str (pda_cons (pd_var 5) (pda_cons (pd_var 9) pda_nil))))))))
    pdb_nil))
    (pdb_cons (pds_if (pdt_w (pdw_and (pdt_cmp op_lt g_lt (pd_var 3) pd_int (nomark _)) (pdw_and1 (pdt_cmp (op_neD hr.units) g_ne (pd_var 4) (pd_lst pda_nil) (nomark _))))) (pdb_cons (pds_ret (pd_call O.g13 hr rfl T.m13 T.F13.kp T.b13 (pda_cons (pd_var 0) (pda_cons (pd_var 4) pda_nil))))
    pdb_nil) pdb_nil)
    (pdb_cons (pds_if (pdt_cmp op_lt g_lt (pd_var 3) pd_int (nomark _)) (pdb_cons (pds_ret (pd_call O.g13 hr rfl T.m13 T.F13.kp T.b13 (pda_cons (pd_var 0) (pda_cons (pd_lst (pda_cons (pd_tup (pda_cons pd_str (pda_cons pd_int pda_nil))) (pda_cons (pd_tup (pda_cons pd_str (pda_cons pd_int pda_nil))) (pda_cons (pd_tup (pda_cons pd_str (pda_cons (pd_neg pd_int) pda_nil))) (pda_cons (pd_tup (pda_cons pd_str (pda_cons pd_str pda_nil))) (pda_cons (pd_tup (pda_cons pd_str (pda_cons pd_str pda_nil))) (pda_cons (pd_tup (pda_cons pd_str (pda_cons (pd_tup (pda_cons pd_str (pda_cons pd_str pda_nil))) pda_nil))) (pda_cons (pd_tup (pda_cons pd_str (pda_cons (pd_tup (pda_cons pd_str (pda_cons (pd_tup (pda_cons (pd_tup (pda_cons pd_str (pda_cons pd_int pda_nil))) (pda_cons (pd_tup (pda_cons pd_str (pda_cons pd_str pda_nil))) pda_nil))) pda_nil))) pda_nil))) (pda_cons (pd_tup (pda_cons pd_str (pda_cons pd_int pda_nil))) pda_nil))))))))) pda_nil))))
    pdb_nil) pdb_nil)
    (pdb_cons (pds_set 6 nd (pd_call O.g12 hr rfl T.m12 T.F12.kp T.b12 (pda_cons (pd_var 0) (pda_cons pd_int pda_nil))))
    (pdb_cons (pds_if (pdt_cmp (op_eqD hr.units) g_eq (pd_var 3) pd_int (nomark _)) (pdb_cons (pds_ret (pd_tup (pda_cons pd_str (pda_cons (pd_var 6) (pda_cons (pd_call O.g15 hr rfl T.m15 T.F15.kp T.b15 (pda_cons (pd_var 0) (pda_cons (pd_sub (pd_var 1) pd_int) (pda_cons (pd_add (pd_lst (pda_cons (pd_var 6) pda_nil)) (pd_var 2)) pda_nil)))) pda_nil)))))
    pdb_nil) pdb_nil)
    (pdb_cons (pds_if (pdt_cmp (op_eqD hr.units) g_eq (pd_var 3) pd_int (nomark _)) (pdb_cons (pds_set 8 nd (pd_callTy call_tuple_ofN g_tuple rfl T.z_tuple boot_tuple' (pda_cons (pd_lc rfl nd (pdi_range1 rfl T.z_range (pda_cons (pd_var 6) pda_nil)) (own := [("k", 10)]) (blkOk_by (by kernel_rfl)) tg_n (by decide) (fun _ _ _ _ _ => (pg_name (i := 10) nd rfl (by first | exact Or.inl rfl | exact Or.inr rfl))) (fun _ _ _ _ _ => pts_yes) (fun _ _ _ _ _ => (pd_call O.g15 hr rfl T.m15 T.F15.kp T.b15 (pda_cons (pd_var 0) (pda_cons (pd_sub (pd_var 1) pd_int) (pda_cons (pd_var 2) pda_nil)))))) pda_nil)))
    (pdb_cons (pds_ret (pd_tup (pda_cons pd_str (pda_cons (pd_var 6) (pda_cons (pd_var 8) (pda_cons (pd_call O.g15 hr rfl T.m15 T.F15.kp T.b15 (pda_cons (pd_var 0) (pda_cons (pd_sub (pd_var 1) pd_int) (pda_cons (pd_add (pd_lst (pda_cons (pd_var 6) pda_nil)) (pd_var 2)) pda_nil)))) pda_nil))))))
    pdb_nil)) pdb_nil)
    (pdb_cons (pds_if (pdt_cmp (op_eqD hr.units) g_eq (pd_var 3) pd_int (nomark _)) (pdb_cons (pds_ret (pd_add (pd_tup (pda_cons pd_str pda_nil)) (pd_callTy call_tuple_ofN g_tuple rfl T.z_tuple boot_tuple' (pda_cons (pd_lc rfl nd (pdi_range1 rfl T.z_range (pda_cons pd_int pda_nil)) (own := [("k", 10)]) (blkOk_by (by kernel_rfl)) tg_n (by decide) (fun _ _ _ _ _ => (pg_name (i := 10) nd rfl (by first | exact Or.inl rfl | exact Or.inr rfl))) (fun _ _ _ _ _ => pts_yes) (fun _ _ _ _ _ => (pd_call O.g15 hr rfl T.m15 T.F15.kp T.b15 (pda_cons (pd_var 0) (pda_cons (pd_sub (pd_var 1) pd_int) (pda_cons (pd_var 2) pda_nil)))))) pda_nil))))
    pdb_nil) pdb_nil)
    (pdb_cons (pds_set 7 nd (pd_call O.g15 hr rfl T.m15 T.F15.kp T.b15 (pda_cons (pd_var 0) (pda_cons (pd_sub (pd_var 1) pd_int) (pda_cons (pd_var 2) pda_nil)))))
    (pdb_cons (pds_ret (pd_tup (pda_cons pd_str (pda_cons (pd_var 7) (pda_cons (pd_callTy call_tuple_ofN g_tuple rfl T.z_tuple boot_tuple' (pda_cons (pd_lc rfl nd (pdi_range1 rfl T.z_range (pda_cons (pd_var 6) pda_nil)) (own := [("k", 10)]) (blkOk_by (by kernel_rfl)) tg_n (by decide) (fun _ _ _ _ _ => (pg_name (i := 10) nd rfl (by first | exact Or.inl rfl | exact Or.inr rfl))) (fun _ _ _ _ _ => pts_yes) (fun _ _ _ _ _ => (pd_call O.g15 hr rfl T.m15 T.F15.kp T.b15 (pda_cons (pd_var 0) (pda_cons (pd_sub (pd_var 1) pd_int) (pda_cons (pd_var 2) pda_nil)))))) pda_nil)) pda_nil)))))
    pdb_nil)))))))))))
theorem ok16 (T : Facts K mg) {n : Nat} (O : OkAll P w base T n) : FnOk P w K mg base CX0 (n + 1) T.a16 T.fd16 ["form", "ties", "p"] (spF K 3 (fns (n + 1) 16)) := by
  refine fn_ok (fm := b16 (fns n)) T.F16 sc16 fun cdv A outer s H E hr => ?_
  have nd := sc16.nd
  exact (pdb_cons (pds_set 3 nd (pd_at (pd_var 0) pd_int))
    (pdb_cons (pds_if (pdt_cmp (op_eqD hr.units) g_eq (pd_var 3) pd_str (nomark _)) (pdb_cons (pds_ret (pd_tup (pda_cons pd_str (pda_cons (pd_at (pd_at (pd_var 1) (pd_at (pd_var 0) pd_int)) (pd_at (pd_var 0) pd_int)) pda_nil))))
    pdb_nil) pdb_nil)
    (pdb_cons (pds_if (pdt_cmp op_in_seq g_inN (pd_var 3) (pd_tup (pda_cons pd_str (pda_cons pd_str (pda_cons pd_str pda_nil)))) (by rfl)) (pdb_cons (pds_ret (pd_var 0))
    pdb_nil) pdb_nil)
    (pdb_cons (pds_if (pdt_cmp (op_eqD hr.units) g_eq (pd_var 3) pd_str (nomark _)) (pdb_cons (pds_ret (pd_add (pd_tup (pda_cons pd_str pda_nil)) (pd_callTy call_tuple_ofN g_tuple rfl T.z_tuple boot_tuple' (pda_cons (pd_lc rfl nd (pdi_seq (pd_slice (pd_var 0) (pdo_some pd_int) pdo_none)) (own := [("part", 8)]) (blkOk_by (by kernel_rfl)) tg_n (by decide) (fun _ _ _ _ _ => (pg_name (i := 8) nd rfl (by first | exact Or.inl rfl | exact Or.inr rfl))) (fun _ _ _ _ _ => pts_yes) (fun _ _ _ _ _ => (pd_call O.g16 hr rfl T.m16 T.F16.kp T.b16 (pda_cons (pd_var 8) (pda_cons (pd_var 1) (pda_cons (pd_var 2) pda_nil)))))) pda_nil))))
    pdb_nil) pdb_nil)
    (pdb_cons (pds_if (pdt_cmp (op_eqD hr.units) g_eq (pd_var 3) pd_str (nomark _)) (pdb_cons (pds_set 7 nd (pd_call O.g16 hr rfl T.m16 T.F16.kp T.b16 (pda_cons (pd_at (pd_var 0) pd_int) (pda_cons (pd_var 1) (pda_cons (pd_var 2) pda_nil)))))
    (pdb_cons (pds_ret (pd_tup (pda_cons pd_str (pda_cons (pd_var 7) (pda_cons (pd_callTy call_tuple_ofN g_tuple rfl T.z_tuple boot_tuple' (pda_cons (pd_lc rfl nd (pdi_seq (pd_at (pd_var 0) pd_int)) (own := [("part", 8)]) (blkOk_by (by kernel_rfl)) tg_n (by decide) (fun _ _ _ _ _ => (pg_name (i := 8) nd rfl (by first | exact Or.inl rfl | exact Or.inr rfl))) (fun _ _ _ _ _ => pts_yes) (fun _ _ _ _ _ => (pd_call O.g16 hr rfl T.m16 T.F16.kp T.b16 (pda_cons (pd_var 8) (pda_cons (pd_var 1) (pda_cons (pd_var 2) pda_nil)))))) pda_nil)) pda_nil)))))
    pdb_nil)) pdb_nil)
    (pdb_cons (pds_set 4 nd (pd_tupRg rfl rfl T.z_tuple (pdrg_2 rfl T.z_range (pd_dget (hu_of hr) (pd_var 2) pd_str) (pd_add (pd_dget (hu_of hr) (pd_var 2) pd_str) (pd_at (pd_var 0) pd_int)))))
    (pdb_cons (pds_daug (hu_of hr) (pd_var 2) pd_str (pd_at (pd_var 0) pd_int))
    (pdb_cons (pds_set 5 nd (pd_if (pdt_cmp (op_eqD hr.units) g_eq (pd_var 3) pd_str (nomark _)) (pd_callTy call_tuple_ofN g_tuple rfl T.z_tuple boot_tuple' (pda_cons (pd_lc rfl nd (pdi_seq (pd_at (pd_var 0) pd_int)) (own := [("part", 8)]) (blkOk_by (by kernel_rfl)) tg_n (by decide) (fun _ _ _ _ _ => (pg_name (i := 8) nd rfl (by first | exact Or.inl rfl | exact Or.inr rfl))) (fun _ _ _ _ _ => pts_yes) (fun _ _ _ _ _ => (pd_call O.g16 hr rfl T.m16 T.F16.kp T.b16 (pda_cons (pd_var 8) (pda_cons (pd_var 1) (pda_cons (pd_var 2) pda_nil)))))) pda_nil)) (pd_tup pda_nil)))
    (pdb_cons (pds_set 6 nd (pd_call O.g16 hr rfl T.m16 T.F16.kp T.b16 (pda_cons (pd_at (pd_var 0) (pd_sub (pd_callB (call_len.or call_lenR) g_len rfl T.z_len PySem.boot_len (pda_cons (pd_var 0) pda_nil)) pd_int)) (pda_cons (pd_add (pd_lst (pda_cons (pd_var 4) pda_nil)) (pd_var 1)) (pda_cons (pd_var 2) pda_nil)))))
    (pdb_cons (pds_ret (pd_if (pdt_cmp (op_eqD hr.units) g_eq (pd_var 3) pd_str (nomark _)) (pd_tup (pda_cons pd_str (pda_cons (pd_var 4) (pda_cons (pd_var 5) (pda_cons (pd_var 6) pda_nil))))) (pd_tup (pda_cons pd_str (pda_cons (pd_var 4) (pda_cons (pd_var 6) pda_nil))))))
    pdb_nil))))))))))
theorem ok17 (T : Facts K mg) {n : Nat} (O : OkAll P w base T n) : FnOk P w K mg base CX0 (n + 1) T.a17 T.fd17 ["core"] (spF K 1 (fns (n + 1) 17)) := by
  refine fn_ok (fm := b17 (fns n)) T.F17 sc17 fun cdv A outer s H E hr => ?_
  have nd := sc17.nd
  exact (pdb_cons (pds_if (pdt_cmp (op_eqD hr.units) g_eq (pd_at (pd_var 0) pd_int) pd_str (nomark _)) (pdb_cons (pds_ret (pd_slice (pd_var 0) (pdo_some pd_int) pdo_none))
    pdb_nil) pdb_nil)
    (pdb_cons (pds_if (pdt_cmp (op_eqD hr.units) g_eq (pd_at (pd_var 0) pd_int) pd_str (nomark _)) (pdb_cons (pds_ret (pd_add (pd_tup (pda_cons (pd_at (pd_var 0) pd_int) pda_nil)) (pd_at (pd_var 0) pd_int)))
    pdb_nil) pdb_nil)
    (pdb_cons (pds_ret (pd_if (pdt_cmp (op_eqD hr.units) g_eq (pd_at (pd_var 0) pd_int) pd_str (nomark _)) (pd_add (pd_at (pd_var 0) pd_int) (pd_slice (pd_var 0) (pdo_some pd_int) pdo_none)) (pd_if (pdt_cmp (op_eqD hr.units) g_eq (pd_at (pd_var 0) pd_int) pd_str (nomark _)) (pd_slice (pd_var 0) (pdo_some pd_int) pdo_none) (pd_tup pda_nil))))
    pdb_nil)))
theorem ok18 (T : Facts K mg) {n : Nat} (O : OkAll P w base T n) : FnOk P w K mg base CX0 (n + 1) T.a18 T.fd18 ["core"] (spF K 1 (fns (n + 1) 18)) := by
  refine fn_ok (fm := b18 (fns n)) T.F18 sc18 fun cdv A outer s H E hr => ?_
  have nd := sc18.nd
  exact (pdb_cons (pds_set 1 nd (pd_lst (pda_cons (pd_var 0) pda_nil)))
    (pdb_cons (pds_for PassesOwn.never rfl (pdi_seq (pd_call O.g17 hr rfl T.m17 T.F17.kp T.b17 (pda_cons (pd_var 0) pda_nil))) (pg_name (i := 2) nd rfl (by first | exact Or.inl rfl | exact Or.inr rfl)) tg_n (pdb_cons (pds_set 1 nd (pd_add (pd_var 1) (pd_call O.g18 hr rfl T.m18 T.F18.kp T.b18 (pda_cons (pd_var 2) pda_nil))))
    pdb_nil))
    (pdb_cons (pds_ret (pd_var 1))
    pdb_nil)))
theorem ok19 (T : Facts K mg) {n : Nat} (O : OkAll P w base T n) : FnOk P w K mg base CX0 (n + 1) T.a19 T.fd19 ["core"] (spF K 1 (fns (n + 1) 19)) := by
  refine fn_ok (fm := b19 (fns n)) T.F19 sc19 fun cdv A outer s H E hr => ?_
  have nd := sc19.nd
  exact (pdb_cons (pds_ret (pd_add pd_int (pd_callB (cr_max rfl) g_maxL rfl T.z_max boot_max' (pda_cons (pd_add (pd_lst (pda_cons pd_int pda_nil)) (pd_lc rfl nd (pdi_seq (pd_call O.g17 hr rfl T.m17 T.F17.kp T.b17 (pda_cons (pd_var 0) pda_nil))) (own := [("part", 1)]) (blkOk_by (by kernel_rfl)) tg_n (by decide) (fun _ _ _ _ _ => (pg_name (i := 1) nd rfl (by first | exact Or.inl rfl | exact Or.inr rfl))) (fun _ _ _ _ _ => pts_yes) (fun _ _ _ _ _ => (pd_call O.g19 hr rfl T.m19 T.F19.kp T.b19 (pda_cons (pd_var 1) pda_nil))))) pda_nil))))
    pdb_nil)
theorem ok20 (T : Facts K mg) {n : Nat} (O : OkAll P w base T n) : FnOk P w K mg base CX0 (n + 1) T.a20 T.fd20 ["core", "ties"] (spF K 2 (fns (n + 1) 20)) := by
  refine fn_ok (fm := b20 (fns n)) T.F20 sc20 fun cdv A outer s H E hr => ?_
  have nd := sc20.nd
  exact (pdb_cons (pds_set 2 nd (pd_at (pd_var 0) pd_int))
    (pdb_cons (pds_if (pdt_cmp (op_eqD hr.units) g_eq (pd_var 2) pd_str (nomark _)) (pdb_cons (pds_setLc 3 rfl nd (pdi_range1 rfl T.z_range (pda_cons (pd_callB (call_len.or call_lenR) g_len rfl T.z_len PySem.boot_len (pda_cons (pd_var 1) pda_nil)) pda_nil)) (own := [("k", 5)]) (blkOk_by (by kernel_rfl)) tg_n (by decide) (fun _ _ _ _ _ => (pg_name (i := 5) nd rfl (by first | exact Or.inl rfl | exact Or.inr rfl))) (fun _ _ _ _ _ => pts_c (pdt_cmp op_in_seq g_inN (pd_at (pd_var 0) pd_int) (pd_at (pd_var 1) (pd_var 5)) (by rfl))) (fun _ _ _ _ _ => (pd_var 5)) (sw_true rfl rfl rfl (by kernel_rfl)))
    (pdb_cons (pds_ret (pd_if (pdt_cmp (op_neD hr.units) g_ne (pd_var 3) (pd_lst pda_nil) (nomark _)) (pd_tup (pda_cons pd_str (pda_cons (pd_at (pd_var 3) pd_int) (pda_cons (pd_index (pd_at (pd_var 1) (pd_at (pd_var 3) pd_int)) (pd_at (pd_var 0) pd_int)) pda_nil)))) (pd_tup (pda_cons pd_str pda_nil))))
    pdb_nil)) pdb_nil)
    (pdb_cons (pds_if (pdt_cmp op_in_seq g_inN (pd_var 2) (pd_tup (pda_cons pd_str (pda_cons pd_str pda_nil))) (by rfl)) (pdb_cons (pds_set 4 nd (pd_if (pdt_cmp (op_eqD hr.units) g_eq (pd_var 2) pd_str (nomark _)) (pd_callTy call_tuple_ofN g_tuple rfl T.z_tuple boot_tuple' (pda_cons (pd_lc rfl nd (pdi_seq (pd_at (pd_var 0) pd_int)) (own := [("part", 6)]) (blkOk_by (by kernel_rfl)) tg_n (by decide) (fun _ _ _ _ _ => (pg_name (i := 6) nd rfl (by first | exact Or.inl rfl | exact Or.inr rfl))) (fun _ _ _ _ _ => pts_yes) (fun _ _ _ _ _ => (pd_call O.g20 hr rfl T.m20 T.F20.kp T.b20 (pda_cons (pd_var 6) (pda_cons (pd_var 1) pda_nil))))) pda_nil)) (pd_tup pda_nil)))
    (pdb_cons (pds_ret (pd_tup (pda_cons (pd_var 2) (pda_cons (pd_callB (call_len.or call_lenR) g_len rfl T.z_len PySem.boot_len (pda_cons (pd_at (pd_var 0) pd_int) pda_nil)) (pda_cons (pd_var 4) (pda_cons (pd_call O.g20 hr rfl T.m20 T.F20.kp T.b20 (pda_cons (pd_at (pd_var 0) (pd_sub (pd_callB (call_len.or call_lenR) g_len rfl T.z_len PySem.boot_len (pda_cons (pd_var 0) pda_nil)) pd_int)) (pda_cons (pd_add (pd_lst (pda_cons (pd_at (pd_var 0) pd_int) pda_nil)) (pd_var 1)) pda_nil))) pda_nil))))))
    pdb_nil)) pdb_nil)
    (pdb_cons (pds_ret (pd_if (pdt_cmp (op_neD hr.units) g_ne (pd_call O.g17 hr rfl T.m17 T.F17.kp T.b17 (pda_cons (pd_var 0) pda_nil)) (pd_tup pda_nil) (nomark _)) (pd_add (pd_tup (pda_cons (pd_var 2) pda_nil)) (pd_callTy call_tuple_ofN g_tuple rfl T.z_tuple boot_tuple' (pda_cons (pd_lc rfl nd (pdi_seq (pd_call O.g17 hr rfl T.m17 T.F17.kp T.b17 (pda_cons (pd_var 0) pda_nil))) (own := [("part", 6)]) (blkOk_by (by kernel_rfl)) tg_n (by decide) (fun _ _ _ _ _ => (pg_name (i := 6) nd rfl (by first | exact Or.inl rfl | exact Or.inr rfl))) (fun _ _ _ _ _ => pts_yes) (fun _ _ _ _ _ => (pd_call O.g20 hr rfl T.m20 T.F20.kp T.b20 (pda_cons (pd_var 6) (pda_cons (pd_var 1) pda_nil))))) pda_nil))) (pd_var 0)))
    pdb_nil))))
theorem ok21 (T : Facts K mg) {n : Nat} (O : OkAll P w base T n) : FnOk P w K mg base CX0 (n + 1) T.a21 T.fd21 ["named"] (spF K 1 (fns (n + 1) 21)) := by
  refine fn_ok (fm := b21 (fns n)) T.F21 sc21 fun cdv A outer s H E hr => ?_
  have nd := sc21.nd
  exact (pdb_cons (pds_ret (pd_or (pd_cmp (op_eqD hr.units) g_eq (pd_var 0) (pd_tup (pda_cons pd_str pda_nil)) (nomark _)) (pd_one (pd_and (pd_isi rfl T.z_isinstance rfl T.z_tuple boot_tuple' (pd_var 0)) (pd_one (pd_cmp (op_neD hr.units) g_ne (pd_lc rfl nd (pdi_seq (pd_var 0)) (own := [("part", 1)]) (blkOk_by (by kernel_rfl)) tg_n (by decide) (fun _ _ _ _ _ => (pg_name (i := 1) nd rfl (by first | exact Or.inl rfl | exact Or.inr rfl))) (fun _ _ _ _ _ => pts_c (pdt_w (pdw_and (pdt_val (pd_isi rfl T.z_isinstance rfl T.z_tuple boot_tuple' (pd_var 1))) (pdw_and1 (pdt_val (pd_call O.g21 hr rfl T.m21 T.F21.kp T.b21 (pda_cons (pd_var 1) pda_nil))))))) (fun _ _ _ _ _ => (pd_var 1))) (pd_lst pda_nil) (nomark _)))))))
    pdb_nil)
theorem ok22 (T : Facts K mg) {n : Nat} (O : OkAll P w base T n) : FnOk P w K mg base CX0 (n + 1) T.a22 T.fd22 ["script"] (spF K 1 (fns (n + 1) 22)) := by
  refine fn_ok (fm := b22 (fns n)) T.F22 sc22 fun cdv A outer s H E hr => ?_
  have nd := sc22.nd
  exact (pdb_cons (pds_set 1 nd (pd_disp (pdp_cons pd_str (pd_call O.g11 hr rfl T.m11 T.F11.kp T.b11 (pda_cons (pd_var 0) (pda_cons pd_int pda_nil))) (pdp_cons pd_str pd_int pdp_nil))))
    (pdb_cons (pds_for PassesOwn.never rfl (pdi_range1 rfl T.z_range (pda_cons pd_int pda_nil)) (pg_name (i := 2) nd rfl (by first | exact Or.inl rfl | exact Or.inr rfl)) tg_n (pdb_cons (pds_set 3 nd (pd_call O.g15 hr rfl T.m15 T.F15.kp T.b15 (pda_cons (pd_var 1) (pda_cons pd_int (pda_cons (pd_lst pda_nil) pda_nil)))))
    (pdb_cons (pds_if (pdt_cmp (op_eqD hr.units) g_eq (pd_call O.g12 hr rfl T.m12 T.F12.kp T.b12 (pda_cons (pd_var 1) (pda_cons pd_int pda_nil))) pd_int (nomark _)) (pdb_cons (pds_set 3 nd (pd_tup (pda_cons pd_str (pda_cons (pd_var 3) (pda_cons (pd_tup (pda_cons (pd_call O.g15 hr rfl T.m15 T.F15.kp T.b15 (pda_cons (pd_var 1) (pda_cons pd_int (pda_cons (pd_lst pda_nil) pda_nil)))) (pda_cons (pd_var 3) pda_nil))) pda_nil)))))
    pdb_nil) pdb_nil)
    (pdb_cons (pds_set 4 nd (pd_call O.g16 hr rfl T.m16 T.F16.kp T.b16 (pda_cons (pd_var 3) (pda_cons (pd_lst pda_nil) (pda_cons (pd_disp (pdp_cons pd_str (pd_call O.g12 hr rfl T.m12 T.F12.kp T.b12 (pda_cons (pd_var 1) (pda_cons pd_int pda_nil))) pdp_nil)) pda_nil)))))
    (pdb_cons (pds_set 5 nd (pd_call O.g18 hr rfl T.m18 T.F18.kp T.b18 (pda_cons (pd_var 4) pda_nil)))
    (pdb_cons (pds_asg (pd_tup (pda_cons pd_newK (pda_cons pd_newK pda_nil))) (pg_tup rfl (pgs_cons (pg_name (i := 12) nd rfl (by first | exact Or.inl rfl | exact Or.inr rfl)) (pgs_cons (pg_name (i := 13) nd rfl (by first | exact Or.inl rfl | exact Or.inr rfl)) pgs_nil))) (tg_tup (tgs_cons tg_n (tgs_cons tg_n tgs_nil))))
    (pdb_cons (pds_for PassesOwn.never rfl (pdi_seq (pd_var 5)) (pg_name (i := 6) nd rfl (by first | exact Or.inl rfl | exact Or.inr rfl)) tg_n (pdb_cons (pds_dput (hu_of hr) (pd_var 12) (pd_at (pd_var 6) pd_int) (pd_add (pd_dget2 (hu_of hr) (pd_var 12) (pd_at (pd_var 6) pd_int) pd_int ⟨rfl, rfl, rfl, rfl⟩) pd_int))
    (pdb_cons (pds_for PassesOwn.never rfl (pdi_seq (pd_if (pdt_cmp op_in_seq g_inN (pd_at (pd_var 6) pd_int) (pd_tup (pda_cons pd_str (pda_cons pd_str pda_nil))) (by rfl)) (pd_at (pd_var 6) pd_int) (pd_tup pda_nil))) (pg_name (i := 14) nd rfl (by first | exact Or.inl rfl | exact Or.inr rfl)) tg_n (pdb_cons (pds_dput (hu_of hr) (pd_var 13) (pd_var 14) (pd_callB (call_len.or call_lenR) g_len rfl T.z_len PySem.boot_len (pda_cons (pd_lc rfl nd (pdi_seq (pd_var 5)) (own := [("one", 18)]) (blkOk_by (by kernel_rfl)) tg_n (by decide) (fun _ _ _ _ _ => (pg_name (i := 18) nd rfl (by first | exact Or.inl rfl | exact Or.inr rfl))) (fun _ _ _ _ _ => pts_c (pdt_cmp (op_eqD hr.units) g_eq (pd_var 18) (pd_tup (pda_cons pd_str (pda_cons (pd_var 14) pda_nil))) (nomark _))) (fun _ _ _ _ _ => (pd_var 18))) pda_nil)))
    pdb_nil))
    pdb_nil)))
    (pdb_cons (pds_par rfl nd (i := 15) (j := 16) rfl rfl (by decide) (by kernel_rfl) (by kernel_rfl) (pda_cons (pd_call O.g6 hr rfl T.m6 T.F6.kp T.b6 (pda_cons (pd_var 4) pda_nil)) (pda_cons (pd_call O.g8 hr rfl T.m8 T.F8.kp T.b8 (pda_cons (pd_var 4) pda_nil)) pda_nil)) (by kernel_rfl) (by kernel_rfl))
    (pdb_cons (pds_if (pdt_w (pdw_or (pdt_not (pdt_val (pd_isi rfl T.z_isinstance rfl T.z_dict boot_dict' (pd_var 15)))) (pdw_or (pdt_not (pdt_val (pd_isi rfl T.z_isinstance rfl T.z_dict boot_dict' (pd_var 16)))) (pdw_or1 (pdt_not (pdt_val (pd_call O.g14 hr rfl T.m14 T.F14.kp T.b14 (pda_cons (pd_callTy call_tuple_ofN g_tuple rfl T.z_tuple boot_tuple' (pda_cons (pd_sortIt rfl hr.units rfl T.z_sorted boot_sorted' (pd_var 15)) pda_nil)) (pda_cons (pd_callTy call_tuple_ofN g_tuple rfl T.z_tuple boot_tuple' (pda_cons (pd_sortIt rfl hr.units rfl T.z_sorted boot_sorted' (pd_var 12)) pda_nil)) pda_nil))))))))) (pdb_cons (pds_ret pd_bl)
    pdb_nil) pdb_nil)
    (pdb_cons (pds_if (pdt_w (pdw_or (pdt_not (pdt_val (pd_call O.g14 hr rfl T.m14 T.F14.kp T.b14 (pda_cons (pd_callTy call_tuple_ofN g_tuple rfl T.z_tuple boot_tuple' (pda_cons (pd_sortIt rfl hr.units rfl T.z_sorted boot_sorted' (pd_var 16)) pda_nil)) (pda_cons (pd_callTy call_tuple_ofN g_tuple rfl T.z_tuple boot_tuple' (pda_cons (pd_sortIt rfl hr.units rfl T.z_sorted boot_sorted' (pd_var 13)) pda_nil)) pda_nil))))) (pdw_or1 (pdt_not (pdt_val (pd_call O.g14 hr rfl T.m14 T.F14.kp T.b14 (pda_cons (pd_call O.g7 hr rfl T.m7 T.F7.kp T.b7 (pda_cons (pd_var 4) pda_nil)) (pda_cons (pd_call O.g19 hr rfl T.m19 T.F19.kp T.b19 (pda_cons (pd_var 4) pda_nil)) pda_nil)))))))) (pdb_cons (pds_ret pd_bl)
    pdb_nil) pdb_nil)
    (pdb_cons (pds_setLc 7 rfl nd (pdi_seq (pd_callB (call_sortedDI rfl) g_sortDI rfl T.z_sorted boot_sorted' (pda_cons (pd_var 13) pda_nil))) (own := [("k", 14)]) (blkOk_by (by kernel_rfl)) tg_n (by decide) (fun _ _ _ _ _ => (pg_name (i := 14) nd rfl (by first | exact Or.inl rfl | exact Or.inr rfl))) (fun _ _ _ _ _ => pts_c (pdt_cmp (op_eqD hr.units) g_eq (pd_lc rfl nd (pdi_keys (pd_var 13)) (own := [("j", 17)]) (blkOk_by (by kernel_rfl)) tg_n (by decide) (fun _ _ _ _ _ => (pg_name (i := 17) nd rfl (by first | exact Or.inl rfl | exact Or.inr rfl))) (fun _ _ _ _ _ => pts_c (pdt_cmp op_gt g_gt (pd_dget (hu_of hr) (pd_var 13) (pd_var 17)) (pd_dget (hu_of hr) (pd_var 13) (pd_var 14)) (nomark _))) (fun _ _ _ _ _ => (pd_var 17))) (pd_lst pda_nil) (nomark _))) (fun _ _ _ _ _ => (pd_var 14)) (sw_true rfl rfl rfl (by kernel_rfl)))
    (pdb_cons (pds_if (pdt_not (pdt_val (pd_call O.g14 hr rfl T.m14 T.F14.kp T.b14 (pda_cons (pd_call O.g9 hr rfl T.m9 T.F9.kp T.b9 (pda_cons (pd_var 4) pda_nil)) (pda_cons (pd_if (pdt_cmp (op_neD hr.units) g_ne (pd_var 7) (pd_lst pda_nil) (nomark _)) (pd_at (pd_var 7) pd_int) pd_non) pda_nil))))) (pdb_cons (pds_ret pd_bl)
    pdb_nil) pdb_nil)
    (pdb_cons (pds_set 8 nd (pd_lc rfl nd (pdi_seq (pd_var 5)) (own := [("part", 6)]) (blkOk_by (by kernel_rfl)) tg_n (by decide) (fun _ _ _ _ _ => (pg_name (i := 6) nd rfl (by first | exact Or.inl rfl | exact Or.inr rfl))) (fun _ _ _ _ _ => pts_yes) (fun _ _ _ _ _ => (pd_call O.g20 hr rfl T.m20 T.F20.kp T.b20 (pda_cons (pd_var 6) (pda_cons (pd_lst pda_nil) pda_nil))))))
    (pdb_cons (pds_setLc 9 rfl nd (pdi_range1 rfl T.z_range (pda_cons (pd_callB (call_len.or call_lenR) g_len rfl T.z_len PySem.boot_len (pda_cons (pd_var 5) pda_nil)) pda_nil)) (own := [("i", 11)]) (blkOk_by (by kernel_rfl)) tg_n (by decide) (fun _ _ _ _ _ => (pg_name (i := 11) nd rfl (by first | exact Or.inl rfl | exact Or.inr rfl))) (fun _ _ _ _ _ => pts_c (pdt_w (pdw_and (pdt_cmp (op_neD hr.units) g_ne (pd_call O.g17 hr rfl T.m17 T.F17.kp T.b17 (pda_cons (pd_at (pd_var 5) (pd_var 11)) pda_nil)) (pd_tup pda_nil) (nomark _)) (pdw_and1 (pdt_not (pdt_val (pd_call O.g21 hr rfl T.m21 T.F21.kp T.b21 (pda_cons (pd_at (pd_var 8) (pd_var 11)) pda_nil)))))))) (fun _ _ _ _ _ => (pd_var 11)) (sw_true rfl rfl rfl (by kernel_rfl)))
    (pdb_cons (pds_set 10 nd (pd_lst pda_nil))
    (pdb_cons (pds_for PassesOwn.never rfl (pdi_seq (pd_var 9)) (pg_name (i := 11) nd rfl (by first | exact Or.inl rfl | exact Or.inr rfl)) tg_n (pdb_cons (pds_set 10 nd (pd_add (pd_var 10) (pd_lc rfl nd (pdi_seq (pd_var 9)) (own := [("j", 17)]) (blkOk_by (by kernel_rfl)) tg_n (by decide) (fun _ _ _ _ _ => (pg_name (i := 17) nd rfl (by first | exact Or.inl rfl | exact Or.inr rfl))) (fun _ _ _ _ _ => pts_c (pdt_w (pdw_and (pdt_cmp op_lt g_lt (pd_var 11) (pd_var 17) (nomark _)) (pdw_and1 (pdt_cmp (op_eqD hr.units) g_eq (pd_at (pd_var 8) (pd_var 11)) (pd_at (pd_var 8) (pd_var 17)) (nomark _)))))) (fun _ _ _ _ _ => (pd_tup (pda_cons (pd_var 11) (pda_cons (pd_var 17) pda_nil)))))))
    pdb_nil))
    (pdb_cons (pds_if (pdt_not (pdt_val (pd_call O.g14 hr rfl T.m14 T.F14.kp T.b14 (pda_cons (pd_call O.g10 hr rfl T.m10 T.F10.kp T.b10 (pda_cons (pd_var 4) pda_nil)) (pda_cons (pd_callTy call_tuple_ofN g_tuple rfl T.z_tuple boot_tuple' (pda_cons (pd_var 10) pda_nil)) pda_nil))))) (pdb_cons (pds_ret pd_bl)
    pdb_nil) pdb_nil)
    pdb_nil)))))))))))))))))
    (pdb_cons (pds_ret (pd_call O.g14 hr rfl T.m14 T.F14.kp T.b14 (pda_cons (pd_call O.g9 hr rfl T.m9 T.F9.kp T.b9 (pda_cons (pd_tup (pda_cons pd_str (pda_cons pd_int pda_nil))) pda_nil)) (pda_cons pd_non pda_nil))))
    pdb_nil)))
theorem okAll (T : Facts K mg) : ∀ n, OkAll P w base T n
  | 0 => ⟨fn_zero, fn_zero, fn_zero, fn_zero, fn_zero, fn_zero, fn_zero, fn_zero, fn_zero, fn_zero, fn_zero, fn_zero, fn_zero, fn_zero, fn_zero, fn_zero, fn_zero, fn_zero, fn_zero, fn_zero, fn_zero, fn_zero, fn_zero⟩
  | n + 1 => have O := okAll T n
    ⟨ok0 T O, ok1 T O, ok2 T O, ok3 T O, ok4 T O, ok5 T O, ok6 T O, ok7 T O, ok8 T O, ok9 T O, ok10 T O, ok11 T O, ok12 T O, ok13 T O, ok14 T O, ok15 T O, ok16 T O, ok17 T O, ok18 T O, ok19 T O, ok20 T O, ok21 T O, ok22 T O⟩
end
theorem all_mk {l : PySem.W.OpenLaw} {w : World} {K : PySem.W.Frag} {h : Heap} {mg : Str → Option Value} {fa : Addr} (X : K.In h) (G : h.Ns mainGlobals mg) (hfa : mg "law" = some (.ref fa)) {f0 f1 f2 f3 f4 f5 f6 f7 f8 f9 f10 f11 f12 f13 f14 f15 f16 f17 f18 f19 f20 f21 f22 : Addr}
    {od0 an0 : Option Addr} {sl0 : Array (Option Value)} {oc0 kV0 dc0 pm0 cd0 ct0 : Value} (A0 : PySem.W.nsIn K mainGlobals "parts_of" = some (some (.ref f0))) (l0 : K.lookup f0 = some ⟨oc0, od0, .func (PySem.W.fnOf "parts_of" "parts_of" (defArgs s0) (defBody s0) (defScope s0) .none kV0 dc0 pm0 an0 cd0 ct0), sl0⟩) (c0 : PySem.W.codeIn K cd0 "parts_of" = true) (k0 : PySem.W.keepIn K (.ref f0) = true)
    {od1 an1 : Option Addr} {sl1 : Array (Option Value)} {oc1 kV1 dc1 pm1 cd1 ct1 : Value} (A1 : PySem.W.nsIn K mainGlobals "with_parts" = some (some (.ref f1))) (l1 : K.lookup f1 = some ⟨oc1, od1, .func (PySem.W.fnOf "with_parts" "with_parts" (defArgs s1) (defBody s1) (defScope s1) .none kV1 dc1 pm1 an1 cd1 ct1), sl1⟩) (c1 : PySem.W.codeIn K cd1 "with_parts" = true) (k1 : PySem.W.keepIn K (.ref f1) = true)
    {od2 an2 : Option Addr} {sl2 : Array (Option Value)} {oc2 kV2 dc2 pm2 cd2 ct2 : Value} (A2 : PySem.W.nsIn K mainGlobals "open_places" = some (some (.ref f2))) (l2 : K.lookup f2 = some ⟨oc2, od2, .func (PySem.W.fnOf "open_places" "open_places" (defArgs s2) (defBody s2) (defScope s2) .none kV2 dc2 pm2 an2 cd2 ct2), sl2⟩) (c2 : PySem.W.codeIn K cd2 "open_places" = true) (k2 : PySem.W.keepIn K (.ref f2) = true)
    {od3 an3 : Option Addr} {sl3 : Array (Option Value)} {oc3 kV3 dc3 pm3 cd3 ct3 : Value} (A3 : PySem.W.nsIn K mainGlobals "form_below" = some (some (.ref f3))) (l3 : K.lookup f3 = some ⟨oc3, od3, .func (PySem.W.fnOf "form_below" "form_below" (defArgs s3) (defBody s3) (defScope s3) .none kV3 dc3 pm3 an3 cd3 ct3), sl3⟩) (c3 : PySem.W.codeIn K cd3 "form_below" = true) (k3 : PySem.W.keepIn K (.ref f3) = true)
    {od4 an4 : Option Addr} {sl4 : Array (Option Value)} {oc4 kV4 dc4 pm4 cd4 ct4 : Value} (A4 : PySem.W.nsIn K mainGlobals "form_of" = some (some (.ref f4))) (l4 : K.lookup f4 = some ⟨oc4, od4, .func (PySem.W.fnOf "form_of" "form_of" (defArgs s4) (defBody s4) (defScope s4) .none kV4 dc4 pm4 an4 cd4 ct4), sl4⟩) (c4 : PySem.W.codeIn K cd4 "form_of" = true) (k4 : PySem.W.keepIn K (.ref f4) = true)
    {od5 an5 : Option Addr} {sl5 : Array (Option Value)} {oc5 kV5 dc5 pm5 cd5 ct5 : Value} (A5 : PySem.W.nsIn K mainGlobals "all_parts" = some (some (.ref f5))) (l5 : K.lookup f5 = some ⟨oc5, od5, .func (PySem.W.fnOf "all_parts" "all_parts" (defArgs s5) (defBody s5) (defScope s5) .none kV5 dc5 pm5 an5 cd5 ct5), sl5⟩) (c5 : PySem.W.codeIn K cd5 "all_parts" = true) (k5 : PySem.W.keepIn K (.ref f5) = true)
    {od6 an6 : Option Addr} {sl6 : Array (Option Value)} {oc6 kV6 dc6 pm6 cd6 ct6 : Value} (A6 : PySem.W.nsIn K mainGlobals "kinds_in" = some (some (.ref f6))) (l6 : K.lookup f6 = some ⟨oc6, od6, .func (PySem.W.fnOf "kinds_in" "kinds_in" (defArgs s6) (defBody s6) (defScope s6) .none kV6 dc6 pm6 an6 cd6 ct6), sl6⟩) (c6 : PySem.W.codeIn K cd6 "kinds_in" = true) (k6 : PySem.W.keepIn K (.ref f6) = true)
    {od7 an7 : Option Addr} {sl7 : Array (Option Value)} {oc7 kV7 dc7 pm7 cd7 ct7 : Value} (A7 : PySem.W.nsIn K mainGlobals "deep_of" = some (some (.ref f7))) (l7 : K.lookup f7 = some ⟨oc7, od7, .func (PySem.W.fnOf "deep_of" "deep_of" (defArgs s7) (defBody s7) (defScope s7) .none kV7 dc7 pm7 an7 cd7 ct7), sl7⟩) (c7 : PySem.W.codeIn K cd7 "deep_of" = true) (k7 : PySem.W.keepIn K (.ref f7) = true)
    {od8 an8 : Option Addr} {sl8 : Array (Option Value)} {oc8 kV8 dc8 pm8 cd8 ct8 : Value} (A8 : PySem.W.nsIn K mainGlobals "refs_by_place" = some (some (.ref f8))) (l8 : K.lookup f8 = some ⟨oc8, od8, .func (PySem.W.fnOf "refs_by_place" "refs_by_place" (defArgs s8) (defBody s8) (defScope s8) .none kV8 dc8 pm8 an8 cd8 ct8), sl8⟩) (c8 : PySem.W.codeIn K cd8 "refs_by_place" = true) (k8 : PySem.W.keepIn K (.ref f8) = true)
    {od9 an9 : Option Addr} {sl9 : Array (Option Value)} {oc9 kV9 dc9 pm9 cd9 ct9 : Value} (A9 : PySem.W.nsIn K mainGlobals "most_read" = some (some (.ref f9))) (l9 : K.lookup f9 = some ⟨oc9, od9, .func (PySem.W.fnOf "most_read" "most_read" (defArgs s9) (defBody s9) (defScope s9) .none kV9 dc9 pm9 an9 cd9 ct9), sl9⟩) (c9 : PySem.W.codeIn K cd9 "most_read" = true) (k9 : PySem.W.keepIn K (.ref f9) = true)
    {od10 an10 : Option Addr} {sl10 : Array (Option Value)} {oc10 kV10 dc10 pm10 cd10 ct10 : Value} (A10 : PySem.W.nsIn K mainGlobals "alike_parts" = some (some (.ref f10))) (l10 : K.lookup f10 = some ⟨oc10, od10, .func (PySem.W.fnOf "alike_parts" "alike_parts" (defArgs s10) (defBody s10) (defScope s10) .none kV10 dc10 pm10 an10 cd10 ct10), sl10⟩) (c10 : PySem.W.codeIn K cd10 "alike_parts" = true) (k10 : PySem.W.keepIn K (.ref f10) = true)
    {od11 an11 : Option Addr} {sl11 : Array (Option Value)} {oc11 kV11 dc11 pm11 cd11 ct11 : Value} (A11 : PySem.W.nsIn K mainGlobals "_law_draws" = some (some (.ref f11))) (l11 : K.lookup f11 = some ⟨oc11, od11, .func (PySem.W.fnOf "_law_draws" "_law_draws" (defArgs s11) (defBody s11) (defScope s11) .none kV11 dc11 pm11 an11 cd11 ct11), sl11⟩) (c11 : PySem.W.codeIn K cd11 "_law_draws" = true) (k11 : PySem.W.keepIn K (.ref f11) = true)
    {od12 an12 : Option Addr} {sl12 : Array (Option Value)} {oc12 kV12 dc12 pm12 cd12 ct12 : Value} (A12 : PySem.W.nsIn K mainGlobals "_law_next" = some (some (.ref f12))) (l12 : K.lookup f12 = some ⟨oc12, od12, .func (PySem.W.fnOf "_law_next" "_law_next" (defArgs s12) (defBody s12) (defScope s12) .none kV12 dc12 pm12 an12 cd12 ct12), sl12⟩) (c12 : PySem.W.codeIn K cd12 "_law_next" = true) (k12 : PySem.W.keepIn K (.ref f12) = true)
    {od13 an13 : Option Addr} {sl13 : Array (Option Value)} {oc13 kV13 dc13 pm13 cd13 ct13 : Value} (A13 : PySem.W.nsIn K mainGlobals "_law_pick" = some (some (.ref f13))) (l13 : K.lookup f13 = some ⟨oc13, od13, .func (PySem.W.fnOf "_law_pick" "_law_pick" (defArgs s13) (defBody s13) (defScope s13) .none kV13 dc13 pm13 an13 cd13 ct13), sl13⟩) (c13 : PySem.W.codeIn K cd13 "_law_pick" = true) (k13 : PySem.W.keepIn K (.ref f13) = true)
    {od14 an14 : Option Addr} {sl14 : Array (Option Value)} {oc14 kV14 dc14 pm14 cd14 ct14 : Value} (A14 : PySem.W.nsIn K mainGlobals "_law_alike" = some (some (.ref f14))) (l14 : K.lookup f14 = some ⟨oc14, od14, .func (PySem.W.fnOf "_law_alike" "_law_alike" (defArgs s14) (defBody s14) (defScope s14) .none kV14 dc14 pm14 an14 cd14 ct14), sl14⟩) (c14 : PySem.W.codeIn K cd14 "_law_alike" = true) (k14 : PySem.W.keepIn K (.ref f14) = true)
    {od15 an15 : Option Addr} {sl15 : Array (Option Value)} {oc15 kV15 dc15 pm15 cd15 ct15 : Value} (A15 : PySem.W.nsIn K mainGlobals "_law_form" = some (some (.ref f15))) (l15 : K.lookup f15 = some ⟨oc15, od15, .func (PySem.W.fnOf "_law_form" "_law_form" (defArgs s15) (defBody s15) (defScope s15) .none kV15 dc15 pm15 an15 cd15 ct15), sl15⟩) (c15 : PySem.W.codeIn K cd15 "_law_form" = true) (k15 : PySem.W.keepIn K (.ref f15) = true)
    {od16 an16 : Option Addr} {sl16 : Array (Option Value)} {oc16 kV16 dc16 pm16 cd16 ct16 : Value} (A16 : PySem.W.nsIn K mainGlobals "_law_core" = some (some (.ref f16))) (l16 : K.lookup f16 = some ⟨oc16, od16, .func (PySem.W.fnOf "_law_core" "_law_core" (defArgs s16) (defBody s16) (defScope s16) .none kV16 dc16 pm16 an16 cd16 ct16), sl16⟩) (c16 : PySem.W.codeIn K cd16 "_law_core" = true) (k16 : PySem.W.keepIn K (.ref f16) = true)
    {od17 an17 : Option Addr} {sl17 : Array (Option Value)} {oc17 kV17 dc17 pm17 cd17 ct17 : Value} (A17 : PySem.W.nsIn K mainGlobals "_law_kids" = some (some (.ref f17))) (l17 : K.lookup f17 = some ⟨oc17, od17, .func (PySem.W.fnOf "_law_kids" "_law_kids" (defArgs s17) (defBody s17) (defScope s17) .none kV17 dc17 pm17 an17 cd17 ct17), sl17⟩) (c17 : PySem.W.codeIn K cd17 "_law_kids" = true) (k17 : PySem.W.keepIn K (.ref f17) = true)
    {od18 an18 : Option Addr} {sl18 : Array (Option Value)} {oc18 kV18 dc18 pm18 cd18 ct18 : Value} (A18 : PySem.W.nsIn K mainGlobals "_law_every" = some (some (.ref f18))) (l18 : K.lookup f18 = some ⟨oc18, od18, .func (PySem.W.fnOf "_law_every" "_law_every" (defArgs s18) (defBody s18) (defScope s18) .none kV18 dc18 pm18 an18 cd18 ct18), sl18⟩) (c18 : PySem.W.codeIn K cd18 "_law_every" = true) (k18 : PySem.W.keepIn K (.ref f18) = true)
    {od19 an19 : Option Addr} {sl19 : Array (Option Value)} {oc19 kV19 dc19 pm19 cd19 ct19 : Value} (A19 : PySem.W.nsIn K mainGlobals "_law_deep" = some (some (.ref f19))) (l19 : K.lookup f19 = some ⟨oc19, od19, .func (PySem.W.fnOf "_law_deep" "_law_deep" (defArgs s19) (defBody s19) (defScope s19) .none kV19 dc19 pm19 an19 cd19 ct19), sl19⟩) (c19 : PySem.W.codeIn K cd19 "_law_deep" = true) (k19 : PySem.W.keepIn K (.ref f19) = true)
    {od20 an20 : Option Addr} {sl20 : Array (Option Value)} {oc20 kV20 dc20 pm20 cd20 ct20 : Value} (A20 : PySem.W.nsIn K mainGlobals "_law_named" = some (some (.ref f20))) (l20 : K.lookup f20 = some ⟨oc20, od20, .func (PySem.W.fnOf "_law_named" "_law_named" (defArgs s20) (defBody s20) (defScope s20) .none kV20 dc20 pm20 an20 cd20 ct20), sl20⟩) (c20 : PySem.W.codeIn K cd20 "_law_named" = true) (k20 : PySem.W.keepIn K (.ref f20) = true)
    {od21 an21 : Option Addr} {sl21 : Array (Option Value)} {oc21 kV21 dc21 pm21 cd21 ct21 : Value} (A21 : PySem.W.nsIn K mainGlobals "_law_has_free" = some (some (.ref f21))) (l21 : K.lookup f21 = some ⟨oc21, od21, .func (PySem.W.fnOf "_law_has_free" "_law_has_free" (defArgs s21) (defBody s21) (defScope s21) .none kV21 dc21 pm21 an21 cd21 ct21), sl21⟩) (c21 : PySem.W.codeIn K cd21 "_law_has_free" = true) (k21 : PySem.W.keepIn K (.ref f21) = true)
    {od22 an22 : Option Addr} {sl22 : Array (Option Value)} {oc22 kV22 dc22 pm22 cd22 ct22 : Value} (A22 : PySem.W.nsIn K mainGlobals "law" = some (some (.ref f22))) (l22 : K.lookup f22 = some ⟨oc22, od22, .func (PySem.W.fnOf "law" "law" (defArgs s22) (defBody s22) (defScope s22) .none kV22 dc22 pm22 an22 cd22 ct22), sl22⟩) (c22 : PySem.W.codeIn K cd22 "law" = true) (k22 : PySem.W.keepIn K (.ref f22) = true)
    (z_list : PySem.W.nsIn K mainGlobals "list" = some none)
    (z_tuple : PySem.W.nsIn K mainGlobals "tuple" = some none)
    (z_sorted : PySem.W.nsIn K mainGlobals "sorted" = some none)
    (z_set : PySem.W.nsIn K mainGlobals "set" = some none)
    (z_len : PySem.W.nsIn K mainGlobals "len" = some none)
    (z_range : PySem.W.nsIn K mainGlobals "range" = some none)
    (z_max : PySem.W.nsIn K mainGlobals "max" = some none)
    (z_min : PySem.W.nsIn K mainGlobals "min" = some none)
    (z_int : PySem.W.nsIn K mainGlobals "int" = some none)
    (z_abs : PySem.W.nsIn K mainGlobals "abs" = some none)
    (z_isinstance : PySem.W.nsIn K mainGlobals "isinstance" = some none)
    (z_str : PySem.W.nsIn K mainGlobals "str" = some none)
    (z_bool : PySem.W.nsIn K mainGlobals "bool" = some none)
    (z_dict : PySem.W.nsIn K mainGlobals "dict" = some none)
    : ∃ fd : FuncData, (∀ (s : Shared) (v : Value), BindsTo s fd ⟨[v], []⟩ [("script", v)]) ∧ ∀ base : Heap, K.In base → base.Ns mainGlobals mg → FnOk l.prog w K mg base CX0 230 fa fd ["script"] (spF K 1 (fns 230 22)) := by
  have e := hfa.symm.trans (PySem.W.mg_of X G A22)
  cases e
  have F0 := fun_mk (st := s0) l0 c0 k0
  have F1 := fun_mk (st := s1) l1 c1 k1
  have F2 := fun_mk (st := s2) l2 c2 k2
  have F3 := fun_mk (st := s3) l3 c3 k3
  have F4 := fun_mk (st := s4) l4 c4 k4
  have F5 := fun_mk (st := s5) l5 c5 k5
  have F6 := fun_mk (st := s6) l6 c6 k6
  have F7 := fun_mk (st := s7) l7 c7 k7
  have F8 := fun_mk (st := s8) l8 c8 k8
  have F9 := fun_mk (st := s9) l9 c9 k9
  have F10 := fun_mk (st := s10) l10 c10 k10
  have F11 := fun_mk (st := s11) l11 c11 k11
  have F12 := fun_mk (st := s12) l12 c12 k12
  have F13 := fun_mk (st := s13) l13 c13 k13
  have F14 := fun_mk (st := s14) l14 c14 k14
  have F15 := fun_mk (st := s15) l15 c15 k15
  have F16 := fun_mk (st := s16) l16 c16 k16
  have F17 := fun_mk (st := s17) l17 c17 k17
  have F18 := fun_mk (st := s18) l18 c18 k18
  have F19 := fun_mk (st := s19) l19 c19 k19
  have F20 := fun_mk (st := s20) l20 c20 k20
  have F21 := fun_mk (st := s21) l21 c21 k21
  have F22 := fun_mk (st := s22) l22 c22 k22
  let T : Facts K mg := {
    a0 := f0, fd0 := _, F0 := F0, m0 := PySem.W.mg_of X G A0, b0 := F0.binds fun _ _ _ _ _ _ us hl => match us, hl with | [_], _ => rfl
    a1 := f1, fd1 := _, F1 := F1, m1 := PySem.W.mg_of X G A1, b1 := F1.binds fun _ _ _ _ _ _ us hl => match us, hl with | [_, _], _ => rfl
    a2 := f2, fd2 := _, F2 := F2, m2 := PySem.W.mg_of X G A2, b2 := F2.binds fun _ _ _ _ _ _ us hl => match us, hl with | [_], _ => rfl
    a3 := f3, fd3 := _, F3 := F3, m3 := PySem.W.mg_of X G A3, b3 := F3.binds fun _ _ _ _ _ _ us hl => match us, hl with | [_, _], _ => rfl
    a4 := f4, fd4 := _, F4 := F4, m4 := PySem.W.mg_of X G A4, b4 := F4.binds fun _ _ _ _ _ _ us hl => match us, hl with | [_], _ => rfl
    a5 := f5, fd5 := _, F5 := F5, m5 := PySem.W.mg_of X G A5, b5 := F5.binds fun _ _ _ _ _ _ us hl => match us, hl with | [_], _ => rfl
    a6 := f6, fd6 := _, F6 := F6, m6 := PySem.W.mg_of X G A6, b6 := F6.binds fun _ _ _ _ _ _ us hl => match us, hl with | [_], _ => rfl
    a7 := f7, fd7 := _, F7 := F7, m7 := PySem.W.mg_of X G A7, b7 := F7.binds fun _ _ _ _ _ _ us hl => match us, hl with | [_], _ => rfl
    a8 := f8, fd8 := _, F8 := F8, m8 := PySem.W.mg_of X G A8, b8 := F8.binds fun _ _ _ _ _ _ us hl => match us, hl with | [_], _ => rfl
    a9 := f9, fd9 := _, F9 := F9, m9 := PySem.W.mg_of X G A9, b9 := F9.binds fun _ _ _ _ _ _ us hl => match us, hl with | [_], _ => rfl
    a10 := f10, fd10 := _, F10 := F10, m10 := PySem.W.mg_of X G A10, b10 := F10.binds fun _ _ _ _ _ _ us hl => match us, hl with | [_], _ => rfl
    a11 := f11, fd11 := _, F11 := F11, m11 := PySem.W.mg_of X G A11, b11 := F11.binds fun _ _ _ _ _ _ us hl => match us, hl with | [_, _], _ => rfl
    a12 := f12, fd12 := _, F12 := F12, m12 := PySem.W.mg_of X G A12, b12 := F12.binds fun _ _ _ _ _ _ us hl => match us, hl with | [_, _], _ => rfl
    a13 := f13, fd13 := _, F13 := F13, m13 := PySem.W.mg_of X G A13, b13 := F13.binds fun _ _ _ _ _ _ us hl => match us, hl with | [_, _], _ => rfl
    a14 := f14, fd14 := _, F14 := F14, m14 := PySem.W.mg_of X G A14, b14 := F14.binds fun _ _ _ _ _ _ us hl => match us, hl with | [_, _], _ => rfl
    a15 := f15, fd15 := _, F15 := F15, m15 := PySem.W.mg_of X G A15, b15 := F15.binds fun _ _ _ _ _ _ us hl => match us, hl with | [_, _, _], _ => rfl
    a16 := f16, fd16 := _, F16 := F16, m16 := PySem.W.mg_of X G A16, b16 := F16.binds fun _ _ _ _ _ _ us hl => match us, hl with | [_, _, _], _ => rfl
    a17 := f17, fd17 := _, F17 := F17, m17 := PySem.W.mg_of X G A17, b17 := F17.binds fun _ _ _ _ _ _ us hl => match us, hl with | [_], _ => rfl
    a18 := f18, fd18 := _, F18 := F18, m18 := PySem.W.mg_of X G A18, b18 := F18.binds fun _ _ _ _ _ _ us hl => match us, hl with | [_], _ => rfl
    a19 := f19, fd19 := _, F19 := F19, m19 := PySem.W.mg_of X G A19, b19 := F19.binds fun _ _ _ _ _ _ us hl => match us, hl with | [_], _ => rfl
    a20 := f20, fd20 := _, F20 := F20, m20 := PySem.W.mg_of X G A20, b20 := F20.binds fun _ _ _ _ _ _ us hl => match us, hl with | [_, _], _ => rfl
    a21 := f21, fd21 := _, F21 := F21, m21 := PySem.W.mg_of X G A21, b21 := F21.binds fun _ _ _ _ _ _ us hl => match us, hl with | [_], _ => rfl
    a22 := fa, fd22 := _, F22 := F22, m22 := PySem.W.mg_of X G A22, b22 := F22.binds fun _ _ _ _ _ _ us hl => match us, hl with | [_], _ => rfl
    z_list := PySem.W.mg_none_of X G z_list
    z_tuple := PySem.W.mg_none_of X G z_tuple
    z_sorted := PySem.W.mg_none_of X G z_sorted
    z_set := PySem.W.mg_none_of X G z_set
    z_len := PySem.W.mg_none_of X G z_len
    z_range := PySem.W.mg_none_of X G z_range
    z_max := PySem.W.mg_none_of X G z_max
    z_min := PySem.W.mg_none_of X G z_min
    z_int := PySem.W.mg_none_of X G z_int
    z_abs := PySem.W.mg_none_of X G z_abs
    z_isinstance := PySem.W.mg_none_of X G z_isinstance
    z_str := PySem.W.mg_none_of X G z_str
    z_bool := PySem.W.mg_none_of X G z_bool
    z_dict := PySem.W.mg_none_of X G z_dict
  }
  exact ⟨T.fd22, fun s v => .of_eq rfl, fun base _ _ => (okAll (P := l.prog) (w := w) (base := base) T 230).g22⟩
end G

set_option maxRecDepth 100000
namespace FL
open PySem PySem.Spec PyProof.Rows L2

/-! ### the combinators, one step each -/
@[simp] theorem mVar_e (i : Nat) (ρ : En) (m : Me) : mVar i ρ m = match ρ[i]? with
  | some (some d) => .ok d m
  | _ => .no := rfl
@[simp] theorem mC_e (d : D) (ρ : En) (m : Me) : mC d ρ m = .ok d m := rfl
@[simp] theorem mNil_e (ρ : En) (m : Me) : mNil ρ m = .ok [] m := rfl
@[simp] theorem mCons_e (f : ME) (g : MA) (ρ : En) (m : Me) : mCons f g ρ m = (f ρ m).bind fun d m => (g ρ m).bind fun ds m => .ok (d :: ds) m := rfl
@[simp] theorem mTup_e (f : MA) (ρ : En) (m : Me) : mTup f ρ m = (f ρ m).bind fun ds m => .ok (.tup ds) m := rfl
@[simp] theorem mLst_e (f : MA) (ρ : En) (m : Me) : mLst f ρ m = (f ρ m).bind fun ds m => .ok (.lst ds) m := rfl
@[simp] theorem mNew_e (f : MA) (ρ : En) (m : Me) : mNew f ρ m = (f ρ m).bind fun ds m => .ok (.ref m.length) (m ++ [.lst ds]) := rfl
@[simp] theorem mNewK_e (ρ : En) (m : Me) : mNewK ρ m = .ok (.ref m.length) (m ++ [.dK []]) := rfl
@[simp] theorem m1_e (g : D → Me → Res D) (fa : ME) (ρ : En) (m : Me) : m1 g fa ρ m = (fa ρ m).bind g := rfl
@[simp] theorem m2_e (g : D → D → Me → Res D) (fa fb : ME) (ρ : En) (m : Me) : m2 g fa fb ρ m = (fa ρ m).bind fun d m => (fb ρ m).bind fun d' m => g d d' m := rfl
@[simp] theorem mB_e (f : ME) (ρ : En) (m : Me) : mB f ρ m = (f ρ m).bind asB := rfl
@[simp] theorem asB_e (b : Bool) (m : Me) : asB (.bl b) m = .ok b m := rfl
@[simp] theorem mAnd_e (f g : MT) (ρ : En) (m : Me) : mAnd f g ρ m = (f ρ m).bind fun b m => if b = true then g ρ m else .ok false m := rfl
@[simp] theorem mOr_e (f g : MT) (ρ : En) (m : Me) : mOr f g ρ m = (f ρ m).bind fun b m => if b = true then .ok true m else g ρ m := rfl
@[simp] theorem mNot_e (f : MT) (ρ : En) (m : Me) : mNot f ρ m = (f ρ m).bind fun b m => .ok (!b) m := rfl
@[simp] theorem mAndV_e (f g : ME) (ρ : En) (m : Me) : mAndV f g ρ m = (f ρ m).bind fun d m => match d with
  | .bl true => g ρ m
  | .bl false => .ok (.bl false) m
  | _ => .no := rfl
@[simp] theorem mOrV_e (f g : ME) (ρ : En) (m : Me) : mOrV f g ρ m = (f ρ m).bind fun d m => match d with
  | .bl true => .ok (.bl true) m
  | .bl false => g ρ m
  | _ => .no := rfl
@[simp] theorem mNotV_e (f : ME) (ρ : En) (m : Me) : mNotV f ρ m = (f ρ m).bind fun d m => match d with
  | .bl b => .ok (.bl (!b)) m
  | _ => .no := rfl
@[simp] theorem mIf_e (c : MT) (f g : ME) (ρ : En) (m : Me) : mIf c f g ρ m = (c ρ m).bind fun b m => if b = true then f ρ m else g ρ m := rfl
@[simp] theorem mArgs_e (g : List D → Me → Res D) (fa : MA) (ρ : En) (m : Me) : mArgs g fa ρ m = (fa ρ m).bind g := rfl
@[simp] theorem mCall_e (F : List D → Me → Res D) (fa : MA) (ρ : En) (m : Me) : mCall F fa ρ m = (fa ρ m).bind fun ds m => noX (F ds m) := rfl
@[simp] theorem mOpt_e (f : ME) (ρ : En) (m : Me) : mOpt f ρ m = (f ρ m).bind fun d m => match d with
  | .int i => .ok (some i) m
  | _ => .no := rfl
@[simp] theorem mNo_e (ρ : En) (m : Me) : mNo ρ m = .ok none m := rfl
@[simp] theorem mSl_e (fa : ME) (fl fh : En → Me → Res (Option Int)) (ρ : En) (m : Me) : mSl fa fl fh ρ m = (fa ρ m).bind fun d m => (fl ρ m).bind fun lo m => (fh ρ m).bind fun hi m => gSl d lo hi m := rfl
@[simp] theorem m3_e (g : D → D → D → Me → Res D) (fa fb fc : ME) (ρ : En) (m : Me) : m3 g fa fb fc ρ m = (fa ρ m).bind fun d m => match view m d with
  | .dct _ => (fb ρ m).bind fun d' m => (fc ρ m).bind fun d'' m => g d d' d'' m
  | _ => .no := rfl
@[simp] theorem sSeq_e (f g : MS) (ρ : En) (m : Me) : sSeq f g ρ m = match f ρ m with
  | .nx ρ m => g ρ m
  | r => r := rfl
@[simp] theorem sNext_e (ρ : En) (m : Me) : sNext ρ m = .nx ρ m := rfl
@[simp] theorem sSet_e (i : Nat) (f : ME) (ρ : En) (m : Me) : sSet i f ρ m = bindS (f ρ m) ρ fun d m => .nx (ρ.set i (some d)) m := rfl
@[simp] theorem sRet_e (f : ME) (ρ : En) (m : Me) : sRet f ρ m = bindS (f ρ m) ρ fun d m => .rt d m := rfl
@[simp] theorem sRetN_e (ρ : En) (m : Me) : sRetN ρ m = .rt .non m := rfl
@[simp] theorem sDo_e (f : ME) (ρ : En) (m : Me) : sDo f ρ m = bindS (f ρ m) ρ fun _ m => .nx ρ m := rfl
@[simp] theorem sIf_e (c : MT) (f g : MS) (ρ : En) (m : Me) : sIf c f g ρ m = bindS (c ρ m) ρ fun b m => if b = true then f ρ m else g ρ m := rfl
@[simp] theorem sBk_e (ρ : En) (m : Me) : sBk ρ m = .bk ρ m := rfl
@[simp] theorem sCt_e (ρ : En) (m : Me) : sCt ρ m = .ct ρ m := rfl
@[simp] theorem sFor_e (it : MI) (gt : D → En → Option En) (body : MS) (ρ : En) (m : Me) : sFor it gt body ρ m = bindS (it ρ m) ρ fun p m => forF gt body p.2 p.1 ρ m := rfl
@[simp] theorem sAsg_e (gt : D → En → Option En) (f : ME) (ρ : En) (m : Me) : sAsg gt f ρ m = bindS (f ρ m) ρ fun d m => match gt d ρ with
  | some ρ' => .nx ρ' m
  | none => .no := rfl
@[simp] theorem sDput_e (fo fi fv : ME) (ρ : En) (m : Me) : sDput fo fi fv ρ m = bindS (fv ρ m) ρ fun y m => bindS (fo ρ m) ρ fun d m => bindS (fi ρ m) ρ fun k m => match dput m d k y with
  | some m' => .nx ρ m'
  | none => .no := rfl
@[simp] theorem sDaug_e (fo fi fe : ME) (ρ : En) (m : Me) : sDaug fo fi fe ρ m = bindS (fo ρ m) ρ fun d m => bindS (fi ρ m) ρ fun k m => match look m d k with
  | some (some (.int i)) => bindS (fe ρ m) ρ fun y m => match y with
    | .int j => match dput m d k (.int (i + j)) with
      | some m' => .nx ρ m'
      | none => .no
    | _ => .no
  | _ => .no := rfl
@[simp] theorem sAug_e (i : Nat) (f : D → D → Me → Res D) (fe : ME) (ρ : En) (m : Me) : sAug i f fe ρ m = match ρ[i]? with
  | some (some d) => bindS (fe ρ m) ρ fun y m => bindS (f d y m) ρ fun z m => .nx (ρ.set i (some z)) m
  | _ => .no := rfl
@[simp] theorem sSetIx_e (fo fi fv : ME) (ρ : En) (m : Me) : sSetIx fo fi fv ρ m = bindS (fv ρ m) ρ fun y m => bindS (fo ρ m) ρ fun d m => bindS (fi ρ m) ρ fun k m => match d, k with
  | .ref i, .int k => match m[i]? with
    | some (.lst xs) => match ixN xs.length k with
      | some j => .nx ρ (m.set i (.lst (xs.set j y)))
      | none => .no
    | _ => .no
  | _, _ => .no := rfl
@[simp] theorem mAppend_e (fo fe : ME) (ρ : En) (m : Me) : mAppend fo fe ρ m = (fo ρ m).bind fun d m => match d with
  | .ref i => match m[i]? with
    | some (.lst _) => (fe ρ m).bind fun y m => match m[i]? with
      | some (.lst xs) => if xs.length < 1000000 then .ok .non (m.set i (.lst (xs ++ [y]))) else .no
      | _ => .no
    | _ => .no
  | _ => .no := rfl
@[simp] theorem mExtend_e (fo fe : ME) (ρ : En) (m : Me) : mExtend fo fe ρ m = (fo ρ m).bind fun d m => match d with
  | .ref i => match m[i]? with
    | some (.lst _) => (fe ρ m).bind fun y m => match m[i]?, lstV m y with
      | some (.lst xs), some ys => if xs.length + ys.length < 1000000 then .ok .non (m.set i (.lst (xs ++ ys))) else .no
      | _, _ => .no
    | _ => .no
  | _ => .no := rfl
@[simp] theorem iSeq_e (f : ME) (ρ : En) (m : Me) : iSeq f ρ m = (f ρ m).bind asIt := rfl
@[simp] theorem asIt_tup (ds : List D) (m : Me) : asIt (.tup ds) m = .ok (ds, gdY) m := rfl
@[simp] theorem asIt_lst (ds : List D) (m : Me) : asIt (.lst ds) m = .ok (ds, gdY) m := rfl
@[simp] theorem iRange1_e (f : MA) (ρ : En) (m : Me) : iRange1 f ρ m = (f ρ m).bind fun ds m => match ds with
  | [.int j] => if j ≤ 1000000 ∧ -1000000 ≤ j then .ok (rngL 0 j.toNat, gdY) m else .no
  | _ => .no := rfl
@[simp] theorem iRange2_e (f : MA) (ρ : En) (m : Me) : iRange2 f ρ m = (f ρ m).bind fun ds m => match ds with
  | [.int i, .int j] => if (j ≤ 1000000 ∧ -1000000 ≤ j) ∧ i ≤ 1000000 ∧ -1000000 ≤ i then .ok (rngL i (j - i).toNat, gdY) m else .no
  | _ => .no := rfl
@[simp] theorem mComp_e (it : MI) (vs : List Nat) (gt : D → En → Option En) (c : MT) (e : ME) (ρ : En) (m : Me) : mComp it vs gt c e ρ m = (it ρ m).bind fun p m => (noX (compF gt c e p.2 (wipeD ρ vs) p.1 m)).bind fun ys m => .ok (.lst ys) m := rfl
@[simp] theorem mDisp_e (f : En → Me → Res (List (Key × D))) (ρ : En) (m : Me) : mDisp f ρ m = (f ρ m).bind fun kvs m => if kvs.length ≤ 15 then .ok (.ref m.length) (m ++ [.dK (kvs.foldl (fun acc kv => setK acc kv.1 kv.2) [])]) else .no := rfl
@[simp] theorem pNil_e (ρ : En) (m : Me) : pNil ρ m = .ok [] m := rfl
@[simp] theorem pCons_e (fk fv : ME) (fr : En → Me → Res (List (Key × D))) (ρ : En) (m : Me) : pCons fk fv fr ρ m = (fk ρ m).bind fun k m => match keyD k with
  | none => .no
  | some k => (fv ρ m).bind fun v m => (fr ρ m).bind fun r m => .ok ((k, v) :: r) m := rfl
@[simp] theorem gdY_e (m : Me) : gdY m = true := rfl
@[simp] theorem cYes_e (ρ : En) (m : Me) : cYes ρ m = .ok true m := rfl
@[simp] theorem tgN_e (i : Nat) (d : D) (ρ : En) : tgN i d ρ = some (ρ.set i (some d)) := rfl
@[simp] theorem tgNil_e (ρ : En) : tgNil [] ρ = some ρ := rfl
@[simp] theorem tgCons_e (g : D → En → Option En) (gs : List D → En → Option En) (d : D) (r : List D) (ρ : En) : tgCons g gs (d :: r) ρ = (g d ρ).bind (gs r) := rfl
@[simp] theorem tgTup_e (n : Nat) (gs : List D → En → Option En) (ds : List D) (ρ : En) : tgTup n gs (.tup ds) ρ = if ds.length = n then gs ds ρ else none := rfl
@[simp] theorem wipeD_nil (ρ : En) : wipeD ρ [] = ρ := rfl
@[simp] theorem wipeD_cons (ρ : En) (v : Nat) (vs : List Nat) : wipeD ρ (v :: vs) = (wipeD ρ vs).set v none := rfl
@[simp] theorem view_non (m : Me) : view m .non = .non := rfl
@[simp] theorem view_bl (m : Me) (b : Bool) : view m (.bl b) = .bl b := rfl
@[simp] theorem view_int' (m : Me) (i : Int) : view m (.int i) = .int i := rfl
@[simp] theorem view_str' (m : Me) (i : Str) : view m (.str i) = .str i := rfl
@[simp] theorem view_tup' (m : Me) (i : List D) : view m (.tup i) = .tup i := rfl
@[simp] theorem view_lst' (m : Me) (i : List D) : view m (.lst i) = .lst i := rfl
@[simp] theorem view_dct' (m : Me) (i : List (Key × D)) : view m (.dct i) = .dct i := rfl
@[simp] theorem view_scr' (m : Me) (i : List Int) : view m (.scr i) = .scr i := rfl
theorem view_ref_lst {m : Me} {i : Nat} {xs : List D} (h : m[i]? = some (.lst xs)) : view m (.ref i) = .lst xs := by simp [view, h]
theorem view_ref_dK {m : Me} {i : Nat} {xs : List (Key × D)} (h : m[i]? = some (.dK xs)) : view m (.ref i) = .dct xs := by simp [view, h]
/-! numbers -/
@[simp] theorem gAdd_int (i j : Int) (m : Me) : gAdd (.int i) (.int j) m = .ok (.int (i + j)) m := rfl
@[simp] theorem gSub_int (i j : Int) (m : Me) : gSub (.int i) (.int j) m = .ok (.int (i - j)) m := by simp [gSub, gII]
theorem gMul_int {i j : Int} {m : Me} (h : (-(2 ^ 64) < i ∧ i < 2 ^ 64) ∨ (-(2 ^ 64) < j ∧ j < 2 ^ 64)) : gMul (.int i) (.int j) m = .ok (.int (i * j)) m := by simp only [gMul, gII]; rw [if_pos h]
theorem gMod_int {i j : Int} {m : Me} (h : 0 < j) : gMod (.int i) (.int j) m = .ok (.int (i % j)) m := by simp only [gMod, gII]; rw [if_pos h]
theorem gDiv_int {i j : Int} {m : Me} (h : 0 < j ∧ j.natAbs < 2 ^ 200) : gDiv (.int i) (.int j) m = .ok (.int (i / j)) m := by simp only [gDiv, gII]; rw [if_pos h]
@[simp] theorem gLt_int (i j : Int) (m : Me) : gLt (.int i) (.int j) m = .ok (.bl (decide (i < j))) m := by simp [gLt, gII]
@[simp] theorem gLe_int (i j : Int) (m : Me) : gLe (.int i) (.int j) m = .ok (.bl (decide (i ≤ j))) m := by simp [gLe, gII]
@[simp] theorem gGt_int (i j : Int) (m : Me) : gGt (.int i) (.int j) m = .ok (.bl (decide (j < i))) m := by simp [gGt, gII]
@[simp] theorem gGe_int (i j : Int) (m : Me) : gGe (.int i) (.int j) m = .ok (.bl (decide (j ≤ i))) m := by simp [gGe, gII]
@[simp] theorem gNeg_int (i : Int) (m : Me) : gNeg (.int i) m = .ok (.int (-i)) m := rfl
@[simp] theorem gIAdd_int (i j : Int) (m : Me) : gIAdd (.int i) (.int j) m = .ok (.int (i + j)) m := rfl
@[simp] theorem gInt_int (i : Int) (m : Me) : gInt [.int i] m = .ok (.int i) m := rfl
@[simp] theorem gAbs_int (i : Int) (m : Me) : gAbs [.int i] m = .ok (.int (if i < 0 then -i else i)) m := rfl
@[simp] theorem gMax2_int (i j : Int) (m : Me) : gMax2 [.int i, .int j] m = .ok (.int (if j > i then j else i)) m := rfl
@[simp] theorem gIsN_e (d : D) (m : Me) : gIsN d .non m = .ok (.bl (isN d)) m := rfl
@[simp] theorem gNotN_e (d : D) (m : Me) : gNotN d .non m = .ok (.bl (!isN d)) m := rfl
@[simp] theorem gLen_tup (xs : List D) (m : Me) : gLen [.tup xs] m = .ok (.int xs.length) m := rfl
@[simp] theorem gLen_lst (xs : List D) (m : Me) : gLen [.lst xs] m = .ok (.int xs.length) m := rfl
@[simp] theorem gLen_scr (xs : List Int) (m : Me) : gLen [.scr xs] m = .ok (.int xs.length) m := rfl
@[simp] theorem gTuple_tup (xs : List D) (m : Me) : gTuple [.tup xs] m = .ok (.tup xs) m := rfl
@[simp] theorem gTuple_lst (xs : List D) (m : Me) : gTuple [.lst xs] m = .ok (.tup xs) m := rfl
/-- equality of texts -/
theorem gEq_str (a b : Str) (m : Me) (ha : PyData.strOk a = true) (hb : PyData.strOk b = true) : gEq (.str a) (.str b) m = .ok (.bl (a == b)) m := by
  have sh : ∀ {x : Str}, PyData.strOk x = true → SeqAt.shaped (.str x) = true := fun h => by
    unfold SeqAt.shaped; simp only [PyData.canLay0, h, PyData.depth]; rfl
  simp only [gEq, view_str', py, eqRes]
  rw [if_pos ⟨sh ha, sh hb⟩]
  simp [PyData.eqv]
theorem gNe_str (a b : Str) (m : Me) (ha : PyData.strOk a = true) (hb : PyData.strOk b = true) : gNe (.str a) (.str b) m = .ok (.bl (!(a == b))) m := by
  have sh : ∀ {x : Str}, PyData.strOk x = true → SeqAt.shaped (.str x) = true := fun h => by
    unfold SeqAt.shaped; simp only [PyData.canLay0, h, PyData.depth]; rfl
  simp only [gNe, view_str', py, eqRes]
  rw [if_pos ⟨sh ha, sh hb⟩]
  simp [PyData.eqv]
@[simp] theorem gEq_int (a b : Int) (m : Me) : gEq (.int a) (.int b) m = .ok (.bl (a == b)) m := by
  have sh : ∀ {x : Int}, SeqAt.shaped (.int x) = true := by intro x; unfold SeqAt.shaped; simp [PyData.canLay0, PyData.depth]
  simp only [gEq, view_int', py, eqRes]
  rw [if_pos ⟨sh, sh⟩]
  simp [PyData.eqv]
@[simp] theorem gNe_int (a b : Int) (m : Me) : gNe (.int a) (.int b) m = .ok (.bl (!(a == b))) m := by
  have sh : ∀ {x : Int}, SeqAt.shaped (.int x) = true := by intro x; unfold SeqAt.shaped; simp [PyData.canLay0, PyData.depth]
  simp only [gNe, view_int', py, eqRes]
  rw [if_pos ⟨sh, sh⟩]
  simp [PyData.eqv]

/-! ### loops -/
theorem forF_rule {gt : D → En → Option En} {body : MS} {gd : Me → Bool} {P : Fl → Prop} (Inv : List D → En → Me → Prop)
    (step : ∀ d r ρ m, Inv (d :: r) ρ m → gd m = true ∧ ∃ ρ1, gt d ρ = some ρ1 ∧ match body ρ1 m with
      | .nx ρ2 m2 => Inv r ρ2 m2
      | .ct ρ2 m2 => Inv r ρ2 m2
      | .bk ρ2 m2 => P (.nx ρ2 m2)
      | .rt d m => P (.rt d m)
      | .exc x ρ m => P (.exc x ρ m)
      | .no => False)
    (done : ∀ ρ m, Inv [] ρ m → gd m = true ∧ P (.nx ρ m)) : ∀ (ds : List D) (ρ : En) (m : Me), Inv ds ρ m → P (forF gt body gd ds ρ m) := by
  intro ds
  induction ds with
  | nil =>
    intro ρ m h
    obtain ⟨h1, h2⟩ := done ρ m h
    unfold forF; rw [if_pos h1]; exact h2
  | cons d r ih =>
    intro ρ m h
    obtain ⟨h1, ρ1, h2, h3⟩ := step d r ρ m h
    unfold forF; rw [if_pos h1]; simp only [h2]
    cases e : body ρ1 m with
    | no => rw [e] at h3; exact h3.elim
    | exc x ρ m => rw [e] at h3; exact h3
    | nx ρ2 m2 => rw [e] at h3; exact ih ρ2 m2 h3
    | ct ρ2 m2 => rw [e] at h3; exact ih ρ2 m2 h3
    | bk ρ2 m2 => rw [e] at h3; exact h3
    | rt d m => rw [e] at h3; exact h3
/-- a comprehension whose parts leave the store as it is -/
theorem compF_pure {gt : D → En → Option En} {c : MT} {e : ME} {ρ : En} {m : Me} (p : D → Bool) (f : D → D) : ∀ (ds : List D), (∀ d ∈ ds, ∃ ρ1, gt d ρ = some ρ1 ∧ c ρ1 m = .ok (p d) m ∧ (p d = true → e ρ1 m = .ok (f d) m)) →
    compF gt c e gdY ρ ds m = .ok ((ds.filter p).map f) m := by
  intro ds
  induction ds with
  | nil => intro _; rfl
  | cons d r ih =>
    intro h
    obtain ⟨ρ1, h1, h2, h3⟩ := h d List.mem_cons_self
    have ih' := ih fun x hx => h x (List.mem_cons_of_mem _ hx)
    unfold compF
    simp only [gdY_e, if_true, h1, h2, noX_ok, Res.bind_ok]
    cases hp : p d with
    | false => simp [hp, ih']
    | true => simp [hp, ih', h3 hp]
/-- the store with one more thing -/
@[simp] theorem get_last (m : Me) (c : Cell) : (m ++ [c])[m.length]? = some c := by simp
@[simp] theorem set_last (m : Me) (c c' : Cell) : (m ++ [c]).set m.length c' = m ++ [c'] := by simp
theorem get_old {m : Me} {c x : Cell} {i : Nat} (h : m[i]? = some x) : (m ++ [c])[i]? = some x := by
  rw [List.getElem?_append_left (List.getElem?_eq_some_iff.mp h).1]; exact h
/-- what a def hands back where no thing of its own is left -/
theorem leave_same {m m' : Me} {d : D} (h : m'.length = m.length) : leave m d m' = .ok d m' := by unfold leave; rw [if_pos h]
/-- .. where one of its own is left, the rest as it was -/
theorem leave_one {m : Me} {c : Cell} {d d' : D} (h : thaw m.length (m ++ [c]) d = some d') : leave m d (m ++ [c]) = .ok d' m := by
  unfold leave
  rw [if_neg (by simp), h]
  have e : (m ++ [c]).take m.length = m := by simp
  simp only
  rw [if_pos (.inl e), e]

/-! ### the draws -/
def WS (draws : List Int) (k : Int) : Cell := .dK [(.inr "draws", .lst (draws.map .int)), (.inr "at", .int k)]
noncomputable def bNext (f : Nat → List D → Me → Res D) : MS :=
  (sSeq (sDaug (mVar 0) (mC (.str ("at" : Str))) (mC (.int 1))) (sSeq (sIf (mB (m2 gGt (m2 gDget (mVar 0) (mC (.str ("at" : Str)))) (mArgs gLen (mCons (m2 gDget (mVar 0) (mC (.str ("draws" : Str)))) mNil)))) (sSeq (sRet (mC (.int 0))) sNext) sNext) (sSeq (sRet (m2 gMod (mArgs gInt (mCons (m2 gIx (m2 gDget (mVar 0) (mC (.str ("draws" : Str)))) (m2 gSub (m2 gDget (mVar 0) (mC (.str ("at" : Str)))) (mC (.int 1)))) mNil)) (mVar 1))) sNext)))
theorem look_at {m : Me} {i : Nat} {ds : List Int} {k : Int} (h : m[i]? = some (WS ds k)) : look m (.ref i) (.str "at") = some (some (.int k)) := by
  unfold look; rw [view_ref_dK h]; rfl
theorem look_draws {m : Me} {i : Nat} {ds : List Int} {k : Int} (h : m[i]? = some (WS ds k)) : look m (.ref i) (.str "draws") = some (some (.lst (ds.map .int))) := by
  unfold look; rw [view_ref_dK h]; rfl
theorem next_ok (f : Nat → List D → Me → Res D) {m : Me} {i : Nat} {ds : List Int} {k n : Int} (h : m[i]? = some (WS ds k)) (hk : 0 ≤ k) (hn : 0 < n) :
    ∃ v : Int, 0 ≤ v ∧ v < n ∧ runDef 2 2 (bNext f) [.ref i, .int n] m = .ok (.int v) (m.set i (WS ds (k + 1))) := by
  have hi : i < m.length := (List.getElem?_eq_some_iff.mp h).1
  have hp : dput m (.ref i) (.str "at") (.int (k + 1)) = some (m.set i (WS ds (k + 1))) := by
    unfold dput; simp only [keyD, h]; rfl
  have h' : (m.set i (WS ds (k + 1)))[i]? = some (WS ds (k + 1)) := List.getElem?_set_self hi
  have hl : (m.set i (WS ds (k + 1))).length = m.length := List.length_set ..
  by_cases hc : (ds.length : Int) < k + 1
  · exact ⟨0, Int.le_refl _, hn, by simp [runDef, bNext, look_at h, hp, gDget, look_at h', look_draws h', hc, leave_same hl]⟩
  · have hlt : k.toNat < ds.length := by omega
    have e1 : atI (ds.map D.int) (k + 1 - 1) = some (.int (ds[k.toNat])) := by
      have : k + 1 - 1 = ((k.toNat : Nat) : Int) := by omega
      rw [this]
      exact atI_nat (by rw [List.getElem?_map, List.getElem?_eq_getElem hlt]; rfl)
    rw [show k + 1 - 1 = k by omega] at e1
    exact ⟨ds[k.toNat] % n, Int.emod_nonneg _ (by omega), Int.emod_lt_of_pos _ hn, by simp [runDef, bNext, look_at h, hp, gDget, look_at h', look_draws h', hc, leave_same hl, gIx, e1, gMod_int hn]⟩
def bPick (j : Nat) (f : Nat → List D → Me → Res D) : MS :=
  (sSeq (sRet (m2 gIx (mVar 1) (mCall (f j) (mCons (mVar 0) (mCons (mArgs gLen (mCons (mVar 1) mNil)) mNil))))) sNext)
theorem pick_ok {f : Nat → List D → Me → Res D} {j : Nat} {N : List D → Me → Res D} (hf : f j = N) (hN : ∀ {m : Me} {i : Nat} {ds : List Int} {k n : Int}, m[i]? = some (WS ds k) → 0 ≤ k → 0 < n → ∃ v : Int, 0 ≤ v ∧ v < n ∧ N [.ref i, .int n] m = .ok (.int v) (m.set i (WS ds (k + 1))))
    {m : Me} {i : Nat} {ds : List Int} {k : Int} (h : m[i]? = some (WS ds k)) (hk : 0 ≤ k) {xs : List D} (hx : xs ≠ []) :
    ∃ x ∈ xs, runDef 2 2 (bPick j f) [.ref i, .lst xs] m = .ok x (m.set i (WS ds (k + 1))) := by
  have hpos : 0 < xs.length := List.length_pos_iff.mpr hx
  obtain ⟨v, h0, h1, e⟩ := hN (n := (xs.length : Int)) h hk (by omega)
  have hl : (m.set i (WS ds (k + 1))).length = m.length := List.length_set ..
  have hv : v.toNat < xs.length := by omega
  have e1 : atI xs v = some xs[v.toNat] := by
    have q : atI xs ((v.toNat : Nat) : Int) = some xs[v.toNat] := atI_nat (List.getElem?_eq_getElem hv)
    rwa [show ((v.toNat : Nat) : Int) = v by omega] at q
  refine ⟨xs[v.toNat], List.getElem_mem hv, ?_⟩
  simp [runDef, bPick, hf, e, gIx, e1, leave_same hl]
end FL

set_option maxRecDepth 100000
namespace FL
open PySem PySem.Spec PyProof.Rows L2

/-- a loop that is never left -/
theorem forF_nx {gt : D → En → Option En} {body : MS} (Inv : List D → En → Me → Prop)
    (step : ∀ d r ρ m, Inv (d :: r) ρ m → ∃ ρ1 ρ2 m2, gt d ρ = some ρ1 ∧ (body ρ1 m = .nx ρ2 m2 ∨ body ρ1 m = .ct ρ2 m2) ∧ Inv r ρ2 m2) :
    ∀ (ds : List D) (ρ : En) (m : Me), Inv ds ρ m → ∃ ρ' m', forF gt body gdY ds ρ m = .nx ρ' m' ∧ Inv [] ρ' m' := by
  intro ds
  induction ds with
  | nil => intro ρ m h; exact ⟨ρ, m, rfl, h⟩
  | cons d r ih =>
    intro ρ m h
    obtain ⟨ρ1, ρ2, m2, h1, h2, h3⟩ := step d r ρ m h
    obtain ⟨ρ', m', h4, h5⟩ := ih ρ2 m2 h3
    refine ⟨ρ', m', ?_, h5⟩
    unfold forF
    simp only [gdY_e, if_true, h1]
    rcases h2 with h2 | h2 <;> (rw [h2]; exact h4)
/-- ints of a range -/
def Ints (ds : List D) : Prop := ∀ d ∈ ds, ∃ i : Int, d = .int i
theorem rng_mem {i : Int} {n : Nat} {d : D} (h : d ∈ rngL i n) : ∃ k : Nat, k < n ∧ d = .int (i + k) := by
  obtain ⟨k, hk, rfl⟩ := List.mem_map.mp h
  exact ⟨k, List.mem_range.mp hk, rfl⟩
theorem rng_length {i : Int} {n : Nat} : (rngL i n).length = n := by simp [rngL]

noncomputable def dIn : MS :=
  (sSeq (sIf (mB (m2 gGt (mVar 6) (mC (.int 0)))) (sSeq (sDo (mAppend (mVar 2) (m2 gMod (mArgs gInt (mCons (mVar 6) mNil)) (mC (.int 997))))) (sSeq (sSet 6 (m2 gDiv (mVar 6) (mC (.int 997)))) sNext)) sNext) sNext)
noncomputable def dB1 : MS :=
  (sSeq (sSet 5 (mArgs gAbs (mCons (mArgs gInt (mCons (m2 gIx (mVar 0) (mVar 4)) mNil)) mNil))) (sSeq (sSet 3 (m2 gMod (mArgs gInt (mCons (m2 gAdd (m2 gAdd (m2 gMul (mVar 3) (mC (.int 48271))) (m2 gMod (mVar 5) (mC (.int 1000003)))) (mVar 4)) mNil)) (mC (.int 65537)))) (sSeq (sSet 6 (mC (.int 0))) (sSeq (sIf (mB (m2 gGe (mVar 5) (m2 gPow (mC (.int 10)) (mC (.int 18))))) (sSeq (sSet 6 (mVar 5)) sNext) (sSeq (sDo (mAppend (mVar 2) (m2 gMod (mArgs gInt (mCons (mVar 5) mNil)) (mC (.int 997))))) (sSeq (sDo (mAppend (mVar 2) (m2 gMod (m2 gMod (mArgs gInt (mCons (m2 gAdd (m2 gMul (mVar 3) (mC (.int 69621))) (mC (.int 5))) mNil)) (mC (.int 65521))) (mC (.int 997))))) sNext))) (sSeq (sFor (iRange1 (mCons (mC (.int 60)) mNil)) (tgN 7) dIn) sNext)))))
noncomputable def dB2 : MS :=
  (sSeq (sSet 3 (m2 gMod (mArgs gInt (mCons (m2 gAdd (m2 gAdd (m2 gMul (mVar 3) (mC (.int 16807))) (mVar 4)) (mC (.int 1))) mNil)) (mC (.int 65537)))) (sSeq (sDo (mAppend (mVar 2) (m2 gMod (mArgs gInt (mCons (mVar 3) mNil)) (mC (.int 997))))) sNext))
noncomputable def bDraws (f : Nat → List D → Me → Res D) : MS :=
  (sSeq (sSet 2 (mNew mNil)) (sSeq (sSet 3 (mC (.int 7))) (sSeq (sFor (iRange1 (mCons (mArgs gLen (mCons (mVar 0) mNil)) mNil)) (tgN 4) dB1) (sSeq (sFor (iRange1 (mCons (mVar 1) mNil)) (tgN 4) dB2) (sSeq (sRet (mSl (mVar 2) mNo (mOpt (mVar 1)))) sNext)))))
theorem gPow_18 (m : Me) : gPow (.int 10) (.int 18) m = .ok (.int 1000000000000000000) m := by
  simp only [gPow, gII]
  rw [if_pos ⟨by decide, by decide, by decide⟩]
  have : (10 : Int) ^ (18 : Int).toNat = 1000000000000000000 := by decide
  rw [this]
/-- the names of _law_draws -/
def ρD (ns : List Int) (many : Int) (j : Nat) (mixed : Int) (x4 x5 x6 x7 : Option D) : En := [some (.scr ns), some (.int many), some (.ref j), some (.int mixed), x4, x5, x6, x7]
def DI (ns : List Int) (many mixed : Int) (m : Me) (x4 x5 : Option D) (B : Nat) (ds : List D) (ρ : En) (m' : Me) : Prop :=
  ∃ (r : Int) (x7 : Option D) (acc : List Int), Ints ds ∧ acc.length + ds.length ≤ B ∧ ρ = ρD ns many m.length mixed x4 x5 (some (.int r)) x7 ∧ m' = m ++ [.lst (acc.map .int)]
def D1 (ns : List Int) (many : Int) (m : Me) (ds : List D) (ρ : En) (m' : Me) : Prop :=
  ∃ (mixed : Int) (x4 x5 x6 x7 : Option D) (acc : List Int), (∀ d ∈ ds, ∃ k : Nat, k < ns.length ∧ d = .int k) ∧ acc.length + 62 * ds.length ≤ 62 * 63 ∧ 0 ≤ mixed ∧ mixed < 65537 ∧ ρ = ρD ns many m.length mixed x4 x5 x6 x7 ∧ m' = m ++ [.lst (acc.map .int)]
def D2 (ns : List Int) (many : Int) (m : Me) (x5 x6 x7 : Option D) (ds : List D) (ρ : En) (m' : Me) : Prop :=
  ∃ (mixed : Int) (x4 : Option D) (acc : List Int), Ints ds ∧ acc.length + ds.length ≤ 62 * 63 + 10000 ∧ 0 ≤ mixed ∧ mixed < 65537 ∧ ρ = ρD ns many m.length mixed x4 x5 x6 x7 ∧ m' = m ++ [.lst (acc.map .int)]
abbrev Step (gt : D → En → Option En) (body : MS) (Inv : List D → En → Me → Prop) : Prop :=
  ∀ d r ρ m, Inv (d :: r) ρ m → ∃ ρ1 ρ2 m2, gt d ρ = some ρ1 ∧ (body ρ1 m = .nx ρ2 m2 ∨ body ρ1 m = .ct ρ2 m2) ∧ Inv r ρ2 m2
theorem stepI {ns : List Int} {many mixed : Int} {m : Me} {x4 x5 : Option D} {B : Nat} (hB : B ≤ 100000) : Step (tgN 7) dIn (DI ns many mixed m x4 x5 B) := by
  rintro d rest ρ m' ⟨r, x7, acc, hi, hl, rfl, rfl⟩
  have hi' : Ints rest := fun x hx => hi x (List.mem_cons_of_mem _ hx)
  simp only [List.length_cons] at hl
  by_cases hr : 0 < r
  · refine ⟨_, _, _, rfl, .inl ?_, r / 997, some d, acc ++ [r % 997], hi', by simp; omega, rfl, rfl⟩
    simp [dIn, ρD, hr, gMod_int (show (0 : Int) < 997 by decide), gDiv_int (show (0 : Int) < 997 ∧ (997 : Int).natAbs < 2 ^ 200 by decide), show acc.length < 1000000 by omega]
  · refine ⟨_, _, _, rfl, .inl ?_, r, some d, acc, hi', by omega, rfl, rfl⟩
    simp [dIn, ρD, hr]
theorem step2 {ns : List Int} {many : Int} {m : Me} {x5 x6 x7 : Option D} : Step (tgN 4) dB2 (D2 ns many m x5 x6 x7) := by
  rintro d rest ρ m' ⟨mixed, x4, acc, hi, hl, ha, hb, rfl, rfl⟩
  obtain ⟨i, rfl⟩ := hi d List.mem_cons_self
  have hi' : Ints rest := fun x hx => hi x (List.mem_cons_of_mem _ hx)
  simp only [List.length_cons] at hl
  refine ⟨_, _, _, rfl, .inl ?_, (mixed * 16807 + i + 1) % 65537, some (.int i), acc ++ [(mixed * 16807 + i + 1) % 65537 % 997], hi', by simp; omega, by omega, by omega, rfl, rfl⟩
  simp [dB2, ρD, gMod_int (show (0 : Int) < 997 by decide), gMod_int (show (0 : Int) < 65537 by decide), gMul_int (i := mixed) (j := 16807) (.inl ⟨by omega, by omega⟩), show acc.length < 1000000 by omega]
theorem step1 {ns : List Int} {many : Int} {m : Me} : Step (tgN 4) dB1 (D1 ns many m) := by
  rintro d rest ρ m' ⟨mixed, x4, x5, x6, x7, acc, hi, hl, ha, hb, rfl, rfl⟩
  obtain ⟨k, hk, rfl⟩ := hi d List.mem_cons_self
  have hi' : ∀ d ∈ rest, ∃ k : Nat, k < ns.length ∧ d = .int k := fun x hx => hi x (List.mem_cons_of_mem _ hx)
  simp only [List.length_cons] at hl
  have hat : atI ns (k : Int) = some ns[k] := atI_nat (List.getElem?_eq_getElem hk)
  obtain ⟨c, hc⟩ : ∃ c : Int, c = if ns[k] < 0 then -ns[k] else ns[k] := ⟨_, rfl⟩
  obtain ⟨mx, hmx⟩ : ∃ x : Int, x = (mixed * 48271 + c % 1000003 + k) % 65537 := ⟨_, rfl⟩
  have g60 : (60 : Int) ≤ 1000000 ∧ (-1000000 : Int) ≤ 60 := by decide
  have g48 := gMul_int (i := mixed) (j := 48271) (m := m ++ [.lst (acc.map .int)]) (.inl ⟨by omega, by omega⟩)
  have g69 : ∀ m, gMul (.int mx) (.int 69621) m = .ok (.int (mx * 69621)) m := fun m => gMul_int (.inl ⟨by omega, by omega⟩)
  have mm : ∀ (a : Int) m, gMod (.int a) (.int 65537) m = .ok (.int (a % 65537)) m := fun a m => gMod_int (by decide)
  have mn : ∀ (a : Int) m, gMod (.int a) (.int 997) m = .ok (.int (a % 997)) m := fun a m => gMod_int (by decide)
  have mo : ∀ (a : Int) m, gMod (.int a) (.int 65521) m = .ok (.int (a % 65521)) m := fun a m => gMod_int (by decide)
  have mi : ∀ (a : Int) m, gMod (.int a) (.int 1000003) m = .ok (.int (a % 1000003)) m := fun a m => gMod_int (by decide)
  have ri : Ints (rngL 0 60) := fun d hd => by obtain ⟨k, hk, rfl⟩ := rng_mem hd; exact ⟨_, rfl⟩
  by_cases hbig : 1000000000000000000 ≤ c
  · obtain ⟨ρ', m2, f1, r, x7', acc', _, hz, f2, f3⟩ := forF_nx _ (stepI (ns := ns) (many := many) (mixed := mx) (m := m) (x4 := some (.int k)) (x5 := some (.int c)) (B := acc.length + 60) (by omega)) (rngL 0 60) (ρD ns many m.length mx (some (.int k)) (some (.int c)) (some (.int c)) x7) (m ++ [.lst (acc.map .int)])
      ⟨c, x7, acc, ri, by rw [rng_length]; omega, rfl, rfl⟩
    simp only [List.length_nil, Nat.add_zero] at hz
    refine ⟨_, ρ', m2, rfl, .inl ?_, mx, _, _, _, _, acc', hi', by omega, by omega, by omega, f2, f3⟩
    simp only [ρD] at f1
    simp [dB1, ρD, gIx, hat, g48, ← hc, mi, mm, ← hmx, gPow_18, hbig, g60, f1]
  · obtain ⟨ρ', m2, f1, r, x7', acc', _, hz, f2, f3⟩ := forF_nx _ (stepI (ns := ns) (many := many) (mixed := mx) (m := m) (x4 := some (.int k)) (x5 := some (.int c)) (B := acc.length + 62) (by omega)) (rngL 0 60) (ρD ns many m.length mx (some (.int k)) (some (.int c)) (some (.int 0)) x7) (m ++ [.lst ((acc ++ [c % 997, (mx * 69621 + 5) % 65521 % 997]).map .int)])
      ⟨0, x7, acc ++ [c % 997, (mx * 69621 + 5) % 65521 % 997], ri, by rw [rng_length]; simp, rfl, rfl⟩
    simp only [List.length_nil, Nat.add_zero] at hz
    refine ⟨_, ρ', m2, rfl, .inl ?_, mx, _, _, _, _, acc', hi', by omega, by omega, by omega, f2, f3⟩
    simp only [ρD, List.map_append, List.map_cons, List.map_nil] at f1
    simp [dB1, ρD, gIx, hat, g48, ← hc, mi, mm, mn, mo, ← hmx, gPow_18, hbig, g60, g69, f1, show acc.length < 1000000 by omega, show acc.length + 1 < 1000000 by omega]
theorem thaw_ints (n : Nat) (m : Me) : ∀ l : List Int, thawL n m (l.map D.int) = some (l.map D.int)
  | [] => rfl
  | a :: l => by simp [thawL, thaw, thaw_ints n m l]
theorem draws_ok (f : Nat → List D → Me → Res D) {ns : List Int} (hn : ns.length ≤ 63) {many : Int} (h0 : 0 ≤ many) (h1 : many ≤ 10000) (m : Me) :
    ∃ ds : List Int, runDef 8 2 (bDraws f) [.scr ns, .int many] m = .ok (.lst (ds.map .int)) m := by
  obtain ⟨ρ1, m1, e1, mixed1, x4, x5, x6, x7, acc1, _, hl1, ha1, hb1, rfl, rfl⟩ := forF_nx _ (step1 (ns := ns) (many := many) (m := m)) (rngL 0 ns.length) (ρD ns many m.length 7 none none none none) (m ++ [.lst []])
    ⟨7, none, none, none, none, [], fun d hd => by obtain ⟨k, hk, rfl⟩ := rng_mem hd; exact ⟨k, hk, by simp⟩, by rw [rng_length]; simp; omega, by decide, by decide, rfl, rfl⟩
  obtain ⟨ρ2, m2, e2, mixed2, y4, acc2, _, hl2, ha2, hb2, rfl, rfl⟩ := forF_nx _ (step2 (ns := ns) (many := many) (m := m) (x5 := x5) (x6 := x6) (x7 := x7)) (rngL 0 many.toNat) _ _
    ⟨mixed1, x4, acc1, fun d hd => by obtain ⟨k, hk, rfl⟩ := rng_mem hd; exact ⟨_, rfl⟩, by rw [rng_length]; simp at hl1; omega, ha1, hb1, rfl, rfl⟩
  refine ⟨cutD acc2 none (some many), ?_⟩
  have g1 : (ns.length : Int) ≤ 1000000 ∧ (-1000000 : Int) ≤ (ns.length : Int) := by omega
  have g2 : many ≤ 1000000 ∧ -1000000 ≤ many := by omega
  have hcut : cutD (acc2.map D.int) none (some many) = (cutD acc2 none (some many)).map D.int := by simp [cutD, List.map_take, List.map_drop]
  unfold runDef
  simp only [ρD] at e1 e2
  simp [bDraws, g1, g2, e1, e2, ρD, gSl, view_ref_lst (get_last _ _), hcut]
  refine leave_one ?_
  simp only [thaw, thaw_ints]; rfl
end FL

set_option maxRecDepth 100000
namespace FL
open PySem PySem.Spec PyProof.Rows L2

/-! ### what is wanted of a result; the wish is out of simp's reach (the result's type hangs on it) -/
abbrev Hid {α : Type} (_ : α) (β : Type) : Type := β
def RHas {α : Type} (Q : Res α → Prop) (r : Hid Q (Res α)) : Prop := match (r : Res α) with
  | .no => False
  | r => Q r
def FHas (Q : Fl → Prop) (r : Hid Q Fl) : Prop := match (r : Fl) with
  | .no => False
  | r => Q r
def kR {α β : Type} (f : α → Me → Res β) (Q : Res β → Prop) : Res α → Prop := fun
  | .ok a m => RHas Q (f a m)
  | .exc x m => Q (.exc x m)
  | .no => False
def kS {α : Type} (ρ : En) (f : α → Me → Fl) (Q : Fl → Prop) : Res α → Prop := fun
  | .ok a m => FHas Q (f a m)
  | .exc x m => Q (.exc x ρ m)
  | .no => False
def kF (g : MS) (Q : Fl → Prop) : Fl → Prop := fun
  | .nx ρ m => FHas Q (g ρ m)
  | .no => False
  | r => Q r
theorem RHas.mono {α : Type} {Q Q' : Res α → Prop} {r : Res α} (h : RHas Q r) (w : ∀ r, Q r → Q' r) : RHas Q' r := by
  cases r with
  | no => exact h
  | _ => exact w _ h
theorem FHas.mono {Q Q' : Fl → Prop} {r : Fl} (h : FHas Q r) (w : ∀ r, Q r → Q' r) : FHas Q' r := by
  cases r with
  | no => exact h
  | _ => exact w _ h
@[simp ↓, simp] theorem rhas_ok {α : Type} {Q : Res α → Prop} {a : α} {m : Me} : RHas Q (.ok a m) = Q (.ok a m) := rfl
@[simp ↓, simp] theorem rhas_bind {α β : Type} {Q : Res β → Prop} {r : Res α} {f : α → Me → Res β} : RHas Q (r.bind f) = RHas (kR f Q) r := by cases r <;> rfl
@[simp ↓, simp] theorem fhas_bindS {α : Type} {Q : Fl → Prop} {r : Res α} {ρ : En} {f : α → Me → Fl} : FHas Q (bindS r ρ f) = RHas (kS ρ f Q) r := by cases r <;> rfl
@[simp ↓, simp] theorem fhas_seq {Q : Fl → Prop} {f g : MS} {ρ : En} {m : Me} : FHas Q (sSeq f g ρ m) = FHas (kF g Q) (f ρ m) := by
  rw [sSeq_e]; cases f ρ m <;> rfl
@[simp ↓, simp] theorem fhas_nx {Q : Fl → Prop} {ρ : En} {m : Me} : FHas Q (.nx ρ m) = Q (.nx ρ m) := rfl
@[simp ↓, simp] theorem fhas_rt {Q : Fl → Prop} {d : D} {m : Me} : FHas Q (.rt d m) = Q (.rt d m) := rfl
@[simp ↓, simp] theorem fhas_bk {Q : Fl → Prop} {ρ : En} {m : Me} : FHas Q (.bk ρ m) = Q (.bk ρ m) := rfl
@[simp ↓, simp] theorem fhas_ct {Q : Fl → Prop} {ρ : En} {m : Me} : FHas Q (.ct ρ m) = Q (.ct ρ m) := rfl
@[simp ↓, simp] theorem fhas_exc {Q : Fl → Prop} {x : Exn} {ρ : En} {m : Me} : FHas Q (.exc x ρ m) = Q (.exc x ρ m) := rfl
@[simp ↓, simp] theorem rhas_exc {α : Type} {Q : Res α → Prop} {x : Exn} {m : Me} : RHas Q (.exc x m : Res α) = Q (.exc x m) := rfl
@[simp ↓, simp] theorem rhas_ite {α : Type} {Q : Res α → Prop} {c : Prop} [Decidable c] {r s : Res α} : RHas Q (if c then r else s) = if c then RHas Q r else RHas Q s := by split <;> rfl
@[simp ↓, simp] theorem fhas_ite {Q : Fl → Prop} {c : Prop} [Decidable c] {r s : Fl} : FHas Q (if c then r else s) = if c then FHas Q r else FHas Q s := by split <;> rfl
@[simp ↓, simp] theorem kR_ok {α β : Type} {f : α → Me → Res β} {Q : Res β → Prop} {a : α} {m : Me} : kR f Q (.ok a m) = RHas Q (f a m) := rfl
@[simp ↓, simp] theorem kR_exc {α β : Type} {f : α → Me → Res β} {Q : Res β → Prop} {x : Exn} {m : Me} : kR f Q (.exc x m) = Q (.exc x m) := rfl
@[simp ↓, simp] theorem kS_ok {α : Type} {ρ : En} {f : α → Me → Fl} {Q : Fl → Prop} {a : α} {m : Me} : kS ρ f Q (.ok a m) = FHas Q (f a m) := rfl
@[simp ↓, simp] theorem kS_exc {α : Type} {ρ : En} {f : α → Me → Fl} {Q : Fl → Prop} {x : Exn} {m : Me} : kS ρ f Q (.exc x m : Res α) = Q (.exc x ρ m) := rfl
@[simp ↓, simp] theorem kF_nx {g : MS} {Q : Fl → Prop} {ρ : En} {m : Me} : kF g Q (.nx ρ m) = FHas Q (g ρ m) := rfl
@[simp ↓, simp] theorem kF_rt {g : MS} {Q : Fl → Prop} {d : D} {m : Me} : kF g Q (.rt d m) = Q (.rt d m) := rfl
@[simp ↓, simp] theorem kF_bk {g : MS} {Q : Fl → Prop} {ρ : En} {m : Me} : kF g Q (.bk ρ m) = Q (.bk ρ m) := rfl
@[simp ↓, simp] theorem kF_ct {g : MS} {Q : Fl → Prop} {ρ : En} {m : Me} : kF g Q (.ct ρ m) = Q (.ct ρ m) := rfl
@[simp ↓, simp] theorem kF_exc {g : MS} {Q : Fl → Prop} {x : Exn} {ρ : En} {m : Me} : kF g Q (.exc x ρ m) = Q (.exc x ρ m) := rfl
/-- a def -/
def kD (m : Me) (Q : Res D → Prop) : Fl → Prop := fun
  | .rt d m' => RHas Q (leave m d m')
  | .nx _ m' => RHas Q (leave m .non m')
  | _ => False
@[simp ↓, simp] theorem kD_rt {m m' : Me} {Q : Res D → Prop} {d : D} : kD m Q (.rt d m') = RHas Q (leave m d m') := rfl
@[simp ↓, simp] theorem kD_nx {m m' : Me} {Q : Res D → Prop} {ρ : En} : kD m Q (.nx ρ m') = RHas Q (leave m .non m') := rfl
theorem has_def {Q : Res D → Prop} {N n : Nat} {f : MS} {ds : List D} {m : Me} (h : FHas (kD m Q) (f (ds.map some ++ List.replicate (N - n) none) m)) : RHas Q (runDef N n f ds m) := by
  unfold runDef
  cases e : f (ds.map some ++ List.replicate (N - n) none) m with
  | no => rw [e] at h; exact h
  | exc x ρ m => rw [e] at h; exact h
  | nx ρ m => rw [e] at h; exact h
  | rt d m => rw [e] at h; exact h
  | bk ρ m => rw [e] at h; exact h
  | ct ρ m => rw [e] at h; exact h
/-- .. its names written out -/
theorem has_def' {Q : Res D → Prop} {N n : Nat} {f : MS} {ds : List D} {m : Me} (ρ : En) (h : FHas (kD m Q) (f ρ m)) (e : ds.map some ++ List.replicate (N - n) none = ρ := by rfl) : RHas Q (runDef N n f ds m) := has_def (by rw [e]; exact h)
/-- what is computed just so -/
theorem has_eq {α : Type} {a : α} {m : Me} {r : Res α} (h : RHas (fun x => x = .ok a m) r) : r = .ok a m := by
  cases r with
  | no => exact h.elim
  | exc x m => exact h
  | ok a m => exact h
theorem eq_has {α : Type} {Q : Res α → Prop} {a : α} {m : Me} {r : Res α} (e : r = .ok a m) (h : Q (.ok a m)) : RHas Q r := by rw [e]; exact h
theorem feq_has {Q : Fl → Prop} {a : Fl} {r : Fl} (e : r = a) (h : FHas Q a) : FHas Q r := by rw [e]; exact h
theorem feq_of {a : Fl} {r : Fl} (h : FHas (fun x => x = a) r) : r = a := by
  cases r with
  | no => exact h.elim
  | _ => exact h
/-- it ends so -/
abbrev OkR {α : Type} (P : α → Me → Prop) : Res α → Prop := fun r => ∃ a m, r = .ok a m ∧ P a m
theorem RHas.ok {α : Type} {Q : Res α → Prop} {P : α → Me → Prop} {r : Res α} (h : RHas (OkR P) r) (w : ∀ a m, P a m → Q (.ok a m)) : RHas Q r := h.mono fun r ⟨a, m, e, p⟩ => by rw [e]; exact w a m p
theorem RHas.ex {α : Type} {P : α → Me → Prop} {r : Res α} (h : RHas (OkR P) r) : ∃ a m, r = .ok a m ∧ P a m := by
  cases r with
  | no => exact h.elim
  | exc x m => exact h
  | ok a m => exact h
/-! ### loops -/
def kL (I : En → Me → Prop) (Q : Fl → Prop) : Fl → Prop := fun
  | .nx ρ m => I ρ m
  | .ct ρ m => I ρ m
  | .bk ρ m => Q (.nx ρ m)
  | r => Q r
@[simp ↓, simp] theorem kL_nx {I : En → Me → Prop} {Q : Fl → Prop} {ρ : En} {m : Me} : kL I Q (.nx ρ m) = I ρ m := rfl
@[simp ↓, simp] theorem kL_ct {I : En → Me → Prop} {Q : Fl → Prop} {ρ : En} {m : Me} : kL I Q (.ct ρ m) = I ρ m := rfl
@[simp ↓, simp] theorem kL_bk {I : En → Me → Prop} {Q : Fl → Prop} {ρ : En} {m : Me} : kL I Q (.bk ρ m) = Q (.nx ρ m) := rfl
@[simp ↓, simp] theorem kL_rt {I : En → Me → Prop} {Q : Fl → Prop} {d : D} {m : Me} : kL I Q (.rt d m) = Q (.rt d m) := rfl
def kE (I : D → Me → Prop) : Res D → Prop := fun
  | .ok y m => I y m
  | _ => False
@[simp ↓, simp] theorem kE_ok {I : D → Me → Prop} {y : D} {m : Me} : kE I (.ok y m) = I y m := rfl
def kC (J : Me → Prop) (I : D → Me → Prop) (e : Me → Res D) : Res Bool → Prop := fun
  | .ok b m => if b = true then RHas (kE I) (e m) else J m
  | _ => False
@[simp ↓, simp] theorem kC_ok {J : Me → Prop} {I : D → Me → Prop} {e : Me → Res D} {b : Bool} {m : Me} : kC J I e (.ok b m) = if b = true then RHas (kE I) (e m) else J m := rfl
def kX {α : Type} (Q : Res α → Prop) : Res α → Prop := fun
  | .ok a m => Q (.ok a m)
  | _ => False
@[simp ↓, simp] theorem kX_ok {α : Type} {Q : Res α → Prop} {a : α} {m : Me} : kX Q (.ok a m) = Q (.ok a m) := rfl
@[simp ↓, simp] theorem rhas_noX {α : Type} {Q : Res α → Prop} {r : Res α} : RHas Q (noX r) = RHas (kX Q) r := by cases r <;> rfl
theorem for_has {gt : D → En → Option En} {body : MS} {gd : Me → Bool} {Q : Fl → Prop} (Inv : List D → En → Me → Prop)
    (step : ∀ d r ρ m, Inv (d :: r) ρ m → gd m = true ∧ ∃ ρ1, gt d ρ = some ρ1 ∧ FHas (kL (Inv r) Q) (body ρ1 m))
    (done : ∀ ρ m, Inv [] ρ m → gd m = true ∧ Q (.nx ρ m)) {ds : List D} {ρ : En} {m : Me} (h : Inv ds ρ m) : FHas Q (forF gt body gd ds ρ m) := by
  have key : ∀ (ds : List D) (ρ : En) (m : Me), Inv ds ρ m → FHas Q (forF gt body gd ds ρ m) := by
    intro ds
    induction ds with
    | nil =>
      intro ρ m h
      obtain ⟨h1, h2⟩ := done ρ m h
      unfold forF; rw [if_pos h1]; exact h2
    | cons d r ih =>
      intro ρ m h
      obtain ⟨h1, ρ1, h2, h3⟩ := step d r ρ m h
      unfold forF; rw [if_pos h1]; simp only [h2]
      cases e : body ρ1 m with
      | no => rw [e] at h3; exact h3.elim
      | exc x ρ m => rw [e] at h3; exact h3
      | nx ρ2 m2 => rw [e] at h3; exact ih ρ2 m2 h3
      | ct ρ2 m2 => rw [e] at h3; exact ih ρ2 m2 h3
      | bk ρ2 m2 => rw [e] at h3; exact h3
      | rt d m => rw [e] at h3; exact h3
  exact key ds ρ m h
/-- a comprehension, by what holds of the store and of what was made -/
theorem comp_has {gt : D → En → Option En} {c : MT} {e : ME} {gd : Me → Bool} {ρ : En} {Q : Res (List D) → Prop} (Inv : List D → List D → Me → Prop)
    (step : ∀ d r ys m, Inv (d :: r) ys m → gd m = true ∧ ∃ ρ1, gt d ρ = some ρ1 ∧ RHas (kC (Inv r ys) (fun y m2 => Inv r (ys ++ [y]) m2) (e ρ1)) (c ρ1 m))
    (done : ∀ ys m, Inv [] ys m → gd m = true ∧ Q (.ok ys m)) {ds : List D} {m : Me} (h : Inv ds [] m) : RHas Q (compF gt c e gd ρ ds m) := by
  have key : ∀ (ds ys : List D) (m : Me), Inv ds ys m → ∃ zs m', compF gt c e gd ρ ds m = .ok zs m' ∧ Q (.ok (ys ++ zs) m') := by
    intro ds
    induction ds with
    | nil =>
      intro ys m h
      obtain ⟨h1, h2⟩ := done ys m h
      exact ⟨[], m, by unfold compF; rw [if_pos h1], by simpa using h2⟩
    | cons d r ih =>
      intro ys m h
      obtain ⟨h1, ρ1, h2, h3⟩ := step d r ys m h
      cases ec : c ρ1 m with
      | no => rw [ec] at h3; exact h3.elim
      | exc x m => rw [ec] at h3; exact h3.elim
      | ok b m1 =>
        rw [ec] at h3
        simp only [rhas_ok, kC_ok] at h3
        cases b with
        | false =>
          rw [if_neg Bool.false_ne_true] at h3
          obtain ⟨zs, m', e1, e2⟩ := ih ys m1 h3
          exact ⟨zs, m', by unfold compF; simp [h1, h2, ec, e1], e2⟩
        | true =>
          rw [if_pos rfl] at h3
          cases ee : e ρ1 m1 with
          | no => rw [ee] at h3; exact h3.elim
          | exc x m => rw [ee] at h3; exact h3.elim
          | ok y m2 =>
            rw [ee] at h3
            obtain ⟨zs, m', e1, e2⟩ := ih (ys ++ [y]) m2 h3
            exact ⟨y :: zs, m', by unfold compF; simp [h1, h2, ec, ee, e1], by simpa using e2⟩
  obtain ⟨zs, m', e1, e2⟩ := key ds [] m h
  rw [e1]; exact e2
/-- a comprehension over known things whose parts leave the store as it is -/
theorem comp_map {α : Type} {gt : D → En → Option En} {c : MT} {e : ME} {ρ : En} {m : Me} {Q : Res (List D) → Prop} {xs : List α} {g : α → D} (p : α → Bool) (f : α → D)
    (h : ∀ x ∈ xs, ∃ ρ1, gt (g x) ρ = some ρ1 ∧ c ρ1 m = .ok (p x) m ∧ (p x = true → e ρ1 m = .ok (f x) m)) (q : Q (.ok ((xs.filter p).map f) m)) : RHas Q (compF gt c e gdY ρ (xs.map g) m) := by
  have key : ∀ xs : List α, (∀ x ∈ xs, ∃ ρ1, gt (g x) ρ = some ρ1 ∧ c ρ1 m = .ok (p x) m ∧ (p x = true → e ρ1 m = .ok (f x) m)) → compF gt c e gdY ρ (xs.map g) m = .ok ((xs.filter p).map f) m := by
    intro xs
    induction xs with
    | nil => intro _; rfl
    | cons x r ih =>
      intro h
      obtain ⟨ρ1, h1, h2, h3⟩ := h x List.mem_cons_self
      have ih' := ih fun y hy => h y (List.mem_cons_of_mem _ hy)
      rw [List.map_cons]
      unfold compF
      simp only [gdY_e, if_true, h1, h2, noX_ok, Res.bind_ok]
      cases hp : p x with
      | false => simp [hp, ih']
      | true => simp [hp, ih', h3 hp]
  rw [key xs h]; exact q
theorem comp_all {α : Type} {gt : D → En → Option En} {c : MT} {e : ME} {ρ : En} {m : Me} {Q : Res (List D) → Prop} {xs : List α} {g : α → D} (f : α → D)
    (h : ∀ x ∈ xs, ∃ ρ1, gt (g x) ρ = some ρ1 ∧ c ρ1 m = .ok true m ∧ e ρ1 m = .ok (f x) m) (q : Q (.ok (xs.map f) m)) : RHas Q (compF gt c e gdY ρ (xs.map g) m) := by
  refine comp_map (fun _ => true) f (fun x hx => ?_) ?_
  · obtain ⟨ρ1, h1, h2, h3⟩ := h x hx; exact ⟨ρ1, h1, h2, fun _ => h3⟩
  · rw [List.filter_eq_self.mpr fun _ _ => rfl]; exact q
@[simp] theorem isN_non : isN .non = true := rfl
@[simp] theorem isN_bl (b : Bool) : isN (.bl b) = false := rfl
@[simp] theorem isN_int (i : Int) : isN (.int i) = false := rfl
@[simp] theorem isN_str (s : Str) : isN (.str s) = false := rfl
@[simp] theorem isN_tup (xs : List D) : isN (.tup xs) = false := rfl
@[simp] theorem isN_lst (xs : List D) : isN (.lst xs) = false := rfl
@[simp] theorem isN_dct (xs : List (Key × D)) : isN (.dct xs) = false := rfl
@[simp ↓] theorem sPut2_h {Q : Fl → Prop} (fo fi fo' fi' fv : ME) (ρ : En) (m : Me) : FHas Q (sPut2 fo fi fo' fi' fv ρ m) = FHas Q (bindS (fv ρ m) ρ fun d m => match d with
  | .tup [x, y] => bindS (fo ρ m) ρ fun d m => bindS (fi ρ m) ρ fun k m => match dput m d k x with
    | none => .no
    | some m => bindS (fo' ρ m) ρ fun d m => bindS (fi' ρ m) ρ fun k m => match dput m d k y with
      | none => .no
      | some m => .nx ρ m
  | _ => .no) := rfl
@[simp ↓] theorem sPar_h {Q : Fl → Prop} (i j : Nat) (fa : MA) (ρ : En) (m : Me) : FHas Q (sPar i j fa ρ m) = FHas Q (bindS (fa ρ m) ρ fun ds m => match ds with
  | [x, y] => .nx ((ρ.set i (some x)).set j (some y)) m
  | _ => .no) := rfl
/-! ### leaving a def -/
mutual
theorem thaw_clo {n : Nat} {m : Me} : ∀ d : D, clo n d = true → thaw n m d = some d
  | .non, _ => rfl
  | .bl _, _ => rfl
  | .int _, _ => rfl
  | .str _, _ => rfl
  | .scr _, _ => rfl
  | .fn _, _ => rfl
  | .tup ds, h => by simp only [clo] at h; simp [thaw, thawL_clo ds h]
  | .lst ds, h => by simp only [clo] at h; simp [thaw, thawL_clo ds h]
  | .dct kvs, h => by simp only [clo] at h; simp [thaw, h]
  | .ref i, h => by simp only [clo, decide_eq_true_eq] at h; simp [thaw, h]
theorem thawL_clo {n : Nat} {m : Me} : ∀ ds : List D, cloL n ds = true → thawL n m ds = some ds
  | [], _ => rfl
  | d :: ds, h => by simp only [cloL, Bool.and_eq_true] at h; simp [thawL, thaw_clo d h.1, thawL_clo ds h.2]
end
/-- data without things of the store -/
abbrev Pl (d : D) : Prop := ∀ n, clo n d = true
abbrev PlL (ds : List D) : Prop := ∀ n, cloL n ds = true
theorem pll_iff {ds : List D} : PlL ds ↔ ∀ d ∈ ds, Pl d := by
  induction ds with
  | nil => exact ⟨fun _ _ h => (nomatch h), fun _ _ => rfl⟩
  | cons d ds ih =>
    constructor
    · intro h x hx n
      have := h n
      simp only [cloL, Bool.and_eq_true] at this
      rcases List.mem_cons.mp hx with e | hx
      · rw [e]; exact this.1
      · exact ih.mp (fun n => by have := h n; simp only [cloL, Bool.and_eq_true] at this; exact this.2) x hx n
    · intro h n
      simp only [cloL, Bool.and_eq_true]
      exact ⟨h d List.mem_cons_self n, ih.mpr (fun x hx => h x (List.mem_cons_of_mem _ hx)) n⟩
/-- a store of plain things -/
def FlatM (m : Me) : Prop := ∀ c ∈ m, ∀ n, cloC n c = true
theorem FlatM.nil : FlatM [] := fun _ h => nomatch h
theorem FlatM.app {a b : Me} (h : FlatM a) (h' : FlatM b) : FlatM (a ++ b) := fun c hc => by
  rcases List.mem_append.mp hc with q | q
  · exact h c q
  · exact h' c q
theorem FlatM.take {a : Me} (h : FlatM a) (n : Nat) : FlatM (a.take n) := fun c hc => h c (List.mem_of_mem_take hc)
theorem FlatM.set {a : Me} (h : FlatM a) {i : Nat} {c : Cell} (hc : ∀ n, cloC n c = true) : FlatM (a.set i c) := fun x hx => by
  rcases List.mem_or_eq_of_mem_set hx with q | q
  · exact h x q
  · rw [q]; exact hc
theorem FlatM.one {c : Cell} (hc : ∀ n, cloC n c = true) : FlatM [c] := fun x hx => by rw [List.mem_singleton.mp hx]; exact hc
theorem leave_flat {m m' : Me} {d d' : D} (hf : FlatM m') (hl : m.length ≤ m'.length) (ht : thaw m.length m' d = some d') (hs : m'.length = m.length → d' = d) : leave m d m' = .ok d' (m'.take m.length) := by
  unfold leave
  by_cases q : m'.length = m.length
  · rw [if_pos q, hs q, ← q, List.take_length]
  · rw [if_neg q, ht]
    simp only
    rw [if_pos (.inr (List.all_eq_true.mpr fun c hc => hf c (List.mem_of_mem_take hc) _))]
theorem leave_pl {m m' : Me} {d : D} (hf : FlatM m') (hl : m.length ≤ m'.length) (hd : Pl d) : leave m d m' = .ok d (m'.take m.length) :=
  leave_flat hf hl (thaw_clo d (hd _)) fun _ => rfl
theorem leave_own {m m' : Me} {xs : List D} {i : Nat} (hi : m.length ≤ i) (hf : FlatM m') (e : m'[i]? = some (.lst xs)) : leave m (.ref i) m' = .ok (.lst xs) (m'.take m.length) := by
  have hlt := (List.getElem?_eq_some_iff.mp e).1
  refine leave_flat hf (by omega) ?_ (by omega)
  have := hf _ (List.mem_of_getElem? e) m.length
  simp only [cloC] at this
  simp [thaw, show ¬ i < m.length by omega, e, this]
end FL

set_option maxRecDepth 100000
namespace FL
open PySem PySem.Spec PyProof.Rows L2

@[simp ↓] theorem mVar_h {Q : Res _ → Prop} (i : Nat) (ρ : En) (m : Me) : RHas Q (mVar i ρ m) = RHas Q (match ρ[i]? with
  | some (some d) => .ok d m
  | _ => .no) := rfl
@[simp ↓] theorem mC_h {Q : Res _ → Prop} (d : D) (ρ : En) (m : Me) : RHas Q (mC d ρ m) = RHas Q (.ok d m) := rfl
@[simp ↓] theorem mNil_h {Q : Res _ → Prop} (ρ : En) (m : Me) : RHas Q (mNil ρ m) = RHas Q (.ok [] m) := rfl
@[simp ↓] theorem mCons_h {Q : Res _ → Prop} (f : ME) (g : MA) (ρ : En) (m : Me) : RHas Q (mCons f g ρ m) = RHas Q ((f ρ m).bind fun d m => (g ρ m).bind fun ds m => .ok (d :: ds) m) := rfl
@[simp ↓] theorem mTup_h {Q : Res _ → Prop} (f : MA) (ρ : En) (m : Me) : RHas Q (mTup f ρ m) = RHas Q ((f ρ m).bind fun ds m => .ok (.tup ds) m) := rfl
@[simp ↓] theorem mLst_h {Q : Res _ → Prop} (f : MA) (ρ : En) (m : Me) : RHas Q (mLst f ρ m) = RHas Q ((f ρ m).bind fun ds m => .ok (.lst ds) m) := rfl
@[simp ↓] theorem mNew_h {Q : Res _ → Prop} (f : MA) (ρ : En) (m : Me) : RHas Q (mNew f ρ m) = RHas Q ((f ρ m).bind fun ds m => .ok (.ref m.length) (m ++ [.lst ds])) := rfl
@[simp ↓] theorem mNewK_h {Q : Res _ → Prop} (ρ : En) (m : Me) : RHas Q (mNewK ρ m) = RHas Q (.ok (.ref m.length) (m ++ [.dK []])) := rfl
@[simp ↓] theorem m1_h {Q : Res _ → Prop} (g : D → Me → Res D) (fa : ME) (ρ : En) (m : Me) : RHas Q (m1 g fa ρ m) = RHas Q ((fa ρ m).bind g) := rfl
@[simp ↓] theorem m2_h {Q : Res _ → Prop} (g : D → D → Me → Res D) (fa fb : ME) (ρ : En) (m : Me) : RHas Q (m2 g fa fb ρ m) = RHas Q ((fa ρ m).bind fun d m => (fb ρ m).bind fun d' m => g d d' m) := rfl
@[simp ↓] theorem mB_h {Q : Res _ → Prop} (f : ME) (ρ : En) (m : Me) : RHas Q (mB f ρ m) = RHas Q ((f ρ m).bind asB) := rfl
@[simp ↓] theorem mAnd_h {Q : Res _ → Prop} (f g : MT) (ρ : En) (m : Me) : RHas Q (mAnd f g ρ m) = RHas Q ((f ρ m).bind fun b m => if b = true then g ρ m else .ok false m) := rfl
@[simp ↓] theorem mOr_h {Q : Res _ → Prop} (f g : MT) (ρ : En) (m : Me) : RHas Q (mOr f g ρ m) = RHas Q ((f ρ m).bind fun b m => if b = true then .ok true m else g ρ m) := rfl
@[simp ↓] theorem mNot_h {Q : Res _ → Prop} (f : MT) (ρ : En) (m : Me) : RHas Q (mNot f ρ m) = RHas Q ((f ρ m).bind fun b m => .ok (!b) m) := rfl
@[simp ↓] theorem mAndV_h {Q : Res _ → Prop} (f g : ME) (ρ : En) (m : Me) : RHas Q (mAndV f g ρ m) = RHas Q ((f ρ m).bind fun d m => match d with
  | .bl true => g ρ m
  | .bl false => .ok (.bl false) m
  | _ => .no) := rfl
@[simp ↓] theorem mOrV_h {Q : Res _ → Prop} (f g : ME) (ρ : En) (m : Me) : RHas Q (mOrV f g ρ m) = RHas Q ((f ρ m).bind fun d m => match d with
  | .bl true => .ok (.bl true) m
  | .bl false => g ρ m
  | _ => .no) := rfl
@[simp ↓] theorem mNotV_h {Q : Res _ → Prop} (f : ME) (ρ : En) (m : Me) : RHas Q (mNotV f ρ m) = RHas Q ((f ρ m).bind fun d m => match d with
  | .bl b => .ok (.bl (!b)) m
  | _ => .no) := rfl
@[simp ↓] theorem mIf_h {Q : Res _ → Prop} (c : MT) (f g : ME) (ρ : En) (m : Me) : RHas Q (mIf c f g ρ m) = RHas Q ((c ρ m).bind fun b m => if b = true then f ρ m else g ρ m) := rfl
@[simp ↓] theorem mArgs_h {Q : Res _ → Prop} (g : List D → Me → Res D) (fa : MA) (ρ : En) (m : Me) : RHas Q (mArgs g fa ρ m) = RHas Q ((fa ρ m).bind g) := rfl
@[simp ↓] theorem mCall_h {Q : Res _ → Prop} (F : List D → Me → Res D) (fa : MA) (ρ : En) (m : Me) : RHas Q (mCall F fa ρ m) = RHas Q ((fa ρ m).bind fun ds m => noX (F ds m)) := rfl
@[simp ↓] theorem mOpt_h {Q : Res _ → Prop} (f : ME) (ρ : En) (m : Me) : RHas Q (mOpt f ρ m) = RHas Q ((f ρ m).bind fun d m => match d with
  | .int i => .ok (some i) m
  | _ => .no) := rfl
@[simp ↓] theorem mNo_h {Q : Res _ → Prop} (ρ : En) (m : Me) : RHas Q (mNo ρ m) = RHas Q (.ok none m) := rfl
@[simp ↓] theorem mSl_h {Q : Res _ → Prop} (fa : ME) (fl fh : En → Me → Res (Option Int)) (ρ : En) (m : Me) : RHas Q (mSl fa fl fh ρ m) = RHas Q ((fa ρ m).bind fun d m => (fl ρ m).bind fun lo m => (fh ρ m).bind fun hi m => gSl d lo hi m) := rfl
@[simp ↓] theorem m3_h {Q : Res _ → Prop} (g : D → D → D → Me → Res D) (fa fb fc : ME) (ρ : En) (m : Me) : RHas Q (m3 g fa fb fc ρ m) = RHas Q ((fa ρ m).bind fun d m => match view m d with
  | .dct _ => (fb ρ m).bind fun d' m => (fc ρ m).bind fun d'' m => g d d' d'' m
  | _ => .no) := rfl
@[simp ↓] theorem sNext_h {Q : Fl → Prop} (ρ : En) (m : Me) : FHas Q (sNext ρ m) = FHas Q (.nx ρ m) := rfl
@[simp ↓] theorem sSet_h {Q : Fl → Prop} (i : Nat) (f : ME) (ρ : En) (m : Me) : FHas Q (sSet i f ρ m) = FHas Q (bindS (f ρ m) ρ fun d m => .nx (ρ.set i (some d)) m) := rfl
@[simp ↓] theorem sRet_h {Q : Fl → Prop} (f : ME) (ρ : En) (m : Me) : FHas Q (sRet f ρ m) = FHas Q (bindS (f ρ m) ρ fun d m => .rt d m) := rfl
@[simp ↓] theorem sRetN_h {Q : Fl → Prop} (ρ : En) (m : Me) : FHas Q (sRetN ρ m) = FHas Q (.rt .non m) := rfl
@[simp ↓] theorem sDo_h {Q : Fl → Prop} (f : ME) (ρ : En) (m : Me) : FHas Q (sDo f ρ m) = FHas Q (bindS (f ρ m) ρ fun _ m => .nx ρ m) := rfl
@[simp ↓] theorem sIf_h {Q : Fl → Prop} (c : MT) (f g : MS) (ρ : En) (m : Me) : FHas Q (sIf c f g ρ m) = FHas Q (bindS (c ρ m) ρ fun b m => if b = true then f ρ m else g ρ m) := rfl
@[simp ↓] theorem sBk_h {Q : Fl → Prop} (ρ : En) (m : Me) : FHas Q (sBk ρ m) = FHas Q (.bk ρ m) := rfl
@[simp ↓] theorem sCt_h {Q : Fl → Prop} (ρ : En) (m : Me) : FHas Q (sCt ρ m) = FHas Q (.ct ρ m) := rfl
@[simp ↓] theorem sFor_h {Q : Fl → Prop} (it : MI) (gt : D → En → Option En) (body : MS) (ρ : En) (m : Me) : FHas Q (sFor it gt body ρ m) = FHas Q (bindS (it ρ m) ρ fun p m => forF gt body p.2 p.1 ρ m) := rfl
@[simp ↓] theorem sAsg_h {Q : Fl → Prop} (gt : D → En → Option En) (f : ME) (ρ : En) (m : Me) : FHas Q (sAsg gt f ρ m) = FHas Q (bindS (f ρ m) ρ fun d m => match gt d ρ with
  | some ρ' => .nx ρ' m
  | none => .no) := rfl
@[simp ↓] theorem sDput_h {Q : Fl → Prop} (fo fi fv : ME) (ρ : En) (m : Me) : FHas Q (sDput fo fi fv ρ m) = FHas Q (bindS (fv ρ m) ρ fun y m => bindS (fo ρ m) ρ fun d m => bindS (fi ρ m) ρ fun k m => match dput m d k y with
  | some m' => .nx ρ m'
  | none => .no) := rfl
@[simp ↓] theorem sDaug_h {Q : Fl → Prop} (fo fi fe : ME) (ρ : En) (m : Me) : FHas Q (sDaug fo fi fe ρ m) = FHas Q (bindS (fo ρ m) ρ fun d m => bindS (fi ρ m) ρ fun k m => match look m d k with
  | some (some (.int i)) => bindS (fe ρ m) ρ fun y m => match y with
    | .int j => match dput m d k (.int (i + j)) with
      | some m' => .nx ρ m'
      | none => .no
    | _ => .no
  | _ => .no) := rfl
@[simp ↓] theorem sAug_h {Q : Fl → Prop} (i : Nat) (f : D → D → Me → Res D) (fe : ME) (ρ : En) (m : Me) : FHas Q (sAug i f fe ρ m) = FHas Q (match ρ[i]? with
  | some (some d) => bindS (fe ρ m) ρ fun y m => bindS (f d y m) ρ fun z m => .nx (ρ.set i (some z)) m
  | _ => .no) := rfl
@[simp ↓] theorem sSetIx_h {Q : Fl → Prop} (fo fi fv : ME) (ρ : En) (m : Me) : FHas Q (sSetIx fo fi fv ρ m) = FHas Q (bindS (fv ρ m) ρ fun y m => bindS (fo ρ m) ρ fun d m => bindS (fi ρ m) ρ fun k m => match d, k with
  | .ref i, .int k => match m[i]? with
    | some (.lst xs) => match ixN xs.length k with
      | some j => .nx ρ (m.set i (.lst (xs.set j y)))
      | none => .no
    | _ => .no
  | _, _ => .no) := rfl
@[simp ↓] theorem mAppend_h {Q : Res _ → Prop} (fo fe : ME) (ρ : En) (m : Me) : RHas Q (mAppend fo fe ρ m) = RHas Q ((fo ρ m).bind fun d m => match d with
  | .ref i => match m[i]? with
    | some (.lst _) => (fe ρ m).bind fun y m => match m[i]? with
      | some (.lst xs) => if xs.length < 1000000 then .ok .non (m.set i (.lst (xs ++ [y]))) else .no
      | _ => .no
    | _ => .no
  | _ => .no) := rfl
@[simp ↓] theorem mExtend_h {Q : Res _ → Prop} (fo fe : ME) (ρ : En) (m : Me) : RHas Q (mExtend fo fe ρ m) = RHas Q ((fo ρ m).bind fun d m => match d with
  | .ref i => match m[i]? with
    | some (.lst _) => (fe ρ m).bind fun y m => match m[i]?, lstV m y with
      | some (.lst xs), some ys => if xs.length + ys.length < 1000000 then .ok .non (m.set i (.lst (xs ++ ys))) else .no
      | _, _ => .no
    | _ => .no
  | _ => .no) := rfl
@[simp ↓] theorem iSeq_h {Q : Res _ → Prop} (f : ME) (ρ : En) (m : Me) : RHas Q (iSeq f ρ m) = RHas Q ((f ρ m).bind asIt) := rfl
@[simp ↓] theorem iRange1_h {Q : Res _ → Prop} (f : MA) (ρ : En) (m : Me) : RHas Q (iRange1 f ρ m) = RHas Q ((f ρ m).bind fun ds m => match ds with
  | [.int j] => if j ≤ 1000000 ∧ -1000000 ≤ j then .ok (rngL 0 j.toNat, gdY) m else .no
  | _ => .no) := rfl
@[simp ↓] theorem iRange2_h {Q : Res _ → Prop} (f : MA) (ρ : En) (m : Me) : RHas Q (iRange2 f ρ m) = RHas Q ((f ρ m).bind fun ds m => match ds with
  | [.int i, .int j] => if (j ≤ 1000000 ∧ -1000000 ≤ j) ∧ i ≤ 1000000 ∧ -1000000 ≤ i then .ok (rngL i (j - i).toNat, gdY) m else .no
  | _ => .no) := rfl
@[simp ↓] theorem mComp_h {Q : Res _ → Prop} (it : MI) (vs : List Nat) (gt : D → En → Option En) (c : MT) (e : ME) (ρ : En) (m : Me) : RHas Q (mComp it vs gt c e ρ m) = RHas Q ((it ρ m).bind fun p m => (noX (compF gt c e p.2 (wipeD ρ vs) p.1 m)).bind fun ys m => .ok (.lst ys) m) := rfl
@[simp ↓] theorem mDisp_h {Q : Res _ → Prop} (f : En → Me → Res (List (Key × D))) (ρ : En) (m : Me) : RHas Q (mDisp f ρ m) = RHas Q ((f ρ m).bind fun kvs m => if kvs.length ≤ 15 then .ok (.ref m.length) (m ++ [.dK (kvs.foldl (fun acc kv => setK acc kv.1 kv.2) [])]) else .no) := rfl
@[simp ↓] theorem pNil_h {Q : Res _ → Prop} (ρ : En) (m : Me) : RHas Q (pNil ρ m) = RHas Q (.ok [] m) := rfl
@[simp ↓] theorem pCons_h {Q : Res _ → Prop} (fk fv : ME) (fr : En → Me → Res (List (Key × D))) (ρ : En) (m : Me) : RHas Q (pCons fk fv fr ρ m) = RHas Q ((fk ρ m).bind fun k m => match keyD k with
  | none => .no
  | some k => (fv ρ m).bind fun v m => (fr ρ m).bind fun r m => .ok ((k, v) :: r) m) := rfl
@[simp ↓] theorem cYes_h {Q : Res _ → Prop} (ρ : En) (m : Me) : RHas Q (cYes ρ m) = RHas Q (.ok true m) := rfl
end FL

set_option maxRecDepth 100000
namespace FL
open PySem PySem.Spec PyProof.Rows L2

/-! ### the draws: a dict of draws, at, and what else stands in it -/
def WX (draws : List Int) (k : Int) (ex : List (Key × D)) : Cell := .dK ((.inr "draws", .lst (draws.map .int)) :: (.inr "at", .int k) :: ex)
theorem look_atX {m : Me} {i : Nat} {ds : List Int} {k : Int} {ex : List (Key × D)} (h : m[i]? = some (WX ds k ex)) : look m (.ref i) (.str "at") = some (some (.int k)) := by
  unfold look; rw [view_ref_dK h]; rfl
theorem look_drawsX {m : Me} {i : Nat} {ds : List Int} {k : Int} {ex : List (Key × D)} (h : m[i]? = some (WX ds k ex)) : look m (.ref i) (.str "draws") = some (some (.lst (ds.map .int))) := by
  unfold look; rw [view_ref_dK h]; rfl
/-- keys beside draws and at -/
def ExOk (ex : List (Key × D)) : Prop := (∀ p ∈ ex, p.1 ≠ .inr "at") ∧ ex.length < 1000 ∧ ∀ n, cloK n ex = true
theorem setK_at {ds : List Int} {k k' : Int} {ex : List (Key × D)} (h : ExOk ex) : setK ((.inr "draws", .lst (ds.map .int)) :: (.inr "at", .int k) :: ex) (.inr "at") (.int k') = (.inr "draws", .lst (ds.map .int)) :: (.inr "at", .int k') :: ex := by
  have e : ex.map (fun kv => if kv.1 = (Sum.inr ("at" : Str) : Key) then (kv.1, D.int k') else kv) = ex := by
    have : ∀ l : List (Key × D), (∀ p ∈ l, p.1 ≠ .inr "at") → l.map (fun kv => if kv.1 = (Sum.inr ("at" : Str) : Key) then (kv.1, D.int k') else kv) = l := by
      intro l
      induction l with
      | nil => intro _; rfl
      | cons p l ih => intro h; rw [List.map_cons, if_neg (h p List.mem_cons_self), ih fun q hq => h q (List.mem_cons_of_mem _ hq)]
    exact this ex h.1
  have n1 : ¬ (("draws" : Str) = ("at" : Str)) := by decide +kernel
  unfold setK
  rw [if_pos (by simp), List.map_cons, List.map_cons, e]
  simp [n1]
theorem clo_ints' (n : Nat) : ∀ l : List Int, cloL n (l.map D.int) = true
  | [] => rfl
  | a :: l => by simp [cloL, clo, clo_ints' n l]
theorem clo_wx {ds : List Int} {k : Int} {ex : List (Key × D)} (h : ExOk ex) (n : Nat) : cloC n (WX ds k ex) = true := by
  simp [WX, cloC, cloK, cloP, clo, clo_ints', h.2.2 n]
structure Wt (i : Nat) (ds : List Int) (ex : List (Key × D)) (m : Me) : Prop where
  w : ∃ k : Int, 0 ≤ k ∧ m[i]? = some (WX ds k ex)
  f : FlatM m
  x : ExOk ex
def Ev (i : Nat) (ds : List Int) (ex : List (Key × D)) (m m' : Me) : Prop := ∃ k : Int, 0 ≤ k ∧ m' = m.set i (WX ds k ex)
section
variable {i : Nat} {ds : List Int} {ex : List (Key × D)} {m m' m'' c : Me}
theorem Wt.lt (h : Wt i ds ex m) : i < m.length := by obtain ⟨k, _, e⟩ := h.w; exact (List.getElem?_eq_some_iff.mp e).1
theorem Wt.ev (h : Wt i ds ex m) (e : Ev i ds ex m m') : Wt i ds ex m' := by
  obtain ⟨k, h0, rfl⟩ := e
  exact ⟨⟨k, h0, List.getElem?_set_self h.lt⟩, h.f.set (clo_wx h.x), h.x⟩
theorem Wt.app (h : Wt i ds ex m) (hc : FlatM c) : Wt i ds ex (m ++ c) := by
  obtain ⟨k, h0, e⟩ := h.w
  exact ⟨⟨k, h0, by rw [List.getElem?_append_left (List.getElem?_eq_some_iff.mp e).1]; exact e⟩, h.f.app hc, h.x⟩
theorem Ev.refl (h : Wt i ds ex m) : Ev i ds ex m m := by
  obtain ⟨k, h0, e⟩ := h.w
  refine ⟨k, h0, ?_⟩
  obtain ⟨hi, e⟩ := List.getElem?_eq_some_iff.mp e
  rw [← e, List.set_getElem_self]
theorem Ev.trans (h : Ev i ds ex m m') (h' : Ev i ds ex m' m'') : Ev i ds ex m m'' := by
  obtain ⟨k, h0, rfl⟩ := h
  obtain ⟨k', h0', rfl⟩ := h'
  exact ⟨k', h0', by rw [List.set_set]⟩
theorem Ev.len (h : Ev i ds ex m m') : m'.length = m.length := by obtain ⟨k, _, rfl⟩ := h; simp
theorem Ev.get (h : Ev i ds ex m m') {j : Nat} (hj : i ≠ j) : m'[j]? = m[j]? := by obtain ⟨k, _, rfl⟩ := h; rw [List.getElem?_set_ne hj]
theorem Ev.app (h : Wt i ds ex m) (e : Ev i ds ex (m ++ c) m') : ∃ m1, m' = m1 ++ c ∧ Ev i ds ex m m1 := by
  obtain ⟨k, h0, rfl⟩ := e
  exact ⟨_, by rw [List.set_append_left _ _ h.lt], k, h0, rfl⟩
theorem next_has {F : List D → Me → Res D} {f : Nat → List D → Me → Res D} (h : Wt i ds ex m) (hF : F = runDef 2 2 (bNext f)) {a : Int} (ha : 0 < a) :
    RHas (OkR fun d m' => ∃ v : Nat, (v : Int) < a ∧ d = .int v ∧ Ev i ds ex m m') (F [.ref i, .int a] m) := by
  subst hF
  obtain ⟨k, hk, e⟩ := h.w
  have hi := h.lt
  have hp : dput m (.ref i) (.str "at") (.int (k + 1)) = some (m.set i (WX ds (k + 1) ex)) := by
    unfold dput; simp only [keyD, e]; rw [WX]; simp only; rw [if_pos (by have := h.x.2.1; simp; omega), setK_at h.x]; rfl
  have h' : (m.set i (WX ds (k + 1) ex))[i]? = some (WX ds (k + 1) ex) := List.getElem?_set_self hi
  have hl : (m.set i (WX ds (k + 1) ex)).length = m.length := List.length_set ..
  by_cases hc : (ds.length : Int) < k + 1
  · refine eq_has (a := .int 0) (m := m.set i (WX ds (k + 1) ex)) ?_ ⟨_, _, rfl, 0, ha, rfl, k + 1, by omega, rfl⟩
    simp [runDef, bNext, look_atX e, hp, gDget, look_atX h', look_drawsX h', hc, leave_same hl]
  · have hlt : k.toNat < ds.length := by omega
    have e1 : atI (ds.map D.int) k = some (.int (ds[k.toNat])) := by
      have q : atI (ds.map D.int) ((k.toNat : Nat) : Int) = some (.int (ds[k.toNat])) := atI_nat (by rw [List.getElem?_map]; simp [hlt])
      rwa [show ((k.toNat : Nat) : Int) = k by omega] at q
    have h0 := Int.emod_nonneg ds[k.toNat] (b := a) (by omega)
    refine eq_has (a := .int (ds[k.toNat] % a)) (m := m.set i (WX ds (k + 1) ex)) ?_ ⟨_, _, rfl, (ds[k.toNat] % a).toNat, by rw [Int.toNat_of_nonneg h0]; exact Int.emod_lt_of_pos _ ha, by rw [Int.toNat_of_nonneg h0], k + 1, by omega, rfl⟩
    simp [runDef, bNext, look_atX e, hp, gDget, look_atX h', look_drawsX h', hc, leave_same hl, gIx, e1, gMod_int ha]
theorem pick_has {F : List D → Me → Res D} {f g : Nat → List D → Me → Res D} {j : Nat} (h : Wt i ds ex m) (hF : F = runDef 2 2 (bPick j f)) (hN : f j = runDef 2 2 (bNext g)) {xs : List D} (hx : xs ≠ []) :
    RHas (OkR fun d m' => d ∈ xs ∧ Ev i ds ex m m') (F [.ref i, .lst xs] m) := by
  subst hF
  have hpos : 0 < xs.length := List.length_pos_iff.mpr hx
  obtain ⟨d, m', e, v, hv, rfl, ev⟩ := (next_has h hN (a := (xs.length : Int)) (by omega)).ex
  have hv' : v < xs.length := by omega
  refine eq_has (a := xs[v]) (m := m') ?_ ⟨_, _, rfl, List.getElem_mem hv', ev⟩
  have e1 : atI xs (v : Int) = some xs[v] := atI_nat (List.getElem?_eq_getElem hv')
  simp [runDef, bPick, e, gIx, e1, leave_same ev.len]
end
/-- a comprehension that draws: so many things that are P -/
theorem comp_gen {gt : D → En → Option En} {c : MT} {e : ME} {ρ : En} {Q : Res (List D) → Prop} {i : Nat} {ds : List Int} {ex : List (Key × D)} (P : D → Prop) {xs : List D} {m : Me} (h : Wt i ds ex m)
    (step : ∀ d ∈ xs, ∀ m', Ev i ds ex m m' → Wt i ds ex m' → ∃ ρ1, gt d ρ = some ρ1 ∧ RHas (kC (fun _ => False) (fun y m2 => P y ∧ Ev i ds ex m' m2) (e ρ1)) (c ρ1 m'))
    (done : ∀ ys m', ys.length = xs.length → (∀ y ∈ ys, P y) → Ev i ds ex m m' → Q (.ok ys m')) : RHas Q (compF gt c e gdY ρ xs m) := by
  refine comp_has (fun r ys m' => ys.length + r.length = xs.length ∧ (∀ d ∈ r, d ∈ xs) ∧ (∀ y ∈ ys, P y) ∧ Ev i ds ex m m') (fun d r ys m' ⟨h1, h2, h3, h4⟩ => ⟨rfl, ?_⟩) (fun ys m' ⟨h1, _, h3, h4⟩ => ⟨rfl, done ys m' (by simpa using h1) h3 h4⟩) ⟨by simp, fun _ h => h, by simp, Ev.refl h⟩
  obtain ⟨ρ1, q1, q2⟩ := step d (h2 d List.mem_cons_self) m' h4 (h.ev h4)
  refine ⟨ρ1, q1, ?_⟩
  cases ec : c ρ1 m' with
  | no => rw [ec] at q2; exact q2.elim
  | exc x m => rw [ec] at q2; exact q2.elim
  | ok b m1 =>
    rw [ec] at q2
    simp only [rhas_ok, kC_ok] at q2 ⊢
    cases b with
    | false => rw [if_neg Bool.false_ne_true] at q2; exact q2.elim
    | true =>
      rw [if_pos rfl] at q2 ⊢
      cases ee : e ρ1 m1 with
      | no => rw [ee] at q2; exact q2.elim
      | exc x m => rw [ee] at q2; exact q2.elim
      | ok y m2 =>
        rw [ee] at q2
        obtain ⟨p1, p2⟩ := q2
        refine ⟨by simp at h1 ⊢; omega, fun z hz => h2 z (List.mem_cons_of_mem _ hz), fun z hz => ?_, h4.trans p2⟩
        rcases List.mem_append.mp hz with q | q
        · exact h3 z q
        · rw [List.mem_singleton.mp q]; exact p1
end FL

set_option maxRecDepth 100000
namespace FL
open PySem PySem.Spec PyProof.Rows L2

/-! ### texts that are written out -/
theorem ofs_inj {a b : String} : Str.ofString a = Str.ofString b ↔ a = b := by
  constructor
  · intro h
    rw [Str.ofString_eq_toList, Str.ofString_eq_toList] at h
    simp only [Str.mk.injEq, List.toArray_inj] at h
    have e : a.toList = b.toList := by
      have key : ∀ l l' : List Char, l.map Char.toNat = l'.map Char.toNat → l = l' := by
        intro l
        induction l with
        | nil => intro l' h; cases l' with
          | nil => rfl
          | cons _ _ => simp at h
        | cons c l ih => intro l' h; cases l' with
          | nil => simp at h
          | cons c' l' =>
            simp only [List.map_cons, List.cons.injEq] at h
            rw [ih l' h.2, Char.toNat_inj.mp h.1]
      exact key _ _ (by simpa using h)
    exact String.toList_inj.mp e
  · rintro rfl; rfl
@[simp ↓, simp] theorem ofs_eq (a b : String) : (Str.ofString a = Str.ofString b) = (a = b) := propext ofs_inj
@[simp ↓, simp] theorem ofs_beq (a b : String) : (Str.ofString a == Str.ofString b) = decide (a = b) := by
  rw [show (Str.ofString a == Str.ofString b) = decide (Str.ofString a = Str.ofString b) from rfl]; simp only [ofs_eq]
@[simp ↓, simp] theorem strOk_ofs (a : String) : PyData.strOk (Str.ofString a) = true := by
  rw [Str.ofString_eq_toList]
  unfold PyData.strOk
  simp only [Array.all_eq_true_iff_forall_mem, List.mem_toArray, List.mem_map, decide_eq_true_eq]
  rintro x ⟨c, _, rfl⟩
  have := c.valid
  unfold UInt32.isValidChar Nat.isValidChar at this
  have e : c.toNat = c.val.toNat := rfl
  omega
@[simp ↓, simp] theorem gEq_ofs (a b : String) (m : Me) : gEq (.str (Str.ofString a)) (.str (Str.ofString b)) m = .ok (.bl (decide (a = b))) m := by
  rw [gEq_str _ _ _ (strOk_ofs a) (strOk_ofs b), ofs_beq]
@[simp ↓, simp] theorem gNe_ofs (a b : String) (m : Me) : gNe (.str (Str.ofString a)) (.str (Str.ofString b)) m = .ok (.bl (!decide (a = b))) m := by
  rw [gNe_str _ _ _ (strOk_ofs a) (strOk_ofs b), ofs_beq]

/-! ### plain data without truths -/
mutual
def nb : D → Bool
  | .non => true
  | .int _ => true
  | .str s => PyData.strOk s
  | .tup xs => nbL xs
  | .lst xs => nbL xs
  | _ => false
def nbL : List D → Bool
  | [] => true
  | x :: xs => nb x && nbL xs
end
mutual
def dpD : D → Nat
  | .tup xs => dpL xs + 1
  | .lst xs => dpL xs + 1
  | _ => 0
def dpL : List D → Nat
  | [] => 0
  | x :: xs => max (dpD x) (dpL xs)
end
mutual
def pyT : D → PyData
  | .non => .none
  | .bl b => .bool b
  | .int i => .int i
  | .str s => .str s
  | .tup xs => .tuple (pyTs xs)
  | .lst xs => .list (pyTs xs)
  | _ => .none
def pyTs : List D → List PyData
  | [] => []
  | x :: xs => pyT x :: pyTs xs
end
theorem nbL_iff {xs : List D} : nbL xs = true ↔ ∀ x ∈ xs, nb x = true := by
  induction xs with
  | nil => simp [nbL]
  | cons a l ih => simp [nbL, ih]
theorem dpL_le {xs : List D} {n : Nat} : dpL xs ≤ n ↔ ∀ x ∈ xs, dpD x ≤ n := by
  induction xs with
  | nil => simp [dpL]
  | cons a l ih => simp only [dpL, List.mem_cons, forall_eq_or_imp, ← ih]; omega
mutual
theorem py_nb : ∀ d : D, nb d = true → py d = some (pyT d)
  | .non, _ => rfl
  | .int _, _ => rfl
  | .str _, _ => rfl
  | .tup xs, h => by simp only [py, pyT, pyL_nb xs h, Option.map_some]
  | .lst xs, h => by simp only [py, pyT, pyL_nb xs h, Option.map_some]
  | .bl _, h => by cases h
  | .dct _, h => by cases h
  | .ref _, h => by cases h
  | .scr _, h => by cases h
theorem pyL_nb : ∀ ds : List D, nbL ds = true → pyL ds = some (pyTs ds)
  | [], _ => rfl
  | d :: ds, h => by
    simp only [nbL, Bool.and_eq_true] at h
    simp only [pyL, pyTs, py_nb d h.1, pyL_nb ds h.2, Option.bind_some, Option.map_some]
end
mutual
theorem lay_nb : ∀ d : D, nb d = true → (pyT d).canLay0 = true ∧ (pyT d).depth = dpD d
  | .non, _ => ⟨rfl, rfl⟩
  | .int _, _ => ⟨rfl, rfl⟩
  | .str s, h => ⟨by simpa [pyT, PyData.canLay0, nb] using h, rfl⟩
  | .tup xs, h => by
    have := layL_nb xs h
    simp only [pyT, PyData.canLay0, PyData.depth, dpD, this, and_self]
  | .lst xs, h => by
    have := layL_nb xs h
    simp only [pyT, PyData.canLay0, PyData.depth, dpD, this, and_self]
  | .bl _, h => by cases h
  | .dct _, h => by cases h
  | .ref _, h => by cases h
  | .scr _, h => by cases h
theorem layL_nb : ∀ ds : List D, nbL ds = true → PyData.canLayAll0 (pyTs ds) = true ∧ PyData.depthAll (pyTs ds) = dpL ds
  | [], _ => ⟨rfl, rfl⟩
  | d :: ds, h => by
    simp only [nbL, Bool.and_eq_true] at h
    have h1 := lay_nb d h.1
    have h2 := layL_nb ds h.2
    simp only [pyTs, PyData.canLayAll0, PyData.depthAll, dpL, h1, h2, Bool.and_self, and_self]
end
theorem shaped_nb {d : D} (h : nb d = true) (hd : dpD d ≤ 64) : SeqAt.shaped (pyT d) = true := by
  unfold SeqAt.shaped
  obtain ⟨h1, h2⟩ := lay_nb d h
  rw [h1, h2]; simpa using hd
mutual
theorem eqv_nb : ∀ a b : D, nb a = true → nb b = true → (PyData.eqv (pyT a) (pyT b) = true ↔ a = b)
  | .non, b, _, hb => by cases b <;> simp [pyT, PyData.eqv] <;> simp [nb] at hb
  | .int i, b, _, hb => by cases b <;> simp [pyT, PyData.eqv] <;> simp [nb] at hb
  | .str i, b, _, hb => by cases b <;> simp [pyT, PyData.eqv] <;> simp [nb] at hb
  | .tup xs, b, ha, hb => by
    cases b with
    | tup ys => simp only [pyT, PyData.eqv, D.tup.injEq]; exact eqvL_nb xs ys ha hb
    | _ => simp [pyT, PyData.eqv]
  | .lst xs, b, ha, hb => by
    cases b with
    | lst ys => simp only [pyT, PyData.eqv, D.lst.injEq]; exact eqvL_nb xs ys ha hb
    | _ => simp [pyT, PyData.eqv]
  | .bl _, _, h, _ => by cases h
  | .dct _, _, h, _ => by cases h
  | .ref _, _, h, _ => by cases h
  | .scr _, _, h, _ => by cases h
theorem eqvL_nb : ∀ a b : List D, nbL a = true → nbL b = true → (PyData.eqvAll (pyTs a) (pyTs b) = true ↔ a = b)
  | [], b, _, _ => by cases b <;> simp [pyTs, PyData.eqvAll]
  | x :: xs, [], _, _ => by simp [pyTs, PyData.eqvAll]
  | x :: xs, y :: ys, ha, hb => by
    simp only [nbL, Bool.and_eq_true] at ha hb
    simp only [pyTs, PyData.eqvAll, Bool.and_eq_true, List.cons.injEq, eqv_nb x y ha.1 hb.1, eqvL_nb xs ys ha.2 hb.2]
end
open Classical in
/-- two data are one -/
noncomputable def eqc (a b : D) : Bool := decide (a = b)
theorem eqc_iff {a b : D} : eqc a b = true ↔ a = b := by simp [eqc]
theorem eqc_self (a : D) : eqc a a = true := eqc_iff.mpr rfl
theorem eqc_ne {a b : D} (h : a ≠ b) : eqc a b = false := by simpa [eqc] using h
theorem view_nb {d : D} (m : Me) (h : nb d = true) : view m d = d := by cases d <;> first | rfl | cases h
theorem gEq_nb {a b : D} (m : Me) (ha : nb a = true) (hb : nb b = true) (da : dpD a ≤ 64) (db : dpD b ≤ 64) : gEq a b m = .ok (.bl (eqc a b)) m := by
  unfold gEq
  rw [view_nb m ha, view_nb m hb, py_nb a ha, py_nb b hb]
  simp only [eqRes]
  rw [if_pos ⟨shaped_nb ha da, shaped_nb hb db⟩, Bool.eq_iff_iff.mpr ((eqv_nb a b ha hb).trans eqc_iff.symm)]
  simp
theorem gNe_nb {a b : D} (m : Me) (ha : nb a = true) (hb : nb b = true) (da : dpD a ≤ 64) (db : dpD b ≤ 64) : gNe a b m = .ok (.bl (!eqc a b)) m := by
  unfold gNe
  rw [view_nb m ha, view_nb m hb, py_nb a ha, py_nb b hb]
  simp only [eqRes]
  rw [if_pos ⟨shaped_nb ha da, shaped_nb hb db⟩, Bool.eq_iff_iff.mpr ((eqv_nb a b ha hb).trans eqc_iff.symm)]
  simp
@[simp ↓, simp] theorem gEq_bl (a b : Bool) (m : Me) : gEq (.bl a) (.bl b) m = .ok (.bl (a == b)) m := by
  have sh : ∀ {x : Bool}, SeqAt.shaped (.bool x) = true := by intro x; cases x <;> decide +kernel
  have v : ∀ b : Bool, view m (.bl b) = .bl b := fun _ => rfl
  simp only [gEq, v, py, eqRes]
  rw [if_pos ⟨sh, sh⟩]
  simp [PyData.eqv]
@[simp ↓, simp] theorem gNe_bl (a b : Bool) (m : Me) : gNe (.bl a) (.bl b) m = .ok (.bl (!(a == b))) m := by
  have sh : ∀ {x : Bool}, SeqAt.shaped (.bool x) = true := by intro x; cases x <;> decide +kernel
  have v : ∀ b : Bool, view m (.bl b) = .bl b := fun _ => rfl
  simp only [gNe, v, py, eqRes]
  rw [if_pos ⟨sh, sh⟩]
  simp [PyData.eqv]
/-- == with the empty list -/
theorem gEq_lnil {xs : List D} (m : Me) (h : nbL xs = true) (hd : dpL xs ≤ 63) : gEq (.lst xs) (.lst []) m = .ok (.bl xs.isEmpty) m := by
  rw [gEq_nb m (by simpa [nb] using h) rfl (by simp only [dpD]; omega) (by simp [dpD, dpL])]
  cases xs with
  | nil => rw [eqc_self]; rfl
  | cons x xs => rw [eqc_ne (by simp)]; rfl
theorem gNe_lnil {xs : List D} (m : Me) (h : nbL xs = true) (hd : dpL xs ≤ 63) : gNe (.lst xs) (.lst []) m = .ok (.bl (!xs.isEmpty)) m := by
  rw [gNe_nb m (by simpa [nb] using h) rfl (by simp only [dpD]; omega) (by simp [dpD, dpL])]
  cases xs with
  | nil => rw [eqc_self]; rfl
  | cons x xs => rw [eqc_ne (by simp)]; rfl
mutual
theorem clo_nb (n : Nat) : ∀ d : D, nb d = true → clo n d = true
  | .non, _ => rfl
  | .int _, _ => rfl
  | .str _, _ => rfl
  | .tup xs, h => by simp only [clo]; exact cloL_nb n xs h
  | .lst xs, h => by simp only [clo]; exact cloL_nb n xs h
  | .bl _, h => by cases h
  | .dct _, h => by cases h
  | .ref _, h => by cases h
  | .scr _, h => by cases h
theorem cloL_nb (n : Nat) : ∀ ds : List D, nbL ds = true → cloL n ds = true
  | [], _ => rfl
  | d :: ds, h => by
    simp only [nbL, Bool.and_eq_true] at h
    simp only [cloL, clo_nb n d h.1, cloL_nb n ds h.2, Bool.and_self]
end
theorem pl_nb {d : D} (h : nb d = true) : Pl d := fun n => clo_nb n d h
/-! ### in -/
theorem gInN_nb {neg : Bool} {d s : D} {xs : List D} (m : Me) (hs : seqV m s = some xs) (hd : nb d = true ∧ flatD d = true) (hx : ∀ x ∈ xs, nb x = true ∧ flatD x = true) : gInN neg d s m = .ok (.bl (if neg then !(xs.any fun x => eqc x d) else xs.any fun x => eqc x d)) m := by
  have e : ∀ x ∈ xs, eqF x d = eqc x d := fun x h => by
    have h1 := hx x h
    rw [Bool.eq_iff_iff, eqc_iff]
    cases x <;> cases d <;> simp [nb, flatD] at h1 hd <;> simp [eqF]
  have e2 : (xs.any fun e => eqF e d) = xs.any fun x => eqc x d := by
    rw [Bool.eq_iff_iff, List.any_eq_true, List.any_eq_true]
    exact ⟨fun ⟨x, q1, q2⟩ => ⟨x, q1, by rw [← e x q1]; exact q2⟩, fun ⟨x, q1, q2⟩ => ⟨x, q1, by rw [e x q1]; exact q2⟩⟩
  unfold gInN
  rw [hs]
  simp only
  rw [if_pos ⟨hd.2, List.all_eq_true.mpr fun x h => (hx x h).2⟩, e2]
/-- a text among texts that are written out -/
theorem gIn_ofs {neg : Bool} (a : String) (l : List String) (m : Me) : gInN neg (.str (Str.ofString a)) (.tup (l.map fun s => .str (Str.ofString s))) m = .ok (.bl (if neg then !(decide (a ∈ l)) else decide (a ∈ l))) m := by
  rw [gInN_nb (xs := l.map fun s => .str (Str.ofString s)) m rfl ⟨by simp [nb], rfl⟩ (fun x h => by obtain ⟨s, _, rfl⟩ := List.mem_map.mp h; exact ⟨by simp [nb], rfl⟩)]
  have e : ((l.map fun s => D.str (Str.ofString s)).any fun x => eqc x (.str (Str.ofString a))) = decide (a ∈ l) := by
    rw [Bool.eq_iff_iff, List.any_eq_true]
    simp only [decide_eq_true_eq]
    constructor
    · rintro ⟨x, hx, h⟩
      obtain ⟨s, hs, rfl⟩ := List.mem_map.mp hx
      have := eqc_iff.mp h
      simp at this; subst this; exact hs
    · intro h
      exact ⟨_, List.mem_map_of_mem h, eqc_self _⟩
  rw [e]
theorem gIn_2 (neg : Bool) (a b c : String) (m : Me) : gInN neg (.str (Str.ofString a)) (.tup [.str (Str.ofString b), .str (Str.ofString c)]) m = .ok (.bl (if neg then !(decide (a = b ∨ a = c)) else decide (a = b ∨ a = c))) m := by
  have := gIn_ofs (neg := neg) a [b, c] m
  simpa using this
theorem gIn_3 (neg : Bool) (a b c d : String) (m : Me) : gInN neg (.str (Str.ofString a)) (.tup [.str (Str.ofString b), .str (Str.ofString c), .str (Str.ofString d)]) m = .ok (.bl (if neg then !(decide (a = b ∨ a = c ∨ a = d)) else decide (a = b ∨ a = c ∨ a = d))) m := by
  have := gIn_ofs (neg := neg) a [b, c, d] m
  simpa using this
theorem gIn_4 (neg : Bool) (a b c d e : String) (m : Me) : gInN neg (.str (Str.ofString a)) (.tup [.str (Str.ofString b), .str (Str.ofString c), .str (Str.ofString d), .str (Str.ofString e)]) m = .ok (.bl (if neg then !(decide (a = b ∨ a = c ∨ a = d ∨ a = e)) else decide (a = b ∨ a = c ∨ a = d ∨ a = e))) m := by
  have := gIn_ofs (neg := neg) a [b, c, d, e] m
  simpa using this
/-- a number among numbers -/
theorem gIn_ints {neg : Bool} {s : D} {l : List Int} (i : Int) (m : Me) (hs : seqV m s = some (l.map .int)) : gInN neg (.int i) s m = .ok (.bl (if neg then !(decide (i ∈ l)) else decide (i ∈ l))) m := by
  rw [gInN_nb m hs ⟨rfl, rfl⟩ (fun x h => by obtain ⟨s, _, rfl⟩ := List.mem_map.mp h; exact ⟨rfl, rfl⟩)]
  have e : ((l.map D.int).any fun x => eqc x (.int i)) = decide (i ∈ l) := by
    rw [Bool.eq_iff_iff, List.any_eq_true]
    simp only [decide_eq_true_eq]
    constructor
    · rintro ⟨x, hx, h⟩
      obtain ⟨s, hs, rfl⟩ := List.mem_map.mp hx
      have := eqc_iff.mp h
      simp at this; subst this; exact hs
    · intro h
      exact ⟨_, List.mem_map_of_mem h, eqc_self _⟩
  rw [e]

/-! ### a thing is alike itself -/
noncomputable def bAlike (F : List D → Me → Res D) : MS :=
  (sSeq (sIf (mB (m1 (gIsi "tuple") (mVar 1))) (sSeq (sIf (mOr (mNot (mB (m1 (gIsi "tuple") (mVar 0)))) (mB (m2 gNe (mArgs gLen (mCons (mVar 0) mNil)) (mArgs gLen (mCons (mVar 1) mNil))))) (sSeq (sRet (mC (.bl false))) sNext) sNext) (sSeq (sRet (m2 gEq (mComp (iRange1 (mCons (mArgs gLen (mCons (mVar 1) mNil)) mNil)) [2] (tgN 2) (mNot (mB (mCall F (mCons (m2 gIx (mVar 0) (mVar 2)) (mCons (m2 gIx (mVar 1) (mVar 2)) mNil))))) (mVar 2)) (mLst mNil))) sNext)) sNext) (sSeq (sIf (mB (m2 gIsN (mVar 1) (mC .non))) (sSeq (sRet (m2 gIsN (mVar 0) (mC .non))) sNext) sNext) (sSeq (sIf (mB (m1 (gIsi "bool") (mVar 1))) (sSeq (sRet (mAndV (m1 (gIsi "bool") (mVar 0)) (m2 gEq (mVar 0) (mVar 1)))) sNext) sNext) (sSeq (sIf (mB (m1 (gIsi "int") (mVar 1))) (sSeq (sRet (mAndV (m1 (gIsi "int") (mVar 0)) (mAndV (mNotV (m1 (gIsi "bool") (mVar 0))) (m2 gEq (mVar 0) (mVar 1))))) sNext) sNext) (sSeq (sRet (mAndV (m1 (gIsi "str") (mVar 0)) (m2 gEq (mVar 0) (mVar 1)))) sNext)))))
mutual
/-- what alike knows: None, truths, numbers, texts, tuples -/
def al : D → Bool
  | .non => true
  | .bl _ => true
  | .int _ => true
  | .str s => PyData.strOk s
  | .tup xs => alL xs && decide (xs.length ≤ 1000000)
  | _ => false
def alL : List D → Bool
  | [] => true
  | x :: xs => al x && alL xs
end
theorem alL_iff {xs : List D} : alL xs = true ↔ ∀ x ∈ xs, al x = true := by
  induction xs with
  | nil => simp [alL]
  | cons a l ih => simp [alL, ih]
theorem isi_non (T : String) (m : Me) : gIsi T .non m = match kitB "NoneType" T with | some b => .ok (.bl b) m | none => .no := rfl
theorem isi_str (T : String) (s : Str) (m : Me) : gIsi T (.str s) m = match kitB "str" T with | some b => .ok (.bl b) m | none => .no := rfl
theorem isi_int (T : String) (i : Int) (m : Me) : gIsi T (.int i) m = match kitB "int" T with | some b => .ok (.bl b) m | none => .no := rfl
theorem isi_bl (T : String) (i : Bool) (m : Me) : gIsi T (.bl i) m = match kitB "bool" T with | some b => .ok (.bl b) m | none => .no := rfl
theorem isi_tup (T : String) (xs : List D) (m : Me) : gIsi T (.tup xs) m = match kitB "tuple" T with | some b => .ok (.bl b) m | none => .no := rfl
theorem ki1 : kitB "NoneType" "tuple" = some false := by decide +kernel
theorem ki2 : kitB "str" "tuple" = some false := by decide +kernel
theorem ki3 : kitB "str" "bool" = some false := by decide +kernel
theorem ki4 : kitB "str" "int" = some false := by decide +kernel
theorem ki5 : kitB "str" "str" = some true := by decide +kernel
theorem ki6 : kitB "int" "tuple" = some false := by decide +kernel
theorem ki7 : kitB "int" "bool" = some false := by decide +kernel
theorem ki8 : kitB "int" "int" = some true := by decide +kernel
theorem ki9 : kitB "tuple" "tuple" = some true := by decide +kernel
theorem ki10 : kitB "bool" "tuple" = some false := by decide +kernel
theorem ki11 : kitB "bool" "bool" = some true := by decide +kernel
theorem ki12 : kitB "tuple" "int" = some false := by decide +kernel
theorem ki13 : kitB "tuple" "str" = some false := by decide +kernel
theorem ki14 : kitB "tuple" "bool" = some false := by decide +kernel
theorem ki15 : kitB "int" "str" = some false := by decide +kernel
theorem ki16 : kitB "NoneType" "str" = some false := by decide +kernel
theorem ki17 : kitB "NoneType" "int" = some false := by decide +kernel
theorem ki18 : kitB "NoneType" "bool" = some false := by decide +kernel
theorem ki19 : kitB "bool" "int" = some true := by decide +kernel
theorem ki20 : kitB "bool" "str" = some false := by decide +kernel
theorem alike_has {A : Nat → List D → Me → Res D} (hA : ∀ n, A (n + 1) = runDef 3 2 (bAlike (A n))) : ∀ (n : Nat) (d : D), al d = true → dpD d < n → ∀ m : Me, A n [d, d] m = .ok (.bl true) m := by
  intro n
  induction n with
  | zero => intro d _ h; omega
  | succ n ih =>
    intro d ha hd m
    rw [hA]
    cases d with
    | non => simp [runDef, bAlike, isi_non, ki1, isN, leave_same]
    | bl b => simp [runDef, bAlike, isi_bl, ki10, ki11, isN, leave_same]
    | int i => simp [runDef, bAlike, isi_int, ki6, ki7, ki8, isN, leave_same]
    | str s =>
      have hs : PyData.strOk s = true := by simpa [al] using ha
      simp [runDef, bAlike, isi_str, ki2, ki3, ki4, ki5, isN, gEq_str _ _ _ hs hs, leave_same]
    | tup xs =>
      simp only [al, Bool.and_eq_true, decide_eq_true_eq] at ha
      obtain ⟨ha, hz⟩ := ha
      rw [alL_iff] at ha
      simp only [dpD] at hd
      have h : ∀ x ∈ xs, A n [x, x] m = .ok (.bl true) m := fun x hx => ih x (ha x hx) (by have := dpL_le.mp (Nat.le_refl _) x hx; omega) m
      have hc := compF_pure (gt := tgN 2) (c := (mNot (mB (mCall (A n) (mCons (m2 gIx (mVar 0) (mVar 2)) (mCons (m2 gIx (mVar 1) (mVar 2)) mNil)))))) (e := mVar 2) (ρ := [some (.tup xs), some (.tup xs), none]) (m := m) (fun _ => false) id (rngL 0 xs.length) fun d hd => by
        obtain ⟨k, hk, rfl⟩ := rng_mem hd
        have hx : gIx (.tup xs) (.int ((0 : Int) + k)) m = .ok xs[k] m := by
          unfold gIx; simp only [view_tup', Int.zero_add]
          rw [atI_nat (List.getElem?_eq_getElem hk)]
        refine ⟨_, rfl, ?_, fun z => by cases z⟩
        have hh := h _ (List.getElem_mem hk)
        simp at hx
        simp [hx, hh]
      have hf : ((rngL 0 xs.length).filter fun _ => false) = [] := List.filter_eq_nil_iff.mpr fun _ _ => by simp
      rw [hf] at hc
      have en : gEq (.lst []) (.lst []) m = .ok (.bl true) m := gEq_lnil m rfl (by simp [dpL])
      simp [runDef, bAlike, isi_tup, ki9, show (xs.length : Int) ≤ 1000000 ∧ (-1000000 : Int) ≤ xs.length by omega, hc, en, leave_same]
    | _ => cases ha
/-! ### loops over what is known -/
theorem for_cons {Q : Fl → Prop} {i : Nat} {body : MS} {d : D} {r : List D} {ρ : En} {m : Me} (h : FHas (kL (fun ρ m => FHas Q (forF (tgN i) body gdY r ρ m)) Q) (body (ρ.set i (some d)) m)) : FHas Q (forF (tgN i) body gdY (d :: r) ρ m) := by
  unfold forF
  simp only [gdY_e, if_true, tgN_e]
  cases e : body (ρ.set i (some d)) m with
  | no => rw [e] at h; exact h.elim
  | exc x ρ m => rw [e] at h; exact h
  | nx ρ2 m2 => rw [e] at h; exact h
  | ct ρ2 m2 => rw [e] at h; exact h
  | bk ρ2 m2 => rw [e] at h; exact h
  | rt d m => rw [e] at h; exact h
theorem for_nil {Q : Fl → Prop} {gt : D → En → Option En} {body : MS} {ρ : En} {m : Me} (h : Q (.nx ρ m)) : FHas Q (forF gt body gdY [] ρ m) := h
theorem rngL_succ (k j : Nat) : rngL k (j + 1) = .int k :: rngL ((k + 1 : Nat) : Int) j := by
  unfold rngL
  rw [List.range_succ_eq_map, List.map_cons, List.map_map]
  simp
  intro a _; omega
theorem rngL_map (n : Nat) : rngL 0 n = (List.range n).map fun (k : Nat) => D.int (k : Int) := by
  unfold rngL; simp
theorem rngL_ints (i : Int) (n : Nat) : rngL i n = ((List.range n).map fun (k : Nat) => i + (k : Int)).map D.int := by
  unfold rngL; rw [List.map_map]; rfl
/-! ### one step more -/
@[simp ↓] theorem mIndex_h {Q : Res _ → Prop} (fo fe : ME) (ρ : En) (m : Me) : RHas Q (mIndex fo fe ρ m) = RHas Q ((fo ρ m).bind fun d m => if isSeq m d = true then (fe ρ m).bind fun y m => gIndex d y m else .no) := rfl
@[simp ↓] theorem mTupRg_h {Q : Res _ → Prop} (g : En → Me → Res (Int × Int)) (ρ : En) (m : Me) : RHas Q (mTupRg g ρ m) = RHas Q ((g ρ m).bind fun p m => if (p.1 ≤ 1000000 ∧ -1000000 ≤ p.1) ∧ p.2 ≤ 1000000 ∧ -1000000 ≤ p.2 then .ok (.tup (rngL p.1 (p.2 - p.1).toNat)) m else .no) := rfl
@[simp ↓] theorem mLstRg_h {Q : Res _ → Prop} (g : En → Me → Res (Int × Int)) (ρ : En) (m : Me) : RHas Q (mLstRg g ρ m) = RHas Q ((g ρ m).bind fun p m => if (p.1 ≤ 1000000 ∧ -1000000 ≤ p.1) ∧ p.2 ≤ 1000000 ∧ -1000000 ≤ p.2 then .ok (.lst (rngL p.1 (p.2 - p.1).toNat)) m else .no) := rfl
@[simp ↓] theorem mRg1_h {Q : Res _ → Prop} (fa : ME) (ρ : En) (m : Me) : RHas Q (mRg1 fa ρ m) = RHas Q ((fa ρ m).bind fun d m => match d with
  | .int j => .ok (0, j) m
  | _ => .no) := rfl
@[simp ↓] theorem mRg2_h {Q : Res _ → Prop} (fa fb : ME) (ρ : En) (m : Me) : RHas Q (mRg2 fa fb ρ m) = RHas Q ((fa ρ m).bind fun d m => (fb ρ m).bind fun d' m => match d, d' with
  | .int i, .int j => .ok (i, j) m
  | _, _ => .no) := rfl
/-- where a number stands among numbers -/
theorem gIndex_ints {s : D} {l : List Int} {i : Int} {j : Nat} (m : Me) (hs : seqV m s = some (l.map .int)) (h : l[j]? = some i) (hn : ∀ k < j, l[k]? ≠ some i) : gIndex s (.int i) m = .ok (.int (j : Int)) m := by
  have key : ∀ (l : List Int) (j : Nat), l[j]? = some i → (∀ k < j, l[k]? ≠ some i) → idxD (.int i) (l.map .int) = some j := by
    intro l
    induction l with
    | nil => intro j h _; simp at h
    | cons a l ih =>
      intro j h hn
      cases j with
      | zero => simp at h; subst h; simp [idxD, eqF]
      | succ j =>
        have h0 := hn 0 (by omega)
        simp at h h0
        rw [List.map_cons, idxD, if_neg (by simp [eqF, h0]), ih j h (fun k hk => by have := hn (k + 1) (by omega); simpa using this)]
        rfl
  unfold gIndex
  rw [hs]
  simp only
  rw [if_pos ⟨rfl, by simp [flatD]⟩, key l j h hn]
/-! ### items and slices that are written out -/
section
variable (a b c d y : D) (xs ys : List D) (m : Me)
@[simp ↓, simp] theorem gIx_t0 : gIx (.tup (a :: xs)) (.int 0) m = .ok a m := by
  unfold gIx; simp only [view_tup']; rw [show (0 : Int) = ((0 : Nat) : Int) from rfl, atI_nat rfl]
@[simp ↓, simp] theorem gIx_t1 : gIx (.tup (a :: b :: xs)) (.int 1) m = .ok b m := by
  unfold gIx; simp only [view_tup']; rw [show (1 : Int) = ((1 : Nat) : Int) from rfl, atI_nat rfl]
@[simp ↓, simp] theorem gIx_t2 : gIx (.tup (a :: b :: c :: xs)) (.int 2) m = .ok c m := by
  unfold gIx; simp only [view_tup']; rw [show (2 : Int) = ((2 : Nat) : Int) from rfl, atI_nat rfl]
@[simp ↓, simp] theorem gIx_t3 : gIx (.tup (a :: b :: c :: d :: xs)) (.int 3) m = .ok d m := by
  unfold gIx; simp only [view_tup']; rw [show (3 : Int) = ((3 : Nat) : Int) from rfl, atI_nat rfl]
@[simp ↓, simp] theorem gIx_l0 : gIx (.lst (a :: xs)) (.int 0) m = .ok a m := by
  unfold gIx; simp only [view_lst']; rw [show (0 : Int) = ((0 : Nat) : Int) from rfl, atI_nat rfl]
@[simp ↓, simp] theorem gIx_l1 : gIx (.lst (a :: b :: xs)) (.int 1) m = .ok b m := by
  unfold gIx; simp only [view_lst']; rw [show (1 : Int) = ((1 : Nat) : Int) from rfl, atI_nat rfl]
@[simp ↓, simp] theorem gIx_l2 : gIx (.lst (a :: b :: c :: xs)) (.int 2) m = .ok c m := by
  unfold gIx; simp only [view_lst']; rw [show (2 : Int) = ((2 : Nat) : Int) from rfl, atI_nat rfl]
theorem atI_last {α : Type} {xs : List α} {y : α} : atI (xs ++ [y]) (-1) = some y := by
  have e : ixN (xs ++ [y]).length (-1) = some xs.length := by
    unfold ixN
    rw [if_neg (by decide), if_pos (by simp; omega)]
    simp; omega
  unfold atI
  rw [e]; simp
theorem gIx_tlast : gIx (.tup (xs ++ [y])) (.int (-1)) m = .ok y m := by
  unfold gIx; simp only [view_tup']; rw [atI_last]
theorem gIx_llast : gIx (.lst (xs ++ [y])) (.int (-1)) m = .ok y m := by
  unfold gIx; simp only [view_lst']; rw [atI_last]
@[simp ↓, simp] theorem gIx_m1 : gIx (.tup [a]) (.int (-1)) m = .ok a m := gIx_tlast a [] m
@[simp ↓, simp] theorem gIx_m2 : gIx (.tup [a, b]) (.int (-1)) m = .ok b m := gIx_tlast b [a] m
@[simp ↓, simp] theorem gIx_m3 : gIx (.tup [a, b, c]) (.int (-1)) m = .ok c m := gIx_tlast c [a, b] m
@[simp ↓, simp] theorem gIx_m4 : gIx (.tup [a, b, c, d]) (.int (-1)) m = .ok d m := gIx_tlast d [a, b, c] m
theorem cut_1 {α : Type} {a : α} {xs : List α} : FL.cutD (a :: xs) (some 1) none = xs := by
  unfold FL.cutD
  rw [HT.sIx_none, show (some (1 : Int)) = some ((1 : Nat) : Int) from rfl, HT.sIx_nat]
  simp
theorem cut_2 {α : Type} {a b : α} {xs : List α} : FL.cutD (a :: b :: xs) (some 2) none = xs := by
  unfold FL.cutD
  rw [HT.sIx_none, show (some (2 : Int)) = some ((2 : Nat) : Int) from rfl, HT.sIx_nat]
  simp
theorem cut_to {α : Type} {xs ys : List α} {k : Nat} (h : xs.length = k) : FL.cutD (xs ++ ys) none (some (k : Int)) = xs := by
  unfold FL.cutD
  rw [HT.sIx_none, HT.sIx_nat]
  simp; subst h; simp
theorem cut_last {α : Type} {xs : List α} {y : α} : FL.cutD (xs ++ [y]) none (some (-1)) = xs := by
  unfold FL.cutD
  rw [HT.sIx_none]
  unfold HT.sIx
  simp
  rw [show (-1 + ((xs.length : Int) + 1)).toNat = xs.length by omega]; simp
@[simp ↓, simp] theorem gSl_t1 : gSl (.tup (a :: xs)) (some 1) none m = .ok (.tup xs) m := by unfold gSl; simp only [view_tup', cut_1]
@[simp ↓, simp] theorem gSl_l1 : gSl (.lst (a :: xs)) (some 1) none m = .ok (.lst xs) m := by unfold gSl; simp only [view_lst', cut_1]
@[simp ↓, simp] theorem gSl_t2 : gSl (.tup (a :: b :: xs)) (some 2) none m = .ok (.tup xs) m := by unfold gSl; simp only [view_tup', cut_2]
@[simp ↓, simp] theorem gSl_to2 : gSl (.tup (a :: b :: xs)) none (some 2) m = .ok (.tup [a, b]) m := by
  unfold gSl; simp only [view_tup']; rw [show a :: b :: xs = [a, b] ++ xs from rfl, show (2 : Int) = ((2 : Nat) : Int) from rfl, cut_to (k := 2) rfl]
@[simp ↓, simp] theorem gSl_to3 : gSl (.tup (a :: b :: c :: xs)) none (some 3) m = .ok (.tup [a, b, c]) m := by
  unfold gSl; simp only [view_tup']; rw [show a :: b :: c :: xs = [a, b, c] ++ xs from rfl, show (3 : Int) = ((3 : Nat) : Int) from rfl, cut_to (k := 3) rfl]
@[simp ↓, simp] theorem gSl_llast : gSl (.lst (xs ++ [y])) none (some (-1)) m = .ok (.lst xs) m := by unfold gSl; simp only [view_lst', cut_last]
@[simp ↓, simp] theorem gList_tup : gList [.tup xs] m = .ok (.lst xs) m := rfl
@[simp ↓, simp] theorem gList_lst : gList [.lst xs] m = .ok (.lst xs) m := rfl
@[simp ↓, simp] theorem gAdd_lst : gAdd (.lst xs) (.lst ys) m = if xs.length + ys.length ≤ 16777216 then .ok (.lst (xs ++ ys)) m else .no := by unfold gAdd; simp only [view_lst', sizeLine_eq]
@[simp ↓, simp] theorem gAdd_tup : gAdd (.tup xs) (.tup ys) m = if xs.length + ys.length ≤ 16777216 then .ok (.tup (xs ++ ys)) m else .no := by unfold gAdd; simp only [view_tup', sizeLine_eq]
end
end FL

set_option maxRecDepth 100000
namespace FL
open PySem PySem.Spec PyProof.Rows L2

/-! ### one step: instances, tuple keys, chains -/
@[simp ↓] theorem mFld_h {Q : Res _ → Prop} (C : Addr) (x : Str) (fo : ME) (ρ : En) (m : Me) : RHas Q (mFld C x fo ρ m) = RHas Q ((fo ρ m).bind fun d m => match d with
  | .ref i => match m[i]? with
    | some (.ins C' fs) => if C' = C then match fs.lookup x with
      | some d => .ok d m
      | none => .no
      else .no
    | _ => .no
  | _ => .no) := rfl
@[simp ↓] theorem sFldD_h {Q : Fl → Prop} (C : Addr) (x : Str) (fo fv : ME) (ρ : En) (m : Me) : FHas Q (sFldD C x fo fv ρ m) = FHas Q (bindS (fv ρ m) ρ fun y m => bindS (fo ρ m) ρ fun d m => match d with
  | .ref i => match m[i]? with
    | some (.ins C' fs) => if C' = C ∧ fs.length < 1000 then .nx ρ (m.set i (.ins C (putA x y fs))) else .no
    | _ => .no
  | _ => .no) := rfl
@[simp ↓] theorem mMeth_h {Q : Res _ → Prop} (C : Addr) (x : Str) (F : List D → Me → Res D) (fo : ME) (fa : MA) (ρ : En) (m : Me) : RHas Q (mMeth C x F fo fa ρ m) = RHas Q ((fo ρ m).bind fun d m => match d with
  | .ref i => match m[i]? with
    | some (.ins C' fs) => if C' = C ∧ fs.lookup x = none then (fa ρ m).bind fun ds m => noX (F (.ref i :: ds) m) else .no
    | _ => .no
  | _ => .no) := rfl
@[simp ↓] theorem mDgetT_h {Q : Res _ → Prop} (fo : ME) (fa : MA) (ρ : En) (m : Me) : RHas Q (mDgetT fo fa ρ m) = RHas Q ((fo ρ m).bind fun d m => (fa ρ m).bind fun ks m => match lookT m d ks with
  | some (some y) => .ok y m
  | _ => .no) := rfl
@[simp ↓] theorem mDinT_h {Q : Res _ → Prop} (neg : Bool) (fa : MA) (fo : ME) (ρ : En) (m : Me) : RHas Q (mDinT neg fa fo ρ m) = RHas Q ((fa ρ m).bind fun ks m => (fo ρ m).bind fun d m => match lookT m d ks with
  | some o => .ok (.bl (if neg then !o.isSome else o.isSome)) m
  | none => .no) := rfl
@[simp ↓] theorem sDputT_h {Q : Fl → Prop} (fo : ME) (fa : MA) (fv : ME) (ρ : En) (m : Me) : FHas Q (sDputT fo fa fv ρ m) = FHas Q (bindS (fv ρ m) ρ fun y m => bindS (fo ρ m) ρ fun d m => bindS (fa ρ m) ρ fun ks m => match dputT m d ks y with
  | some m' => .nx ρ m'
  | none => .no) := rfl
@[simp ↓] theorem mNewT_h {Q : Res _ → Prop} (ρ : En) (m : Me) : RHas Q (mNewT ρ m) = RHas Q (.ok (.ref m.length) (m ++ [.dT []])) := rfl
@[simp ↓] theorem mChain_h {Q : Res _ → Prop} (g g' : D → D → Me → Res D) (fa fb fc : ME) (ρ : En) (m : Me) : RHas Q (mChain g g' fa fb fc ρ m) = RHas Q ((fa ρ m).bind fun d m => (fb ρ m).bind fun d' m => (g d d' m).bind fun z m => match z with
  | .bl true => (fc ρ m).bind fun d'' m => g' d' d'' m
  | .bl false => .ok (.bl false) m
  | _ => .no) := rfl
@[simp ↓] theorem mPop_h {Q : Res _ → Prop} (fo : ME) (ρ : En) (m : Me) : RHas Q (mPop fo ρ m) = RHas Q ((fo ρ m).bind fun d m => match d with
  | .ref i => match m[i]? with
    | some (.lst xs) => match xs[xs.length - 1]? with
      | some y => .ok y (m.set i (.lst xs.dropLast))
      | none => .no
    | _ => .no
  | _ => .no) := rfl
@[simp ↓] theorem mRemove_h {Q : Res _ → Prop} (fo fe : ME) (ρ : En) (m : Me) : RHas Q (mRemove fo fe ρ m) = RHas Q ((fo ρ m).bind fun d m => match d with
  | .ref i => match m[i]? with
    | some (.lst _) => (fe ρ m).bind fun y m => match y with
      | .int k => match m[i]? with
        | some (.lst xs) => match intsD xs with
          | some ns => match idxI k ns with
            | some j => .ok .non (m.set i (.lst ((ns.eraseIdx j).map .int)))
            | none => .no
          | none => .no
        | _ => .no
      | _ => .no
    | _ => .no
  | _ => .no) := rfl
@[simp ↓] theorem mCount_h {Q : Res _ → Prop} (fo fe : ME) (ρ : En) (m : Me) : RHas Q (mCount fo fe ρ m) = RHas Q ((fo ρ m).bind fun d m => match lstV m d with
  | some _ => (fe ρ m).bind fun y m => match y, (lstV m d).bind intsD with
    | .int k, some ns => .ok (.int (ns.count k : Nat)) m
    | _, _ => .no
  | none => .no) := rfl
@[simp ↓] theorem mkC_h {Q : Res _ → Prop} (C : Addr) (F : List D → Me → Res D) (ds : List D) (m : Me) : RHas Q (mkC C F ds m) = RHas Q ((F (.ref m.length :: ds) (m ++ [.ins C []])).bind fun d m' => match d with
  | .non => .ok (.ref m.length) m'
  | _ => .no) := rfl
/-- .. a def that keeps what it made -/
def kK (Q : Res D → Prop) : Fl → Prop := fun
  | .nx _ m' => Q (.ok .non m')
  | .rt d m' => Q (.ok d m')
  | _ => False
@[simp ↓, simp] theorem kK_nx {Q : Res D → Prop} {ρ : En} {m : Me} : kK Q (.nx ρ m) = Q (.ok .non m) := rfl
@[simp ↓, simp] theorem kK_rt {Q : Res D → Prop} {d : D} {m : Me} : kK Q (.rt d m) = Q (.ok d m) := rfl
theorem has_defK {Q : Res D → Prop} {N n : Nat} {f : MS} {ds : List D} {m : Me} (ρ : En) (h : FHas (kK Q) (f ρ m)) (e : ds.map some ++ List.replicate (N - n) none = ρ := by rfl) : RHas Q (runDefK N n f ds m) := by
  unfold runDefK
  rw [e]
  cases q : f ρ m with
  | no => rw [q] at h; exact h.elim
  | exc x ρ m => rw [q] at h; exact h.elim
  | bk ρ m => rw [q] at h; exact h.elim
  | ct ρ m => rw [q] at h; exact h.elim
  | nx ρ m => rw [q] at h; exact h
  | rt d m => rw [q] at h; exact h
end FL

set_option maxRecDepth 100000
namespace FL
open PySem PySem.Spec PyProof.Rows L2

/-! ### dicts -/
theorem getK_cons (p : Key × D) (r : List (Key × D)) (k : Key) : getK (p :: r) k = if p.1 = k then some p.2 else getK r k := by
  unfold getK; rw [List.find?_cons]
  by_cases h : p.1 = k <;> simp [h]
theorem getK_none {k : Key} : ∀ {kvs : List (Key × D)}, (kvs.any fun kv => decide (kv.1 = k)) = false → getK kvs k = none
  | [], _ => rfl
  | p :: r, h => by
    simp only [List.any_cons, Bool.or_eq_false_iff, decide_eq_false_iff_not] at h
    rw [getK_cons, if_neg h.1, getK_none h.2]
theorem getK_map (k k' : Key) (v : D) : ∀ kvs : List (Key × D), getK (kvs.map fun kv => if kv.1 = k then (kv.1, v) else kv) k' = if k = k' ∧ (kvs.any fun kv => decide (kv.1 = k)) = true then some v else getK kvs k'
  | [] => by simp [getK]
  | p :: r => by
    rw [List.map_cons, getK_cons, getK_cons, getK_map k k' v r]
    by_cases h1 : p.1 = k
    · by_cases h2 : k = k'
      · simp [h1, h2]
      · have : ¬p.1 = k' := fun z => h2 (h1.symm.trans z)
        simp [h1, h2, this]
    · by_cases h2 : p.1 = k'
      · have : ¬k = k' := fun z => h1 (h2.trans z.symm)
        rw [if_neg h1, if_pos h2, if_pos h2, if_neg fun z => this z.1]
      · rw [if_neg h1, if_neg h2, if_neg h2, List.any_cons, decide_eq_false h1, Bool.false_or]
theorem getK_app (k k' : Key) (v : D) : ∀ kvs : List (Key × D), getK (kvs ++ [(k, v)]) k' = match getK kvs k' with
    | some x => some x
    | none => if k = k' then some v else none
  | [] => by simp [getK_cons, getK]
  | p :: r => by
    rw [List.cons_append, getK_cons, getK_cons, getK_app k k' v r]
    by_cases h : p.1 = k' <;> simp [h]
theorem getK_setK (kvs : List (Key × D)) (k k' : Key) (v : D) : getK (setK kvs k v) k' = if k = k' then some v else getK kvs k' := by
  unfold setK
  by_cases h : (kvs.any fun kv => decide (kv.1 = k)) = true
  · rw [if_pos h, getK_map]; simp [h]
  · rw [if_neg h, getK_app]
    by_cases e : k = k'
    · subst e; rw [getK_none (Bool.eq_false_iff.mpr h)]
    · rw [if_neg e, if_neg e]; cases getK kvs k' <;> rfl
theorem setK_le (kvs : List (Key × D)) (k : Key) (v : D) : (setK kvs k v).length ≤ kvs.length + 1 := by unfold setK; split <;> simp
theorem clo_kvs {n : Nat} {kvs : List (Key × D)} : cloK n kvs = true ↔ ∀ p ∈ kvs, clo n p.2 = true := by
  induction kvs with
  | nil => simp [cloK]
  | cons p r ih =>
    obtain ⟨k, d⟩ := p
    simp only [cloK, cloP, Bool.and_eq_true, List.mem_cons, forall_eq_or_imp, ih]
theorem clo_setK' {n : Nat} {kvs : List (Key × D)} {k : Key} {v : D} (h : cloK n kvs = true) (hv : clo n v = true) : cloK n (setK kvs k v) = true := by
  rw [clo_kvs] at h ⊢
  intro p hp
  unfold setK at hp
  split at hp
  · obtain ⟨q, hq, rfl⟩ := List.mem_map.mp hp
    split
    · exact hv
    · exact h q hq
  · rcases List.mem_append.mp hp with hp | hp
    · exact h p hp
    · rw [List.mem_singleton.mp hp]; exact hv
end FL

set_option maxRecDepth 100000
namespace FL
open PySem PySem.Spec PyProof.Rows L2

/-! ### one step: zip, lists that will change -/
@[simp ↓] theorem mCompC_h {Q : Res _ → Prop} (it : MI) (vs : List Nat) (gt : D → En → Option En) (c : MT) (e : ME) (ρ : En) (m : Me) : RHas Q (mCompC it vs gt c e ρ m) = RHas Q ((it ρ m).bind fun p m => (noX (compF gt c e p.2 (wipeD ρ vs) p.1 m)).bind fun ys m => .ok (.ref m.length) (m ++ [.lst ys])) := rfl
@[simp ↓] theorem mLstRgC_h {Q : Res _ → Prop} (g : En → Me → Res (Int × Int)) (ρ : En) (m : Me) : RHas Q (mLstRgC g ρ m) = RHas Q ((g ρ m).bind fun p m => if (p.1 ≤ 1000000 ∧ -1000000 ≤ p.1) ∧ p.2 ≤ 1000000 ∧ -1000000 ≤ p.2 then .ok (.ref m.length) (m ++ [.lst (rngL p.1 (p.2 - p.1).toNat)]) else .no) := rfl
@[simp ↓] theorem iZip_h {Q : Res _ → Prop} (f g : MZ) (ρ : En) (m : Me) : RHas Q (iZip f g ρ m) = RHas Q ((f ρ m).bind fun z m => (g ρ m).bind fun z' m => (zItems z m).bind fun p m => (zItems z' m).bind fun p' m => .ok (List.zipWith (fun a b => D.tup [a, b]) p.1 p'.1, fun m => p.2 m && p'.2 m) m) := rfl
@[simp ↓] theorem zDat_h {Q : Res _ → Prop} (f : ME) (ρ : En) (m : Me) : RHas Q (zDat f ρ m) = RHas Q ((f ρ m).bind fun d m => .ok (.dat d) m) := rfl
@[simp ↓] theorem zRng1_h {Q : Res _ → Prop} (f : MA) (ρ : En) (m : Me) : RHas Q (zRng1 f ρ m) = RHas Q ((f ρ m).bind fun ds m => match ds with
  | [.int j] => .ok (.rng 0 j) m
  | _ => .no) := rfl
@[simp] theorem zItems_dat (d : D) (m : Me) : zItems (.dat d) m = asIt d m := rfl
@[simp] theorem zItems_rng (lo hi : Int) (m : Me) : zItems (.rng lo hi) m = if (hi ≤ 1000000 ∧ -1000000 ≤ hi) ∧ lo ≤ 1000000 ∧ -1000000 ≤ lo then .ok (rngL lo (hi - lo).toNat, gdY) m else .no := rfl
theorem gdY2 : (fun m => gdY m && gdY m) = gdY := rfl
/-! ### a while loop, by what holds at each turn -/
def kWh (body : MS) (I : En → Me → Prop) (Q : Fl → Prop) (ρ : En) : Res Bool → Prop := fun
  | .ok b m => if b = true then FHas (kL I Q) (body ρ m) else Q (.nx ρ m)
  | _ => False
@[simp ↓, simp] theorem kWh_ok {body : MS} {I : En → Me → Prop} {Q : Fl → Prop} {ρ : En} {b : Bool} {m : Me} : kWh body I Q ρ (.ok b m) = if b = true then FHas (kL I Q) (body ρ m) else Q (.nx ρ m) := rfl
theorem wh_has {c : MT} {body : MS} {Q : Fl → Prop} (Inv : Nat → En → Me → Prop)
    (step : ∀ k ρ m, Inv k ρ m → RHas (kWh body (fun ρ m => ∃ j, j < k ∧ Inv j ρ m) Q ρ) (c ρ m)) : ∀ (N k : Nat) (ρ : En) (m : Me), k < N → Inv k ρ m → FHas Q (whF c body N ρ m) := by
  intro N
  induction N with
  | zero => intro k ρ m h; omega
  | succ N ih =>
    intro k ρ m hk h
    have st := step k ρ m h
    unfold whF
    cases ec : c ρ m with
    | no => rw [ec] at st; exact st.elim
    | exc x m => rw [ec] at st; exact st.elim
    | ok b m1 =>
      rw [ec] at st
      simp only [rhas_ok, kWh_ok] at st
      simp only [bindS_ok]
      cases b with
      | false => rw [if_neg Bool.false_ne_true] at st ⊢; exact st
      | true =>
        rw [if_pos rfl] at st ⊢
        cases eb : body ρ m1 with
        | no => rw [eb] at st; exact st.elim
        | exc x ρ m => rw [eb] at st; exact st
        | nx ρ2 m2 => rw [eb] at st; obtain ⟨j, hj, i⟩ := st; exact ih j ρ2 m2 (by omega) i
        | ct ρ2 m2 => rw [eb] at st; obtain ⟨j, hj, i⟩ := st; exact ih j ρ2 m2 (by omega) i
        | bk ρ2 m2 => rw [eb] at st; exact st
        | rt d m => rw [eb] at st; exact st
/-! ### things that are told one by one: numbers, texts -/
structure FlatI {α : Type} (f : α → D) : Prop where
  nb : ∀ a, nb (f a) = true
  fl : ∀ a, flatD (f a) = true
  inj : ∀ {a b}, f a = f b → a = b
  d0 : ∀ a, dpD (f a) = 0
def natD (k : Nat) : D := .int (k : Int)
def strD (s : String) : D := .str (Str.ofString s)
theorem natD_flat : FlatI natD := ⟨fun _ => rfl, fun _ => rfl, fun h => by simp only [natD, D.int.injEq] at h; omega, fun _ => rfl⟩
theorem strD_flat : FlatI strD := ⟨fun _ => by simp [strD, FL.nb], fun _ => rfl, fun h => by simpa [strD, ofs_eq] using h, fun _ => rfl⟩
theorem int_flat : FlatI D.int := ⟨fun _ => rfl, fun _ => rfl, fun h => by simpa using h, fun _ => rfl⟩
section
variable {α : Type} [DecidableEq α] {f : α → D}
theorem FlatI.nbs (F : FlatI f) (l : List α) : nbL (l.map f) = true := nbL_iff.mpr fun x hx => by obtain ⟨a, _, rfl⟩ := List.mem_map.mp hx; exact F.nb a
theorem FlatI.dps (F : FlatI f) (l : List α) : dpL (l.map f) ≤ 1 := dpL_le.mpr fun x hx => by obtain ⟨a, _, rfl⟩ := List.mem_map.mp hx; rw [F.d0]; omega
theorem FlatI.eqc (F : FlatI f) (a b : α) : FL.eqc (f a) (f b) = decide (a = b) := by
  rw [Bool.eq_iff_iff, eqc_iff, decide_eq_true_eq]; exact ⟨F.inj, fun h => by rw [h]⟩
theorem FlatI.gIn (F : FlatI f) {neg : Bool} {s : D} {l : List α} (a : α) (m : Me) (hs : seqV m s = some (l.map f)) : gInN neg (f a) s m = .ok (.bl (if neg then !(decide (a ∈ l)) else decide (a ∈ l))) m := by
  rw [gInN_nb m hs ⟨F.nb a, F.fl a⟩ (fun x h => by obtain ⟨s, _, rfl⟩ := List.mem_map.mp h; exact ⟨F.nb s, F.fl s⟩)]
  have e : ((l.map f).any fun x => FL.eqc x (f a)) = decide (a ∈ l) := by
    rw [Bool.eq_iff_iff, List.any_eq_true, decide_eq_true_eq]
    constructor
    · rintro ⟨x, hx, h⟩
      obtain ⟨s, hs, rfl⟩ := List.mem_map.mp hx
      rw [F.inj (eqc_iff.mp h)] at hs; exact hs
    · intro h; exact ⟨_, List.mem_map_of_mem h, eqc_self _⟩
  rw [e]
theorem FlatI.eqF (F : FlatI f) (a b : α) : FL.eqF (f a) (f b) = decide (a = b) := by
  have h1 := F.nb a
  have h2 := F.fl a
  have h3 := F.nb b
  have h4 := F.fl b
  have e : FL.eqF (f a) (f b) = FL.eqc (f a) (f b) := by
    generalize f a = x at *
    generalize f b = y at *
    rw [Bool.eq_iff_iff, eqc_iff]
    cases x <;> cases y <;> simp [FL.nb, flatD] at h1 h2 h3 h4 <;> simp [FL.eqF]
  rw [e, F.eqc]
theorem FlatI.idx (F : FlatI f) {l : List α} {a : α} (h : a ∈ l) : idxD (f a) (l.map f) = some (l.idxOf a) := by
  induction l with
  | nil => cases h
  | cons b l ih =>
    rw [List.map_cons, idxD, F.eqF, List.idxOf_cons]
    by_cases e : b = a
    · simp [e]
    · have : a ∈ l := by
        rcases List.mem_cons.mp h with h | h
        · exact absurd h.symm e
        · exact h
      have e2 : (b == a) = false := by simpa using e
      simp [e, ih this, e2]
theorem FlatI.gIndex (F : FlatI f) {s : D} {l : List α} {a : α} (m : Me) (hs : seqV m s = some (l.map f)) (h : a ∈ l) : FL.gIndex s (f a) m = .ok (.int (l.idxOf a : Nat)) m := by
  unfold FL.gIndex
  rw [hs]
  simp only
  rw [if_pos ⟨F.fl a, List.all_eq_true.mpr fun x hx => by obtain ⟨b, _, rfl⟩ := List.mem_map.mp hx; exact F.fl b⟩, F.idx h]
theorem FlatI.gEq (F : FlatI f) (a b : α) (m : Me) : FL.gEq (f a) (f b) m = .ok (.bl (decide (a = b))) m := by
  rw [gEq_nb m (F.nb a) (F.nb b) (by rw [F.d0]; omega) (by rw [F.d0]; omega), F.eqc]
theorem FlatI.gNe (F : FlatI f) (a b : α) (m : Me) : FL.gNe (f a) (f b) m = .ok (.bl (!decide (a = b))) m := by
  rw [gNe_nb m (F.nb a) (F.nb b) (by rw [F.d0]; omega) (by rw [F.d0]; omega), F.eqc]
theorem FlatI.gEqNil (F : FlatI f) (l : List α) (m : Me) : FL.gEq (.lst (l.map f)) (.lst []) m = .ok (.bl l.isEmpty) m := by
  rw [gEq_lnil m (F.nbs l) (by have := F.dps l; omega)]; simp
theorem FlatI.gNeNil (F : FlatI f) (l : List α) (m : Me) : FL.gNe (.lst (l.map f)) (.lst []) m = .ok (.bl (!l.isEmpty)) m := by
  rw [gNe_lnil m (F.nbs l) (by have := F.dps l; omega)]; simp
theorem rngL_nat (n : Nat) : rngL 0 n = (List.range n).map natD := by rw [rngL_map]; rfl
end
theorem idxOf_get {α : Type} [DecidableEq α] {l : List α} {a : α} (h : a ∈ l) : l[l.idxOf a]? = some a := by
  have h1 := List.idxOf_lt_length_iff.mpr h
  rw [List.getElem?_eq_getElem h1, List.getElem_idxOf h1]
theorem gIx_tget {xs : List D} {i : Nat} {y : D} (m : Me) (h : xs[i]? = some y) : gIx (.tup xs) (.int (i : Int)) m = .ok y m := by
  unfold gIx; simp only [view_tup']; rw [atI_nat h]
theorem gIx_lget {xs : List D} {i : Nat} {y : D} (m : Me) (h : xs[i]? = some y) : gIx (.lst xs) (.int (i : Int)) m = .ok y m := by
  unfold gIx; simp only [view_lst']; rw [atI_nat h]
theorem gIx_rget {i k : Nat} {xs : List D} {y : D} (m : Me) (hm : m[k]? = some (.lst xs)) (h : xs[i]? = some y) : gIx (.ref k) (.int (i : Int)) m = .ok y m := by
  unfold gIx; rw [view_ref_lst hm]; simp only; rw [atI_nat h]
theorem gIx_rlast {k : Nat} {xs : List D} {y : D} (m : Me) (hm : m[k]? = some (.lst (xs ++ [y]))) : gIx (.ref k) (.int (-1)) m = .ok y m := by
  unfold gIx; rw [view_ref_lst hm]; simp only; rw [atI_last]
theorem gTuple_ref {k : Nat} {xs : List D} {m : Me} (hm : m[k]? = some (.lst xs)) : gTuple [.ref k] m = .ok (.tup xs) m := by unfold gTuple; simp only [view_ref_lst hm]
theorem gLen_ref {k : Nat} {xs : List D} {m : Me} (hm : m[k]? = some (.lst xs)) : gLen [.ref k] m = .ok (.int (xs.length : Nat)) m := by unfold gLen; simp only [view_ref_lst hm]
theorem gNe_ref {k : Nat} {xs : List D} {m : Me} (d : D) (hm : m[k]? = some (.lst xs)) : gNe (.ref k) d m = gNe (.lst xs) d m := by unfold gNe; rw [view_ref_lst hm]; rfl
theorem gEq_ref {k : Nat} {xs : List D} {m : Me} (d : D) (hm : m[k]? = some (.lst xs)) : gEq (.ref k) d m = gEq (.lst xs) d m := by unfold gEq; rw [view_ref_lst hm]; rfl
theorem seq_ref {k : Nat} {xs : List D} {m : Me} (hm : m[k]? = some (.lst xs)) : seqV m (.ref k) = some xs := by unfold seqV; rw [view_ref_lst hm]
theorem seq_lst {xs : List D} {m : Me} : seqV m (.lst xs) = some xs := rfl
theorem seq_tup {xs : List D} {m : Me} : seqV m (.tup xs) = some xs := rfl
end FL
namespace FL
open PySem PySem.Spec PyProof.Rows L2
/-- a def's own things go -/
theorem leave_app {m c : Me} {d : D} (h : nb d = true) : leave m d (m ++ c) = .ok d m := by
  cases c with
  | nil => rw [List.append_nil]; exact leave_same rfl
  | cons a l =>
    unfold leave
    rw [if_neg (by simp), thaw_clo _ (pl_nb h _)]
    simp only
    rw [if_pos (.inl (List.take_left' rfl)), List.take_left' rfl]
/-- a comprehension whose parts are told one by one -/
theorem comp_rel {gt : D → En → Option En} {c : MT} {e : ME} {ρ : En} {m : Me} {Q : Res (List D) → Prop} {ds ys : List D} (hl : ds.length = ys.length)
    (h : ∀ (i : Nat) (d y : D), ds[i]? = some d → ys[i]? = some y → ∃ ρ1, gt d ρ = some ρ1 ∧ c ρ1 m = .ok true m ∧ e ρ1 m = .ok y m) (q : Q (.ok ys m)) : RHas Q (compF gt c e gdY ρ ds m) := by
  have key : ∀ (ds ys : List D), ds.length = ys.length → (∀ (i : Nat) (d y : D), ds[i]? = some d → ys[i]? = some y → ∃ ρ1, gt d ρ = some ρ1 ∧ c ρ1 m = .ok true m ∧ e ρ1 m = .ok y m) → compF gt c e gdY ρ ds m = .ok ys m := by
    intro ds
    induction ds with
    | nil => intro ys hl _; cases ys with | nil => rfl | cons => simp at hl
    | cons d r ih =>
      intro ys hl h
      cases ys with
      | nil => simp at hl
      | cons y ys =>
        obtain ⟨ρ1, h1, h2, h3⟩ := h 0 d y rfl rfl
        have ih' := ih ys (by simpa using hl) fun i d' y' e1 e2 => h (i + 1) d' y' (by simpa using e1) (by simpa using e2)
        unfold compF
        simp [h1, h2, h3, ih']
  rw [key ds ys hl h]; exact q
/-- over a thing of the store that stays as it is -/
theorem asIt_ref {i : Nat} {ds : List D} {m : Me} (h : m[i]? = some (.lst ds)) : asIt (.ref i) m = .ok (ds, gdL i ds) m := by unfold asIt; simp only [h]
theorem gdL_ok {i : Nat} {ds : List D} {m : Me} (h : m[i]? = some (.lst ds)) : gdL i ds m = true := by unfold gdL; exact @decide_eq_true _ (Classical.propDecidable _) h
theorem comp_mapG {α : Type} {gd : Me → Bool} {gt : D → En → Option En} {c : MT} {e : ME} {ρ : En} {m : Me} {Q : Res (List D) → Prop} {xs : List α} {g : α → D} (hg : gd m = true) (p : α → Bool) (f : α → D)
    (h : ∀ x ∈ xs, ∃ ρ1, gt (g x) ρ = some ρ1 ∧ c ρ1 m = .ok (p x) m ∧ (p x = true → e ρ1 m = .ok (f x) m)) (q : Q (.ok ((xs.filter p).map f) m)) : RHas Q (compF gt c e gd ρ (xs.map g) m) := by
  have key : ∀ xs : List α, (∀ x ∈ xs, ∃ ρ1, gt (g x) ρ = some ρ1 ∧ c ρ1 m = .ok (p x) m ∧ (p x = true → e ρ1 m = .ok (f x) m)) → compF gt c e gd ρ (xs.map g) m = .ok ((xs.filter p).map f) m := by
    intro xs
    induction xs with
    | nil => intro _; unfold compF; simp [hg]
    | cons x r ih =>
      intro h
      obtain ⟨ρ1, h1, h2, h3⟩ := h x List.mem_cons_self
      have ih' := ih fun y hy => h y (List.mem_cons_of_mem _ hy)
      rw [List.map_cons]
      unfold compF
      simp only [hg, if_true, h1, h2, noX_ok, Res.bind_ok]
      cases hp : p x with
      | false => simp [hp, ih']
      | true => simp [hp, ih', h3 hp]
  rw [key xs h]; exact q
theorem compF_all {α : Type} {gt : D → En → Option En} {c : MT} {e : ME} {ρ : En} {m : Me} {xs : List α} {g : α → D} (f : α → D)
    (h : ∀ x ∈ xs, ∃ ρ1, gt (g x) ρ = some ρ1 ∧ c ρ1 m = .ok true m ∧ e ρ1 m = .ok (f x) m) : compF gt c e gdY ρ (xs.map g) m = .ok (xs.map f) m := has_eq (comp_all f h rfl)
theorem compF_all' {α : Type} {gt : D → En → Option En} {c : MT} {e : ME} {ρ : En} {m : Me} {xs : List α} {g : α → D} (p : α → Bool) (f : α → D)
    (h : ∀ x ∈ xs, ∃ ρ1, gt (g x) ρ = some ρ1 ∧ c ρ1 m = .ok (p x) m ∧ (p x = true → e ρ1 m = .ok (f x) m)) : compF gt c e gdY ρ (xs.map g) m = .ok ((xs.filter p).map f) m := has_eq (comp_map p f h rfl)
/-! ### slices -/
theorem cut_take {α : Type} (xs : List α) (k : Nat) : FL.cutD xs none (some (k : Int)) = xs.take k := by
  unfold FL.cutD
  rw [HT.sIx_none, HT.sIx_nat]
  simp only [List.drop_zero, Nat.sub_zero]
  by_cases h : k ≤ xs.length
  · rw [Nat.min_eq_left h]
  · rw [Nat.min_eq_right (by omega), List.take_of_length_le (Nat.le_refl _), List.take_of_length_le (by omega)]
theorem cut_drop {α : Type} (xs : List α) (k : Nat) : FL.cutD xs (some (k : Int)) none = xs.drop k := by
  unfold FL.cutD
  rw [HT.sIx_none, HT.sIx_nat]
  by_cases h : k ≤ xs.length
  · rw [Nat.min_eq_left h]; exact List.take_of_length_le (by simp)
  · rw [Nat.min_eq_right (by omega), List.drop_of_length_le (Nat.le_refl _), List.drop_of_length_le (by omega)]; simp
theorem cut_rng {α : Type} (xs : List α) (i j : Nat) : FL.cutD xs (some (i : Int)) (some (j : Int)) = (xs.drop i).take (j - i) := by
  unfold FL.cutD
  rw [HT.sIx_nat, HT.sIx_nat]
  by_cases h : i ≤ xs.length
  · rw [Nat.min_eq_left h]
    by_cases h2 : j ≤ xs.length
    · rw [Nat.min_eq_left h2]
    · rw [Nat.min_eq_right (show xs.length ≤ j by omega), List.take_of_length_le (by simp), List.take_of_length_le (by simp; omega)]
  · rw [Nat.min_eq_right (show xs.length ≤ i by omega), List.drop_of_length_le (Nat.le_refl _), List.drop_of_length_le (show xs.length ≤ i by omega)]; simp
/-- a choice that is drawn -/
theorem comp_sel {α : Type} {gt : D → En → Option En} {c : MT} {e : ME} {ρ : En} {Q : Res (List D) → Prop} {i : Nat} {ds : List Int} {ex : List (Key × D)} (f : α → D) {xs : List α} {g : α → D} {m : Me} (h : Wt i ds ex m)
    (step : ∀ x ∈ xs, ∀ m', Ev i ds ex m m' → Wt i ds ex m' → ∃ ρ1, gt (g x) ρ = some ρ1 ∧ RHas (OkR fun _ m2 => Ev i ds ex m' m2) (c ρ1 m') ∧ ∀ m2, Wt i ds ex m2 → e ρ1 m2 = .ok (f x) m2)
    (done : ∀ (ys : List α) (m' : Me), ys.Sublist xs → Ev i ds ex m m' → Q (.ok (ys.map f) m')) : RHas Q (compF gt c e gdY ρ (xs.map g) m) := by
  have key : ∀ (xs : List α) (m : Me), Wt i ds ex m → (∀ x ∈ xs, ∀ m', Ev i ds ex m m' → Wt i ds ex m' → ∃ ρ1, gt (g x) ρ = some ρ1 ∧ RHas (OkR fun _ m2 => Ev i ds ex m' m2) (c ρ1 m') ∧ ∀ m2, Wt i ds ex m2 → e ρ1 m2 = .ok (f x) m2) →
      ∃ (ys : List α) (m' : Me), ys.Sublist xs ∧ Ev i ds ex m m' ∧ compF gt c e gdY ρ (xs.map g) m = .ok (ys.map f) m' := by
    intro xs
    induction xs with
    | nil => intro m h _; exact ⟨[], m, .slnil, Ev.refl h, rfl⟩
    | cons x r ih =>
      intro m h step
      obtain ⟨ρ1, h1, h2, h3⟩ := step x List.mem_cons_self m (Ev.refl h) h
      obtain ⟨b, m1, e1, v1⟩ := h2.ex
      have W1 := h.ev v1
      obtain ⟨ys, m2, q1, q2, q3⟩ := ih m1 W1 fun y hy m' v W => step y (List.mem_cons_of_mem _ hy) m' (v1.trans v) W
      rw [List.map_cons]
      unfold compF
      cases b with
      | false => exact ⟨ys, m2, q1.cons _, v1.trans q2, by simp [h1, e1, q3]⟩
      | true => exact ⟨x :: ys, m2, q1.cons₂ _, v1.trans q2, by simp [h1, e1, h3 m1 W1, q3]⟩
  obtain ⟨ys, m', q1, q2, q3⟩ := key xs m h step
  rw [q3]; exact done ys m' q1 q2
theorem list_of {α : Type} {f : α → D} {P : α → Prop} : ∀ {zs : List D}, (∀ y ∈ zs, ∃ t, y = f t ∧ P t) → ∃ ts : List α, zs = ts.map f ∧ ∀ t ∈ ts, P t
  | [], _ => ⟨[], rfl, by simp⟩
  | y :: r, h => by
    obtain ⟨t, rfl, ht⟩ := h y List.mem_cons_self
    obtain ⟨ts, rfl, hts⟩ := list_of fun z hz => h z (List.mem_cons_of_mem _ hz)
    exact ⟨t :: ts, rfl, fun x hx => by
      rcases List.mem_cons.mp hx with rfl | hx
      · exact ht
      · exact hts x hx⟩
end FL

set_option maxRecDepth 100000
namespace K56
open PySem PySem.Spec PyProof.Rows L2 FL

/-! ### free parts -/
def isFree : List D → Bool
  | [.str s] => decide (s = Str.ofString "free")
  | _ => false
mutual
def hf : D → Bool
  | .tup xs => isFree xs || hfs xs
  | _ => false
def hfs : List D → Bool
  | [] => false
  | x :: xs => hf x || hfs xs
end
inductive Tr
  | back (i j : Nat)
  | lf (s : String) (xs : List D)
  | fn (s n : Nat) (e : Tr)
  | lt (s n : Nat) (es : List Tr) (e : Tr)
  | iff (es : List Tr)
  | call (e : Tr) (es : List Tr)
mutual
def Tr.dp : Tr → Nat
  | .back _ _ => 0
  | .lf _ _ => 0
  | .fn _ _ e => e.dp + 1
  | .lt _ _ es e => max (Tr.dps es) e.dp + 1
  | .iff es => Tr.dps es + 1
  | .call e es => max e.dp (Tr.dps es) + 1
def Tr.dps : List Tr → Nat
  | [] => 0
  | e :: es => max e.dp (Tr.dps es)
end
theorem dps_le {es : List Tr} {n : Nat} : Tr.dps es ≤ n ↔ ∀ e ∈ es, e.dp ≤ n := by
  induction es with
  | nil => simp [Tr.dps]
  | cons a l ih => simp only [Tr.dps, List.mem_cons, forall_eq_or_imp, ← ih]; omega
def lfW : List String := ["num", "open", "quote"]
-- a form as data: k what its ties are called, p what stands for them
mutual
def enc (k : String) (p : Nat → Nat → Int) (d : Nat) : Tr → D
  | .back i j => .tup [.str (Str.ofString k), .int (p d i), .int j]
  | .lf s xs => .tup (.str (Str.ofString s) :: xs)
  | .fn _ n e => .tup [.str (Str.ofString "fn"), .int n, enc k p (d + 1) e]
  | .lt _ n es e => .tup [.str (Str.ofString "let"), .int n, .tup (encs k p d es), enc k p (d + 1) e]
  | .iff es => .tup (.str (Str.ofString "if") :: encs k p d es)
  | .call e es => .tup [.str (Str.ofString "call"), enc k p d e, .tup (encs k p d es)]
def encs (k : String) (p : Nat → Nat → Int) (d : Nat) : List Tr → List D
  | [] => []
  | e :: es => enc k p d e :: encs k p d es
end
theorem encs_map (k : String) (p : Nat → Nat → Int) (d : Nat) (es : List Tr) : encs k p d es = es.map (enc k p d) := by
  induction es with
  | nil => rfl
  | cons a l ih => simp [encs, ih]
mutual
theorem enc_const {k : String} {f : Nat → Int} (d d' : Nat) : ∀ e : Tr, enc k (fun _ i => f i) d e = enc k (fun _ i => f i) d' e
  | .back _ _ => rfl
  | .lf _ _ => rfl
  | .fn _ _ e => by simp only [enc, enc_const (d + 1) (d' + 1) e]
  | .lt _ _ es e => by simp only [enc, enc_const (d + 1) (d' + 1) e, encs_const d d' es]
  | .iff es => by simp only [enc, encs_const d d' es]
  | .call e es => by simp only [enc, enc_const d d' e, encs_const d d' es]
theorem encs_const {k : String} {f : Nat → Int} (d d' : Nat) : ∀ es : List Tr, encs k (fun _ i => f i) d es = encs k (fun _ i => f i) d' es
  | [] => rfl
  | e :: es => by simp only [encs, enc_const d d' e, encs_const d d' es]
end
-- leaves are leaves; lists are short
mutual
def wf : Tr → Bool
  | .back _ _ => true
  | .lf s xs => decide (s ∈ lfW) && nbL xs && decide (dpL xs ≤ 10) && alL xs && decide (xs.length ≤ 10) && !(hfs xs)
  | .fn _ n e => decide (n ≤ 2) && wf e
  | .lt _ n es e => decide (n ≤ 2) && decide (es.length ≤ 2) && wfs es && wf e
  | .iff es => decide (es.length = 3) && wfs es
  | .call e es => decide (es.length ≤ 2) && wf e && wfs es
def wfs : List Tr → Bool
  | [] => true
  | e :: es => wf e && wfs es
end
theorem wfs_iff {es : List Tr} : wfs es = true ↔ ∀ e ∈ es, wf e = true := by
  induction es with
  | nil => simp [wfs]
  | cons a l ih => simp [wfs, ih]
theorem fns0 (n : Nat) : G.fns (n + 1) 0 = runDef 1 1 (G.b0 (G.fns n)) := rfl
theorem fns1 (n : Nat) : G.fns (n + 1) 1 = runDef 2 2 (G.b1 (G.fns n)) := rfl
theorem lfc {s : String} (h : s ∈ lfW) : s ≠ "fn" ∧ s ≠ "let" ∧ s ≠ "call" ∧ s ≠ "if" ∧ s ≠ "back" ∧ s ≠ "at" ∧ s ≠ "ref" := by
  simp only [lfW, List.mem_cons, List.not_mem_nil, or_false] at h
  rcases h with rfl | rfl | rfl <;> decide
/-! ### parts_of, with_parts -/
theorem parts_call (n : Nat) (a : D) (bs : List D) (hb : bs.length ≤ 10) (m : Me) : G.fns (n + 1) 0 [.tup [.str (Str.ofString "call"), a, .tup bs]] m = .ok (.lst (a :: bs)) m := by
  rw [fns0]
  refine has_eq (has_def' [some (.tup [.str (Str.ofString "call"), a, .tup bs])] ?_)
  unfold G.b0
  simp -dsimp [leave_same, show 1 + bs.length ≤ 16777216 by omega]
theorem parts_if (n : Nat) (bs : List D) (hb : bs.length ≤ 10) (m : Me) : G.fns (n + 1) 0 [.tup (.str (Str.ofString "if") :: bs)] m = .ok (.lst bs) m := by
  rw [fns0]
  refine has_eq (has_def' [some (.tup (.str (Str.ofString "if") :: bs))] ?_)
  unfold G.b0
  simp -dsimp [leave_same]
theorem parts_lf (n : Nat) {s : String} (hs : s ∈ lfW) (bs : List D) (m : Me) : G.fns (n + 1) 0 [.tup (.str (Str.ofString s) :: bs)] m = .ok (.lst []) m := by
  rw [fns0]
  refine has_eq (has_def' [some (.tup (.str (Str.ofString s) :: bs))] ?_)
  unfold G.b0
  simp -dsimp [leave_same, lfc hs]
theorem with_call (n : Nat) (a b a' : D) (bs : List D) (m : Me) : G.fns (n + 1) 1 [.tup [.str (Str.ofString "call"), a, b], .lst (a' :: bs)] m = .ok (.tup [.str (Str.ofString "call"), a', .tup bs]) m := by
  rw [fns1]
  refine has_eq (has_def' [some (.tup [.str (Str.ofString "call"), a, b]), some (.lst (a' :: bs))] ?_)
  unfold G.b1
  simp -dsimp [leave_same]
theorem with_if (n : Nat) (as bs : List D) (hb : bs.length ≤ 10) (m : Me) : G.fns (n + 1) 1 [.tup (.str (Str.ofString "if") :: as), .lst bs] m = .ok (.tup (.str (Str.ofString "if") :: bs)) m := by
  rw [fns1]
  refine has_eq (has_def' [some (.tup (.str (Str.ofString "if") :: as)), some (.lst bs)] ?_)
  unfold G.b1
  simp -dsimp [leave_same, show 1 + bs.length ≤ 16777216 by omega]
theorem with_lf (n : Nat) {s : String} (hs : s ∈ lfW) (as bs : List D) (m : Me) : G.fns (n + 1) 1 [.tup (.str (Str.ofString s) :: as), .lst bs] m = .ok (.tup (.str (Str.ofString s) :: as)) m := by
  rw [fns1]
  refine has_eq (has_def' [some (.tup (.str (Str.ofString s) :: as)), some (.lst bs)] ?_)
  unfold G.b1
  simp -dsimp [leave_same, lfc hs]
end K56

set_option maxRecDepth 100000
namespace K56
open PySem PySem.Spec PyProof.Rows L2 FL

/-! ### cores -/
abbrev Ts := List (Nat × Nat)
def nums (s n : Nat) : List Int := (List.range n).map fun (k : Nat) => (s : Int) + (k : Int)
def tie (p : Nat × Nat) : D := .tup ((nums p.1 p.2).map .int)
theorem mem_nums {s n : Nat} {x : Int} : x ∈ nums s n ↔ (s : Int) ≤ x ∧ x < s + n := by
  unfold nums
  rw [List.mem_map]
  constructor
  · rintro ⟨k, hk, rfl⟩; have := List.mem_range.mp hk; omega
  · intro h; exact ⟨(x - s).toNat, List.mem_range.mpr (by omega), by omega⟩
theorem nums_get {s n j : Nat} (h : j < n) : (nums s n)[j]? = some ((s : Int) + j) := by
  unfold nums; rw [List.getElem?_map, List.getElem?_range h]; rfl
theorem nums_ne {s n j k : Nat} (h : k < j) : (nums s n)[k]? ≠ some ((s : Int) + j) := by
  unfold nums
  rw [List.getElem?_map]
  intro e
  cases q : (List.range n)[k]? with
  | none => rw [q] at e; cases e
  | some v =>
    rw [q] at e
    have := List.getElem?_eq_some_iff.mp q
    simp at this e
    omega
def ref (ts : Ts) (i j : Nat) : Int := match ts[i]? with
  | some p => (p.1 : Int) + j
  | none => 0
mutual
def cor (ts : Ts) : Tr → D
  | .back i j => .tup [.str (Str.ofString "ref"), .int (ref ts i j)]
  | .lf s xs => .tup (.str (Str.ofString s) :: xs)
  | .fn s n e => .tup [.str (Str.ofString "fn"), tie (s, n), cor ((s, n) :: ts) e]
  | .lt s n es e => .tup [.str (Str.ofString "let"), tie (s, n), .tup (cors ts es), cor ((s, n) :: ts) e]
  | .iff es => .tup (.str (Str.ofString "if") :: cors ts es)
  | .call e es => .tup [.str (Str.ofString "call"), cor ts e, .tup (cors ts es)]
def cors (ts : Ts) : List Tr → List D
  | [] => []
  | e :: es => cor ts e :: cors ts es
end
theorem cors_map (ts : Ts) (es : List Tr) : cors ts es = es.map (cor ts) := by
  induction es with
  | nil => rfl
  | cons a l ih => simp [cors, ih]
mutual
def good (ts : Ts) : Tr → Bool
  | .back i j => match ts[i]? with
    | some p => decide (j < p.2)
    | none => false
  | .lf _ _ => true
  | .fn s n e => ts.all (fun p => decide (p.1 + p.2 ≤ s)) && good ((s, n) :: ts) e
  | .lt s n es e => ts.all (fun p => decide (p.1 + p.2 ≤ s)) && goods ts es && good ((s, n) :: ts) e
  | .iff es => goods ts es
  | .call e es => good ts e && goods ts es
def goods (ts : Ts) : List Tr → Bool
  | [] => true
  | e :: es => good ts e && goods ts es
end
theorem goods_iff {ts : Ts} {es : List Tr} : goods ts es = true ↔ ∀ e ∈ es, good ts e = true := by
  induction es with
  | nil => simp [goods]
  | cons a l ih => simp [goods, ih]
def Chain (ts : Ts) : Prop := ts.Pairwise fun a b => b.1 + b.2 ≤ a.1
theorem Chain.cons {ts : Ts} {s n : Nat} (h : Chain ts) (g : ts.all (fun p => decide (p.1 + p.2 ≤ s)) = true) : Chain ((s, n) :: ts) := by
  unfold Chain
  rw [List.pairwise_cons]
  exact ⟨fun p hp => by simpa using List.all_eq_true.mp g p hp, h⟩
/-- a number stands in its own tie only -/
theorem only {ts : Ts} (h : Chain ts) {i j : Nat} {p : Nat × Nat} (hi : ts[i]? = some p) (hj : j < p.2) {k : Nat} {q : Nat × Nat} (hk : ts[k]? = some q) : ((p.1 : Int) + j ∈ nums q.1 q.2) ↔ k = i := by
  rw [mem_nums]
  obtain ⟨hi1, hi2⟩ := List.getElem?_eq_some_iff.mp hi
  obtain ⟨hk1, hk2⟩ := List.getElem?_eq_some_iff.mp hk
  have hp := List.pairwise_iff_getElem.mp h
  constructor
  · intro hh
    rcases Nat.lt_trichotomy k i with q1 | q1 | q1
    · have := hp k i hk1 hi1 q1; rw [hi2, hk2] at this; omega
    · exact q1
    · have := hp i k hi1 hk1 q1; rw [hi2, hk2] at this; omega
  · rintro rfl
    rw [hi] at hk; cases hk; omega
theorem fns3 (n : Nat) : G.fns (n + 1) 3 = runDef 6 2 (G.b3 (G.fns n)) := rfl
def IB (ts : Ts) (c : D) (i : Nat) (m : Me) (rest : List D) (ρ : En) (m' : Me) : Prop := ∃ (k j : Nat) (x3 : Option D), rest = rngL k j ∧ k + j = ts.length ∧ k ≤ i ∧ ρ = [some c, some (.lst (ts.map tie)), some (.str (Str.ofString "ref")), x3, none, none] ∧ m' = m
theorem gIx_ts {ts : Ts} {k : Nat} {q : Nat × Nat} (h : ts[k]? = some q) (m : Me) : gIx (.lst (ts.map tie)) (.int (k : Int)) m = .ok (tie q) m := by
  unfold gIx; simp only [view_lst']
  rw [atI_nat (v := tie q) (by rw [List.getElem?_map, h]; rfl)]
theorem tie_len (p : Nat × Nat) (m : Me) : gLen [tie p] m = .ok (.int (p.2 : Int)) m := by
  unfold tie; simp [nums]
theorem below_ok : ∀ (n : Nat) (t : Tr) (ts : Ts), t.dp < n → wf t = true → good ts t = true → Chain ts → ts.length ≤ 100 → t.dp + ts.length ≤ 100 → ∀ m : Me, G.fns (n + 1) 3 [cor ts t, .lst (ts.map tie)] m = .ok (enc "back" (fun _ i => i) 0 t) m := by
  intro n
  induction n with
  | zero => intro t d h; omega
  | succ n ih =>
    intro t ts hd hw hg hc hl hz m
    have ihs : ∀ (es : List Tr) (ts : Ts), (∀ e ∈ es, e.dp < n) → wfs es = true → goods ts es = true → Chain ts → ts.length ≤ 100 → Tr.dps es + ts.length ≤ 100 → ∀ e ∈ es, G.fns (n + 1) 3 [cor ts e, .lst (ts.map tie)] m = .ok (enc "back" (fun _ i => i) 0 e) m := fun es ts h1 h2 h3 h4 h5 h6 e he => ih e ts (h1 e he) (wfs_iff.mp h2 e he) (goods_iff.mp h3 e he) h4 h5 (by have := dps_le.mp (Nat.le_refl _) e he; omega) m
    have henc : ∀ (d : Nat) (e : Tr), enc "back" (fun _ i => (i : Int)) d e = enc "back" (fun _ i => (i : Int)) 0 e := fun d e => enc_const d 0 e
    rw [fns3]
    refine has_eq (has_def' [some (cor ts t), some (.lst (ts.map tie)), none, none, none, none] ?_)
    unfold G.b3
    cases t with
    | back i j =>
      simp only [good] at hg
      cases e : ts[i]? with
      | none => rw [e] at hg; cases hg
      | some p =>
        rw [e] at hg
        have hj : j < p.2 := by simpa using hg
        have hi := (List.getElem?_eq_some_iff.mp e).1
        have hr : ref ts i j = (p.1 : Int) + j := by unfold ref; rw [e]
        simp only [cor, enc, hr]
        simp -dsimp [show (ts.length : Int) ≤ 1000000 ∧ (-1000000 : Int) ≤ ts.length by omega]
        refine for_has (IB ts (.tup [.str (Str.ofString "ref"), .int ((p.1 : Int) + j)]) i m) ?step ?done ⟨0, ts.length, none, rfl, by simp, by omega, rfl, rfl⟩
        case step =>
          rintro d r ρ m' ⟨k, l, x3, h1, h2, h3, rfl, rfl⟩
          refine ⟨rfl, _, rfl, ?_⟩
          cases l with
          | zero => simp [rngL] at h1
          | succ l =>
            rw [rngL_succ] at h1
            cases h1
            obtain ⟨q, hq⟩ : ∃ q, ts[k]? = some q := ⟨_, List.getElem?_eq_getElem (by omega)⟩
            have ho := only hc e hj hq
            have g1 := gIx_ts hq m'
            have g2 := gIn_ints (neg := false) (s := tie q) (l := nums q.1 q.2) ((p.1 : Int) + j) m' rfl
            by_cases hki : k = i
            · subst hki
              rw [e] at hq; cases hq
              have g3 := gIndex_ints (s := tie p) (l := nums p.1 p.2) (i := (p.1 : Int) + j) (j := j) m' rfl (nums_get hj) fun k hk => nums_ne hk
              have g4 : isSeq m' (tie p) = true := rfl
              simp -dsimp [g1, g2, g3, g4, ho, leave_same]
            · simp -dsimp [g1, g2, ho, hki]
              exact ⟨k + 1, l, _, rfl, by omega, by omega, rfl, rfl⟩
        case done =>
          rintro ρ m' ⟨k, l, x3, h1, h2, h3, rfl, rfl⟩
          have : l = 0 := by have := congrArg List.length h1; simpa [rngL] using this.symm
          omega
    | lf s xs =>
      simp only [wf, Bool.and_eq_true, decide_eq_true_eq] at hw
      have hs := hw.1.1.1.1.1
      simp only [cor, enc]
      simp -dsimp [lfc hs, parts_lf n hs]
      refine comp_all (xs := ([] : List D)) (g := id) id (fun e he => by cases he) ?_
      simp -dsimp [with_lf n hs, leave_same]
    | fn b a e =>
      simp only [wf, good, Bool.and_eq_true, decide_eq_true_eq] at hw hg
      simp only [Tr.dp] at hd hz
      have := ih e ((b, a) :: ts) (by omega) hw.2 hg.2 (hc.cons hg.1) (by simp; omega) (by simp; omega) m
      simp only [cor, enc, henc 1]
      rw [List.map_cons] at this
      simp -dsimp [this, leave_same, tie_len, henc 1, show 1 + ts.length ≤ 16777216 by omega]
    | lt b a es e =>
      simp only [wf, good, Bool.and_eq_true, decide_eq_true_eq] at hw hg
      simp only [Tr.dp] at hd hz
      have h1 := ih e ((b, a) :: ts) (by omega) hw.2 hg.2 (hc.cons hg.1.1) (by simp; omega) (by simp; omega) m
      have h2 := ihs es ts (fun e he => by have := dps_le.mp (Nat.le_refl _) e he; omega) hw.1.2 hg.1.2 hc hl (by omega)
      simp only [cor, enc, cors_map, encs_map, henc 1]
      rw [List.map_cons] at h1
      simp -dsimp
      refine comp_all (enc "back" (fun _ i => i) 0) (fun e he => ⟨_, rfl, by simp, by simp -dsimp [h2 e he]⟩) ?_
      simp -dsimp [h1, leave_same, tie_len, henc 1, encs_map, show 1 + ts.length ≤ 16777216 by omega]
    | iff es =>
      simp only [wf, good, Bool.and_eq_true, decide_eq_true_eq] at hw hg
      simp only [Tr.dp] at hd hz
      have h2 := ihs es ts (fun e he => by have := dps_le.mp (Nat.le_refl _) e he; omega) hw.2 hg hc hl (by omega)
      simp only [cor, enc, cors_map, encs_map]
      have hl1 : (es.map (cor ts)).length ≤ 10 := by rw [List.length_map]; omega
      have hl' : (es.map (enc "back" (fun _ i => (i : Int)) 0)).length ≤ 10 := by rw [List.length_map]; omega
      simp -dsimp [parts_if n _ hl1]
      refine comp_all (enc "back" (fun _ i => i) 0) (fun e he => ⟨_, rfl, by simp, by simp -dsimp [h2 e he]⟩) ?_
      simp -dsimp [with_if n _ _ hl', leave_same, encs_map]
    | call e es =>
      simp only [wf, good, Bool.and_eq_true, decide_eq_true_eq] at hw hg
      simp only [Tr.dp] at hd hz
      have h2 := ihs (e :: es) ts (fun x hx => by
        rcases List.mem_cons.mp hx with rfl | hx
        · omega
        · have := dps_le.mp (Nat.le_refl _) x hx; omega) (by simp [wfs, hw.1.2, hw.2]) (by simp [goods, hg]) hc hl (by simp only [Tr.dps]; omega)
      simp only [cor, enc, cors_map, encs_map]
      have hl1 : (es.map (cor ts)).length ≤ 10 := by rw [List.length_map]; omega
      simp -dsimp [parts_call n _ _ hl1]
      rw [show cor ts e :: es.map (cor ts) = (e :: es).map (cor ts) from rfl]
      refine comp_all (enc "back" (fun _ i => i) 0) (fun e he => ⟨_, rfl, by simp, by simp -dsimp [h2 e he]⟩) ?_
      simp -dsimp [with_call n, leave_same, encs_map]
end K56

set_option maxRecDepth 100000
namespace K56
open PySem PySem.Spec PyProof.Rows L2 FL

/-! ### the numbering -/
mutual
def cnt : Tr → Nat
  | .back _ _ => 0
  | .lf _ _ => 0
  | .fn _ n e => n + cnt e
  | .lt _ n es e => n + cnts es + cnt e
  | .iff es => cnts es
  | .call e es => cnt e + cnts es
def cnts : List Tr → Nat
  | [] => 0
  | e :: es => cnt e + cnts es
end
mutual
def num (s : Nat) : Tr → Tr
  | .back i j => .back i j
  | .lf a b => .lf a b
  | .fn _ n e => .fn s n (num (s + n) e)
  | .lt _ n es e => .lt s n (numL (s + n) es) (num (s + n + cnts es) e)
  | .iff es => .iff (numL s es)
  | .call e es => .call (num s e) (numL (s + cnt e) es)
def numL (s : Nat) : List Tr → List Tr
  | [] => []
  | e :: es => num s e :: numL (s + cnt e) es
end
mutual
theorem num_enc {k : String} {p : Nat → Nat → Int} : ∀ (e : Tr) (d s : Nat), enc k p d (num s e) = enc k p d e
  | .back _ _, _, _ => rfl
  | .lf _ _, _, _ => rfl
  | .fn _ _ e, d, s => by simp only [num, enc, num_enc e]
  | .lt _ _ es e, d, s => by simp only [num, enc, num_enc e, numL_enc es]
  | .iff es, d, s => by simp only [num, enc, numL_enc es]
  | .call e es, d, s => by simp only [num, enc, num_enc e, numL_enc es]
theorem numL_enc {k : String} {p : Nat → Nat → Int} : ∀ (es : List Tr) (d s : Nat), encs k p d (numL s es) = encs k p d es
  | [], _, _ => rfl
  | e :: es, d, s => by simp only [numL, encs, num_enc e, numL_enc es]
end
theorem numL_len : ∀ (es : List Tr) (s : Nat), (numL s es).length = es.length
  | [], _ => rfl
  | e :: es, s => by simp [numL, numL_len es]
mutual
theorem num_wf : ∀ (e : Tr) (s : Nat), wf (num s e) = wf e
  | .back _ _, _ => rfl
  | .lf _ _, _ => rfl
  | .fn _ _ e, s => by simp only [num, wf, num_wf e]
  | .lt _ _ es e, s => by simp only [num, wf, num_wf e, numL_wf es, numL_len]
  | .iff es, s => by simp only [num, wf, numL_wf es, numL_len]
  | .call e es, s => by simp only [num, wf, num_wf e, numL_wf es, numL_len]
theorem numL_wf : ∀ (es : List Tr) (s : Nat), wfs (numL s es) = wfs es
  | [], _ => rfl
  | e :: es, s => by simp only [numL, wfs, num_wf e, numL_wf es]
end
mutual
theorem num_dp : ∀ (e : Tr) (s : Nat), (num s e).dp = e.dp
  | .back _ _, _ => rfl
  | .lf _ _, _ => rfl
  | .fn _ _ e, s => by simp only [num, Tr.dp, num_dp e]
  | .lt _ _ es e, s => by simp only [num, Tr.dp, num_dp e, numL_dp es]
  | .iff es, s => by simp only [num, Tr.dp, numL_dp es]
  | .call e es, s => by simp only [num, Tr.dp, num_dp e, numL_dp es]
theorem numL_dp : ∀ (es : List Tr) (s : Nat), Tr.dps (numL s es) = Tr.dps es
  | [], _ => rfl
  | e :: es, s => by simp only [numL, Tr.dps, num_dp e, numL_dp es]
end
-- ties by how many they are
mutual
def sco (cs : List Nat) : Tr → Bool
  | .back i j => match cs[i]? with
    | some n => decide (j < n)
    | none => false
  | .lf _ _ => true
  | .fn _ n e => sco (n :: cs) e
  | .lt _ n es e => scos cs es && sco (n :: cs) e
  | .iff es => scos cs es
  | .call e es => sco cs e && scos cs es
def scos (cs : List Nat) : List Tr → Bool
  | [] => true
  | e :: es => sco cs e && scos cs es
end
theorem scos_iff {cs : List Nat} {es : List Tr} : scos cs es = true ↔ ∀ e ∈ es, sco cs e = true := by
  induction es with
  | nil => simp [scos]
  | cons a l ih => simp [scos, ih]
def Below (ts : Ts) (s : Nat) : Prop := ∀ p ∈ ts, p.1 + p.2 ≤ s
theorem Below.mono {ts : Ts} {s s' : Nat} (h : Below ts s) (q : s ≤ s') : Below ts s' := fun p hp => by have := h p hp; omega
theorem Below.cons {ts : Ts} {s n : Nat} (h : Below ts s) : Below ((s, n) :: ts) (s + n) := fun p hp => by
  rcases List.mem_cons.mp hp with rfl | hp
  · exact Nat.le_refl _
  · have := h p hp; omega
mutual
theorem num_good : ∀ (e : Tr) (ts : Ts) (s : Nat), sco (ts.map (·.2)) e = true → Below ts s → good ts (num s e) = true
  | .back i j, ts, s, h, _ => by
    simp only [num, good, sco, List.getElem?_map] at h ⊢
    cases q : ts[i]? with
    | none => rw [q] at h; cases h
    | some p => rw [q] at h; exact h
  | .lf _ _, _, _, _, _ => rfl
  | .fn _ n e, ts, s, h, hb => by
    simp only [num, good, sco, Bool.and_eq_true] at h ⊢
    exact ⟨List.all_eq_true.mpr fun p hp => by simpa using hb p hp, num_good e ((s, n) :: ts) (s + n) h hb.cons⟩
  | .lt _ n es e, ts, s, h, hb => by
    simp only [num, good, sco, Bool.and_eq_true] at h ⊢
    exact ⟨⟨List.all_eq_true.mpr fun p hp => by simpa using hb p hp, numL_good es ts (s + n) h.1 (hb.mono (by omega))⟩, num_good e ((s, n) :: ts) (s + n + cnts es) h.2 (hb.cons.mono (by omega))⟩
  | .iff es, ts, s, h, hb => by
    simp only [num, good, sco] at h ⊢
    exact numL_good es ts s h hb
  | .call e es, ts, s, h, hb => by
    simp only [num, good, sco, Bool.and_eq_true] at h ⊢
    exact ⟨num_good e ts s h.1 hb, numL_good es ts (s + cnt e) h.2 (hb.mono (by omega))⟩
theorem numL_good : ∀ (es : List Tr) (ts : Ts) (s : Nat), scos (ts.map (·.2)) es = true → Below ts s → goods ts (numL s es) = true
  | [], _, _, _, _ => rfl
  | e :: es, ts, s, h, hb => by
    simp only [numL, goods, scos, Bool.and_eq_true] at h ⊢
    exact ⟨num_good e ts s h.1 hb, numL_good es ts (s + cnt e) h.2 (hb.mono (by omega))⟩
end
theorem numL_app : ∀ (es es' : List Tr) (s : Nat), numL s (es ++ es') = numL s es ++ numL (s + cnts es) es'
  | [], es', s => by simp [numL, cnts]
  | e :: es, es', s => by simp [numL, cnts, numL_app es, Nat.add_assoc]
theorem cnts_app : ∀ (es es' : List Tr), cnts (es ++ es') = cnts es + cnts es'
  | [], es' => by simp [cnts]
  | e :: es, es' => by simp [cnts, cnts_app es, Nat.add_assoc]
/-! ### _law_core -/
def PC (s : Nat) : Cell := .dK [(.inr ("next" : Str), .int (s : Int))]
theorem look_p {m : Me} {j s : Nat} (h : m[j]? = some (PC s)) : look m (.ref j) (.str (Str.ofString "next")) = some (some (.int (s : Int))) := by
  unfold look; rw [view_ref_dK h]; rfl
theorem dput_p {m : Me} {j s : Nat} (h : m[j]? = some (PC s)) (v : Int) (s' : Nat) (e : v = s') : dput m (.ref j) (.str (Str.ofString "next")) (.int v) = some (m.set j (PC s')) := by
  subst e; unfold dput; simp only [keyD, h]; rw [PC]; simp only; rw [if_pos (by simp)]; simp [setK, PC]
theorem tie_rng (s n : Nat) : D.tup (rngL (s : Int) n) = tie (s, n) := by rw [rngL_ints]; rfl
theorem fns16 (n : Nat) : G.fns (n + 1) 16 = runDef 9 3 (G.b16 (G.fns n)) := rfl
abbrev eB : Tr → D := enc "back" (fun _ i => (i : Int)) 0
theorem eB_at (d : Nat) (e : Tr) : enc "back" (fun _ i => (i : Int)) d e = eB e := enc_const d 0 e
def IC (ts : Ts) (s j : Nat) (m : Me) (es : List Tr) (rest ys : List D) (m' : Me) : Prop := ∃ es1 es2, es = es1 ++ es2 ∧ rest = es2.map eB ∧ ys = cors ts (numL s es1) ∧ m' = m.set j (PC (s + cnts es1))
theorem tie_get {ts : Ts} {i j : Nat} {p : Nat × Nat} (h : ts[i]? = some p) (hj : j < p.2) (m : Me) : gIx (tie p) (.int (j : Int)) m = .ok (.int ((p.1 : Int) + j)) m := by
  unfold gIx tie; simp only [view_tup']
  rw [atI_nat (v := D.int ((p.1 : Int) + j)) (by rw [List.getElem?_map, nums_get hj]; rfl)]
theorem core_ok : ∀ (n : Nat) (t : Tr) (ts : Ts) (s j : Nat) (m : Me), t.dp < n → wf t = true → sco (ts.map (·.2)) t = true → ts.length + t.dp ≤ 100 → s + cnt t ≤ 100000 → m[j]? = some (PC s) → G.fns (n + 1) 16 [eB t, .lst (ts.map tie), .ref j] m = .ok (cor ts (num s t)) (m.set j (PC (s + cnt t))) := by
  intro n
  induction n with
  | zero => intro t ts s j m h; omega
  | succ n ih =>
    intro t ts s j m hd hw hg hl hz hp
    have comp : ∀ {c : MT} {e : ME} {ρ : En} {Q : Res (List D) → Prop} (es : List Tr) (s : Nat) (m : Me), (∀ e ∈ es, e.dp < n) → wfs es = true → scos (ts.map (·.2)) es = true → ts.length + Tr.dps es ≤ 100 → s + cnts es ≤ 100000 → m[j]? = some (PC s) →
        (∀ d m, c (ρ.set 8 (some d)) m = .ok true m ∧ e (ρ.set 8 (some d)) m = noX (G.fns (n + 1) 16 [d, .lst (ts.map tie), .ref j] m)) →
        Q (.ok (cors ts (numL s es)) (m.set j (PC (s + cnts es)))) → RHas Q (compF (tgN 8) c e gdY ρ (es.map eB) m) := by
      intro c e ρ Q es s m h1 h2 h3 h4 h5 h6 hce hq
      have hj := (List.getElem?_eq_some_iff.mp h6).1
      refine comp_has (IC ts s j m es) ?_ ?_ ⟨[], es, rfl, rfl, rfl, ?_⟩
      · rintro d r ys m' ⟨es1, es2, q1, q2, q3, rfl⟩
        cases es2 with
        | nil => cases q2
        | cons a es2 =>
          cases q2
          refine ⟨rfl, _, rfl, ?_⟩
          subst q1
          have ha : a ∈ es1 ++ a :: es2 := by simp
          have hs : cnts (es1 ++ a :: es2) = cnts es1 + (cnt a + cnts es2) := by rw [cnts_app]; rfl
          have := ih a ts (s + cnts es1) j (m.set j (PC (s + cnts es1))) (h1 a ha) (wfs_iff.mp h2 a ha) (scos_iff.mp h3 a ha) (by have := dps_le.mp (Nat.le_refl _) a ha; omega) (by omega) (List.getElem?_set_self hj)
          rw [(hce _ _).1]
          simp only [rhas_ok, kC_ok, if_true]
          rw [(hce _ _).2, this]
          simp only [noX_ok, rhas_ok, kE_ok]
          refine ⟨es1 ++ [a], es2, by simp, rfl, ?_, ?_⟩
          · rw [q3, cors_map, cors_map, numL_app]; simp [numL]
          · rw [List.set_set, cnts_app]; simp [cnts, Nat.add_assoc]
      · rintro ys m' ⟨es1, es2, q1, q2, q3, rfl⟩
        cases es2 with
        | cons a es2 => cases q2
        | nil => rw [List.append_nil] at q1; subst q1; subst q3; exact ⟨rfl, hq⟩
      · simp only [cnts, Nat.add_zero]
        obtain ⟨hj, e⟩ := List.getElem?_eq_some_iff.mp h6
        rw [← e, List.set_getElem_self]
    have hj := (List.getElem?_eq_some_iff.mp hp).1
    have ls : ∀ {d : D} {c : Cell}, leave m d (m.set j c) = .ok d (m.set j c) := leave_same (by simp)
    rw [fns16]
    refine has_eq (has_def' [some (eB t), some (.lst (ts.map tie)), some (.ref j), none, none, none, none, none, none] ?_)
    unfold G.b16
    cases t with
    | back i k =>
      simp only [sco, List.getElem?_map] at hg
      cases e : ts[i]? with
      | none => rw [e] at hg; cases hg
      | some p =>
        rw [e] at hg
        have hk : k < p.2 := by simpa using hg
        have hr : ref ts i k = (p.1 : Int) + k := by unfold ref; rw [e]
        have hm : m.set j (PC s) = m := by obtain ⟨hj, e⟩ := List.getElem?_eq_some_iff.mp hp; rw [← e, List.set_getElem_self]
        simp only [eB, enc, cor, num, cnt]
        generalize hR : D.lst (ts.map tie) = R
        have hRi : gIx R (.int (i : Int)) m = .ok (tie p) m := by subst hR; exact gIx_ts e m
        simp -dsimp [hRi, tie_get e hk, leave_same, hr, hm, cor, num, cnt]
    | lf a xs =>
      simp only [wf, Bool.and_eq_true, decide_eq_true_eq] at hw
      have hs := hw.1.1.1.1.1
      have hs' : a = "num" ∨ a = "open" ∨ a = "quote" := by simpa [lfW] using hs
      have hm : m.set j (PC s) = m := by obtain ⟨hj, e⟩ := List.getElem?_eq_some_iff.mp hp; rw [← e, List.set_getElem_self]
      simp only [eB, enc]
      simp -dsimp [lfc hs, gIn_3, hs', leave_same, hm, cor, num, cnt]
    | iff es =>
      simp only [wf, Bool.and_eq_true, decide_eq_true_eq] at hw
      simp only [Tr.dp] at hd hl
      simp only [cnt] at hz
      simp only [eB, enc, encs_map]
      simp -dsimp [gIn_3]
      refine comp es s m (fun e he => by have := dps_le.mp (Nat.le_refl _) e he; omega) hw.2 (by simpa [sco] using hg) (by omega) hz hp (fun d m => by simp) ?_
      have hc : (cors ts (numL s es)).length = es.length := by rw [cors_map, List.length_map, numL_len]
      simp -dsimp [ls, cor, num, cnt, hc, show 1 + es.length ≤ 16777216 by omega]
    | call e es =>
      simp only [wf, Bool.and_eq_true, decide_eq_true_eq] at hw
      simp only [sco, Bool.and_eq_true] at hg
      simp only [Tr.dp] at hd hl
      simp only [cnt] at hz
      simp only [eB, enc, encs_map]
      have h1 := ih e ts s j m (by omega) hw.1.2 hg.1 (by omega) (by omega) hp
      simp only [eB] at h1
      simp -dsimp [gIn_3, h1]
      refine comp es (s + cnt e) _ (fun e he => by have := dps_le.mp (Nat.le_refl _) e he; omega) hw.2 hg.2 (by omega) (by omega) (List.getElem?_set_self hj) (fun d m => by simp) ?_
      simp -dsimp [ls, cor, num, cnt, List.set_set, Nat.add_assoc]
    | fn b a e =>
      simp only [wf, Bool.and_eq_true, decide_eq_true_eq] at hw
      simp only [sco] at hg
      simp only [Tr.dp] at hd hl
      simp only [cnt] at hz
      simp only [eB, enc]
      rw [eB_at 1]
      have hp' : (m.set j (PC (s + a)))[j]? = some (PC (s + a)) := List.getElem?_set_self hj
      have h1 := ih e ((s, a) :: ts) (s + a) j (m.set j (PC (s + a))) (by omega) hw.2 hg (by simp; omega) (by omega) hp'
      rw [List.map_cons] at h1
      have hr : (s : Int) + a - s = (a : Nat) := by omega
      simp -dsimp [gIn_3, gDget, look_p hp, dput_p hp ((s : Int) + a) (s + a) (by simp), show (s : Int) ≤ 1000000 by omega, show (-1000000 : Int) ≤ s by omega, show (s : Int) + a ≤ 1000000 by omega, show (-1000000 : Int) ≤ (s : Int) + a by omega, hr, tie_rng, h1, show 1 + ts.length ≤ 16777216 by omega, ls, cor, num, cnt, List.set_set, Nat.add_assoc]
    | lt b a es e =>
      simp only [wf, Bool.and_eq_true, decide_eq_true_eq] at hw
      simp only [sco, Bool.and_eq_true] at hg
      simp only [Tr.dp] at hd hl
      simp only [cnt] at hz
      simp only [eB, enc, encs_map]
      rw [eB_at 1]
      have hp' : (m.set j (PC (s + a)))[j]? = some (PC (s + a)) := List.getElem?_set_self hj
      have hr : (s : Int) + a - s = (a : Nat) := by omega
      simp -dsimp [gIn_3, gDget, look_p hp, dput_p hp ((s : Int) + a) (s + a) (by simp), show (s : Int) ≤ 1000000 by omega, show (-1000000 : Int) ≤ s by omega, show (s : Int) + a ≤ 1000000 by omega, show (-1000000 : Int) ≤ (s : Int) + a by omega, hr, tie_rng]
      refine comp es (s + a) _ (fun e he => by have := dps_le.mp (Nat.le_refl _) e he; omega) hw.1.2 hg.1 (by omega) (by omega) hp' (fun d m => by simp) ?_
      have h1 := ih e ((s, a) :: ts) (s + a + cnts es) j (m.set j (PC (s + a + cnts es))) (by omega) hw.2 hg.2 (by simp; omega) (by omega) (List.getElem?_set_self hj)
      rw [List.map_cons] at h1
      simp only [Nat.add_assoc, List.set_set] at h1
      simp -dsimp [List.set_set, h1, show 1 + ts.length ≤ 16777216 by omega, ls, cor, num, cnt, Nat.add_assoc]
end K56

set_option maxRecDepth 100000
namespace K56
open PySem PySem.Spec PyProof.Rows L2 FL

mutual
theorem cnt_le : ∀ t : Tr, wf t = true → cnt t + 1 ≤ 4 ^ t.dp
  | .back _ _, _ => by simp [cnt, Tr.dp]
  | .lf _ _, _ => by simp [cnt, Tr.dp]
  | .fn _ n e, h => by
    simp only [wf, Bool.and_eq_true, decide_eq_true_eq] at h
    have := cnt_le e h.2
    simp only [cnt, Tr.dp, Nat.pow_succ]; omega
  | .lt _ n es e, h => by
    simp only [wf, Bool.and_eq_true, decide_eq_true_eq] at h
    have h1 := cnt_le e h.2
    have h2 := cnts_le es h.1.2
    have a1 : 4 ^ e.dp ≤ 4 ^ max (Tr.dps es) e.dp := Nat.pow_le_pow_right (by omega) (by omega)
    have a2 : 4 ^ Tr.dps es ≤ 4 ^ max (Tr.dps es) e.dp := Nat.pow_le_pow_right (by omega) (by omega)
    have a3 : es.length * 4 ^ Tr.dps es ≤ 2 * 4 ^ Tr.dps es := Nat.mul_le_mul_right _ h.1.1.2
    have a4 : es.length * 4 ^ Tr.dps es ≤ 2 * 4 ^ max (Tr.dps es) e.dp := by omega
    have a5 : 1 ≤ 4 ^ max (Tr.dps es) e.dp := Nat.pow_pos (by omega)
    simp only [cnt, Tr.dp, Nat.pow_succ]
    rcases Nat.lt_or_ge es.length 2 with q | q
    · have : es.length = 0 ∨ es.length = 1 := by omega
      rcases this with q | q
      · rw [q] at h2; omega
      · rw [q] at h2; omega
    · have q : es.length = 2 := by omega
      rw [q] at h2; omega
  | .iff es, h => by
    simp only [wf, Bool.and_eq_true, decide_eq_true_eq] at h
    have h2 := cnts_le es h.2
    have a3 : es.length * 4 ^ Tr.dps es ≤ 3 * 4 ^ Tr.dps es := Nat.mul_le_mul_right _ (by omega)
    have a5 : 1 ≤ 4 ^ Tr.dps es := Nat.pow_pos (by omega)
    simp only [cnt, Tr.dp, Nat.pow_succ]; omega
  | .call e es, h => by
    simp only [wf, Bool.and_eq_true, decide_eq_true_eq] at h
    have h1 := cnt_le e h.1.2
    have h2 := cnts_le es h.2
    have a1 : 4 ^ e.dp ≤ 4 ^ max e.dp (Tr.dps es) := Nat.pow_le_pow_right (by omega) (by omega)
    have a2 : 4 ^ Tr.dps es ≤ 4 ^ max e.dp (Tr.dps es) := Nat.pow_le_pow_right (by omega) (by omega)
    have a3 : es.length * 4 ^ Tr.dps es ≤ 2 * 4 ^ Tr.dps es := Nat.mul_le_mul_right _ h.1.1
    simp only [cnt, Tr.dp, Nat.pow_succ]; omega
theorem cnts_le : ∀ es : List Tr, wfs es = true → cnts es + es.length ≤ es.length * 4 ^ Tr.dps es
  | [], _ => by simp [cnts]
  | e :: es, h => by
    simp only [wfs, Bool.and_eq_true] at h
    have h1 := cnt_le e h.1
    have h2 := cnts_le es h.2
    have a1 : 4 ^ e.dp ≤ 4 ^ max e.dp (Tr.dps es) := Nat.pow_le_pow_right (by omega) (by omega)
    have a2 : 4 ^ Tr.dps es ≤ 4 ^ max e.dp (Tr.dps es) := Nat.pow_le_pow_right (by omega) (by omega)
    have a3 : es.length * 4 ^ Tr.dps es ≤ es.length * 4 ^ max e.dp (Tr.dps es) := Nat.mul_le_mul_left _ a2
    simp only [cnts, Tr.dps, List.length_cons, Nat.add_mul, Nat.one_mul]; omega
end
/-! ### _law_form -/
theorem fns15 (n : Nat) : G.fns (n + 1) 15 = runDef 11 3 (G.b15 (G.fns n)) := rfl
theorem fns12 (n : Nat) : G.fns (n + 1) 12 = runDef 2 2 (bNext (G.fns n)) := rfl
theorem fns13 (n : Nat) : G.fns (n + 1) 13 = runDef 2 2 (bPick 12 (G.fns n)) := rfl
/-- a form -/
def Fm (cs : List Nat) (dep : Nat) (d : D) : Prop := ∃ t, d = eB t ∧ wf t = true ∧ sco cs t = true ∧ t.dp ≤ dep
theorem Fm.mono {cs : List Nat} {a b : Nat} {d : D} (h : Fm cs a d) (q : a ≤ b) : Fm cs b d := by obtain ⟨t, h1, h2, h3, h4⟩ := h; exact ⟨t, h1, h2, h3, by omega⟩
theorem fms_list {cs : List Nat} {dep : Nat} : ∀ {ys : List D}, (∀ y ∈ ys, Fm cs dep y) → ∃ es, ys = es.map eB ∧ wfs es = true ∧ scos cs es = true ∧ Tr.dps es ≤ dep ∧ es.length = ys.length
  | [], _ => ⟨[], rfl, rfl, rfl, by simp [Tr.dps], rfl⟩
  | y :: ys, h => by
    obtain ⟨t, rfl, h2, h3, h4⟩ := h y List.mem_cons_self
    obtain ⟨es, rfl, g2, g3, g4, g5⟩ := fms_list fun z hz => h z (List.mem_cons_of_mem _ hz)
    exact ⟨t :: es, rfl, by simp [wfs, h2, g2], by simp [scos, h3, g3], by simp only [Tr.dps]; omega, by simp⟩
def csD (cs : List Nat) : List D := cs.map fun (n : Nat) => D.int (n : Int)
/-- the loop that tells the ties -/
def BI (w : Nat) (dep : Nat) (cs : List Nat) (m : Me) (v : Nat) (rest : List D) (ρ : En) (m' : Me) : Prop :=
  ∃ (k l : Nat) (acc : List D) (x5 : Option D), rest = rngL k l ∧ k + l = cs.length ∧ (∀ x ∈ acc, ∃ i j, x = eB (.back i j) ∧ sco cs (.back i j) = true) ∧ acc.length ≤ 2 * k ∧ ρ = [some (.ref w), some (.int dep), some (.lst (csD cs)), some (.int v), some (.lst acc), x5, none, none, none, none, none] ∧ m' = m
def leaves : List D := [.tup [.str ("num" : Str), .int 0], .tup [.str ("num" : Str), .int 1], .tup [.str ("num" : Str), .int (-12)], .tup [.str ("open" : Str), .str ("+" : Str)], .tup [.str ("open" : Str), .str ("q" : Str)], .tup [.str ("quote" : Str), .tup [.str ("word" : Str), .str ("a" : Str)]], .tup [.str ("quote" : Str), .tup [.str ("list" : Str), .tup [.tup [.str ("num" : Str), .int 3], .tup [.str ("word" : Str), .str ("_" : Str)]]]], .tup [.str ("num" : Str), .int 7]]
theorem leaves_fm {cs : List Nat} {dep : Nat} {d : D} (h : d ∈ leaves) : Fm cs dep d := by
  have key : ∀ (s : String) (xs : List D), s ∈ lfW → nbL xs = true → dpL xs ≤ 10 → alL xs = true → xs.length ≤ 10 → hfs xs = false → Fm cs dep (.tup (.str (Str.ofString s) :: xs)) := fun s xs h1 h2 h3 h4 h5 h6 =>
    ⟨.lf s xs, rfl, by simp [wf, h1, h2, h3, h4, h5, h6], rfl, Nat.zero_le _⟩
  simp only [leaves, List.mem_cons, List.not_mem_nil, or_false] at h
  rcases h with rfl | rfl | rfl | rfl | rfl | rfl | rfl | rfl <;> exact key _ _ (by decide) (by simp [nbL, nb]) (by simp [dpL, dpD]) (by simp [alL, al]) (by simp) (by simp [hfs, hf, isFree])
theorem back_nb (i j : Nat) : nb (eB (.back i j)) = true ∧ dpD (eB (.back i j)) ≤ 1 := by
  simp [enc, nb, nbL, dpD, dpL]
theorem form_ok {i : Nat} {ds : List Int} {ex : List (Key × D)} : ∀ (n dep : Nat) (cs : List Nat) (m : Me), dep + 2 ≤ n → cs.length + dep ≤ 100 → (∀ c ∈ cs, c ≤ 2) → Wt i ds ex m →
    RHas (OkR fun d m' => Fm cs dep d ∧ Ev i ds ex m m') (G.fns (n + 1) 15 [.ref i, .int dep, .lst (csD cs)] m) := by
  intro n
  induction n with
  | zero => intro dep cs m h; omega
  | succ n ih =>
    intro dep cs m hn hl hc W
    obtain ⟨n, rfl⟩ : ∃ n', n = n' + 1 := ⟨n - 1, by omega⟩
    rw [fns15]
    refine has_def' [some (.ref i), some (.int dep), some (.lst (csD cs)), none, none, none, none, none, none, none, none] ?_
    unfold G.b15
    have nx : ∀ {a : Int} {m : Me}, Wt i ds ex m → 0 < a → RHas (OkR fun d m' => ∃ v : Nat, (v : Int) < a ∧ d = .int v ∧ Ev i ds ex m m') (G.fns (n + 2) 12 [.ref i, .int a] m) := fun W h => next_has W (fns12 (n + 1)) h
    simp -dsimp [-mIf_h, -mIf_e]
    refine RHas.ok (P := fun d m' => ∃ v : Nat, v < 9 ∧ (dep = 0 → v < 4) ∧ d = .int v ∧ Ev i ds ex m m') ?_ fun d m1 ⟨v, v9, v4, hd, ev⟩ => ?_
    · by_cases h0 : 0 < dep
      · simp -dsimp [h0]
        exact (nx W (by omega)).ok fun d m' ⟨v, h1, h2, h3⟩ => ⟨_, _, rfl, v, by omega, fun q => by omega, h2, h3⟩
      · simp -dsimp [h0]
        exact (nx W (by omega)).ok fun d m' ⟨v, h1, h2, h3⟩ => ⟨_, _, rfl, v, by omega, fun q => by omega, h2, h3⟩
    · subst hd
      have W1 := W.ev ev
      have hcl : (csD cs).length = cs.length := by simp [csD]
      simp -dsimp [hcl, show (cs.length : Int) ≤ 1000000 by omega, show (-1000000 : Int) ≤ (cs.length : Int) by omega]
      refine for_has (BI i dep cs m1 v) ?step ?done ⟨0, cs.length, [], none, rfl, by simp, by simp, by simp, rfl, rfl⟩
      case step =>
        rintro d r ρ m' ⟨k, l, acc, x5, h1, h2, h3, h4, rfl, rfl⟩
        refine ⟨rfl, _, rfl, ?_⟩
        cases l with
        | zero => simp [rngL] at h1
        | succ l =>
          rw [rngL_succ] at h1
          cases h1
          have hk : k < cs.length := by omega
          have hck : cs[k] ≤ 2 := hc _ (List.getElem_mem hk)
          have g1 : gIx (.lst (csD cs)) (.int (k : Int)) m' = .ok (.int (cs[k] : Int)) m' := by
            unfold gIx; simp only [view_lst']
            rw [atI_nat (v := D.int (cs[k] : Int)) (by rw [csD, List.getElem?_map, List.getElem?_eq_getElem hk]; rfl)]
          simp -dsimp [g1, show (cs[k] : Int) ≤ 1000000 by omega, show (-1000000 : Int) ≤ (cs[k] : Int) by omega]
          rw [rngL_map]
          refine comp_all (fun j => eB (.back k j)) (fun j hj => ⟨_, rfl, by simp, by simp [enc]⟩) ?_
          simp -dsimp [show acc.length + cs[k] ≤ 16777216 by omega]
          refine ⟨k + 1, l, _, _, rfl, by omega, ?_, ?_, rfl, rfl⟩
          · intro x hx
            rcases List.mem_append.mp hx with hx | hx
            · exact h3 x hx
            · obtain ⟨j, hj, rfl⟩ := List.mem_map.mp hx
              exact ⟨k, j, rfl, by simp [sco, hk, List.mem_range.mp hj]⟩
          · simp; omega
      case done =>
        rintro ρ m' ⟨k, l, acc, x5, h1, h2, h3, h4, rfl, rfl⟩
        refine ⟨rfl, ?_⟩
        have hnb : nbL acc = true ∧ dpL acc ≤ 63 := ⟨nbL_iff.mpr fun x hx => by obtain ⟨a, b, rfl, _⟩ := h3 x hx; exact (back_nb a b).1, dpL_le.mpr fun x hx => by obtain ⟨a, b, rfl, _⟩ := h3 x hx; have := (back_nb a b).2; omega⟩
        have g0 := gNe_lnil m' hnb.1 hnb.2
        have W2 := W1
        have drop : ∀ {d : D} {m2 : Me}, Ev i ds ex m' m2 → leave m d m2 = .ok d m2 := fun e => leave_same (ev.trans e).len
        by_cases c1 : v < 2 ∧ acc ≠ []
        · have c2 : acc.isEmpty = false := by cases acc <;> simp_all
          simp -dsimp [g0, c1.1, c2, show (v : Int) < 2 by omega]
          refine (pick_has W1 (fns13 (n + 1)) (fns12 n) c1.2).ok fun d m2 ⟨hd, ev2⟩ => ?_
          simp -dsimp [drop ev2]
          obtain ⟨a, b, rfl, q⟩ := h3 d hd
          exact ⟨_, _, rfl, ⟨_, rfl, rfl, q, Nat.zero_le _⟩, ev.trans ev2⟩
        · simp -dsimp [-mAnd_h, -mAnd_e]
          refine RHas.ok (P := fun b m'' => b = false ∧ m'' = m') ?_ fun b m'' ⟨hb, hm⟩ => ?_
          · by_cases q : v < 2
            · have q2 : acc = [] := by
                apply Classical.byContradiction; intro q2; exact c1 ⟨q, q2⟩
              subst q2
              simp -dsimp [g0, show (v : Int) < 2 by omega]
            · simp -dsimp [show ¬ (v : Int) < 2 by omega]
          · subst hb hm
            by_cases c4 : v < 4
            · simp -dsimp [show (v : Int) < 4 by omega]
              refine (pick_has W1 (fns13 (n + 1)) (fns12 n) (xs := leaves) (by simp [leaves])).ok fun d m2 ⟨hd, ev2⟩ => ?_
              simp -dsimp [drop ev2]
              exact ⟨_, _, rfl, leaves_fm hd, ev.trans ev2⟩
            · obtain ⟨dep, rfl⟩ : ∃ q, dep = q + 1 := ⟨dep - 1, by omega⟩
              have hdep : ((dep + 1 : Nat) : Int) - 1 = (dep : Nat) := by omega
              simp -dsimp [show ¬ (v : Int) < 4 by omega]
              refine (nx W1 (by omega)).ok fun d m2 ⟨a, ha, hd, ev2⟩ => ?_
              subst hd
              have W2 := W1.ev ev2
              have ha : a ≤ 2 := by omega
              have hcs : csD (a :: cs) = .int (a : Int) :: csD cs := rfl
              have hrec : ∀ (cs' : List Nat) (m : Me), cs'.length ≤ cs.length + 1 → (∀ c ∈ cs', c ≤ 2) → Wt i ds ex m → RHas (OkR fun d m' => Fm cs' dep d ∧ Ev i ds ex m m') (G.fns (n + 2) 15 [.ref i, .int dep, .lst (csD cs')] m) := fun cs' m h1 h2 h3 => ih dep cs' m (by omega) (by omega) h2 h3
              have hca : ∀ c ∈ a :: cs, c ≤ 2 := fun c h => by
                rcases List.mem_cons.mp h with rfl | h
                · exact ha
                · exact hc c h
              have ev02 := ev.trans ev2
              have drop2 : ∀ {d : D} {m3 : Me}, Ev i ds ex m2 m3 → leave m d m3 = .ok d m3 := fun e => leave_same (ev02.trans e).len
              by_cases v4 : v = 4
              · subst v4
                simp -dsimp [hdep, show 1 + (csD cs).length ≤ 16777216 by omega]
                rw [← hcs]
                refine (hrec (a :: cs) m2 (by simp) hca W2).ok fun d m3 ⟨⟨t, hd, t1, t2, t3⟩, ev3⟩ => ?_
                subst hd
                simp -dsimp [drop2 ev3]
                refine ⟨_, _, rfl, ⟨.fn 0 a t, by simp only [eB, enc]; rw [eB_at 1], by simp [wf, ha, t1], t2, by simp only [Tr.dp]; omega⟩, ev02.trans ev3⟩
              · by_cases v5 : v = 5
                · subst v5
                  simp -dsimp [hdep, show (a : Int) ≤ 1000000 by omega, show (-1000000 : Int) ≤ (a : Int) by omega]
                  refine comp_gen (Fm cs dep) W2 (fun x hx m3 ev3 W3 => ⟨_, rfl, ?_⟩) fun ys m3 hl3 hy ev3 => ?_
                  · simp -dsimp [hdep]
                    exact (hrec cs m3 (by omega) hc W3).mono fun r ⟨d, m4, e, q⟩ => by subst e; simpa using q
                  · obtain ⟨es, rfl, e1, e2, e3, e4⟩ := fms_list hy
                    simp -dsimp [hdep, show 1 + (csD cs).length ≤ 16777216 by omega]
                    rw [← hcs]
                    refine (hrec (a :: cs) m3 (by simp) hca (W2.ev ev3)).ok fun d m4 ⟨⟨t, hd, t1, t2, t3⟩, ev4⟩ => ?_
                    subst hd
                    have hl3 : es.length = a := by rw [e4, hl3]; simp [rngL]
                    simp -dsimp [drop2 (ev3.trans ev4)]
                    refine ⟨_, _, rfl, ⟨.lt 0 a es t, by simp only [eB, enc, encs_map]; rw [eB_at 1], by simp [wf, ha, hl3, e1, t1], by simp [sco, e2, t2], by simp only [Tr.dp]; omega⟩, ev02.trans (ev3.trans ev4)⟩
                · by_cases v6 : v = 6
                  · subst v6
                    simp -dsimp [hdep]
                    refine comp_gen (Fm cs dep) W2 (fun x hx m3 ev3 W3 => ⟨_, rfl, ?_⟩) fun ys m3 hl3 hy ev3 => ?_
                    · simp -dsimp [hdep]
                      exact (hrec cs m3 (by omega) hc W3).mono fun r ⟨d, m4, e, q⟩ => by subst e; simpa using q
                    · obtain ⟨es, rfl, e1, e2, e3, e4⟩ := fms_list hy
                      have hl3 : es.length = 3 := by rw [e4, hl3]; rfl
                      simp -dsimp [hl3, drop2 ev3]
                      refine ⟨_, _, rfl, ⟨.iff es, by simp only [eB, enc, encs_map], by simp [wf, hl3, e1], e2, by simp only [Tr.dp]; omega⟩, ev02.trans ev3⟩
                  · have w4 : ¬ (v : Int) = 4 := by omega
                    have w5 : ¬ (v : Int) = 5 := by omega
                    have w6 : ¬ (v : Int) = 6 := by omega
                    simp -dsimp [w4, w5, w6, v4, v5, v6, hdep]
                    refine (hrec cs m2 (by omega) hc W2).ok fun d m3 ⟨⟨t, hd, t1, t2, t3⟩, ev3⟩ => ?_
                    subst hd
                    simp -dsimp [show (a : Int) ≤ 1000000 by omega, show (-1000000 : Int) ≤ (a : Int) by omega]
                    refine comp_gen (Fm cs dep) (W2.ev ev3) (fun x hx m4 ev4 W4 => ⟨_, rfl, ?_⟩) fun ys m4 hl4 hy ev4 => ?_
                    · simp -dsimp [hdep]
                      exact (hrec cs m4 (by omega) hc W4).mono fun r ⟨d, m5, e, q⟩ => by subst e; simpa using q
                    · obtain ⟨es, rfl, e1, e2, e3, e4⟩ := fms_list hy
                      have hl4 : es.length = a := by rw [e4, hl4]; simp [rngL]
                      simp -dsimp [drop2 (ev3.trans ev4)]
                      refine ⟨_, _, rfl, ⟨.call t es, by simp only [eB, enc, encs_map], by simp [wf, ha, hl4, e1, t1], by simp [sco, e2, t2], by simp only [Tr.dp]; omega⟩, ev02.trans (ev3.trans ev4)⟩
end K56

set_option maxRecDepth 100000
namespace K56
open PySem PySem.Spec PyProof.Rows L2 FL

/-! ### forms as data are plain -/
mutual
theorem enc_pl {k : String} {p : Nat → Nat → Int} : ∀ (t : Tr) (d : Nat), wf t = true → nb (enc k p d t) = true ∧ al (enc k p d t) = true ∧ dpD (enc k p d t) ≤ 2 * t.dp + 12
  | .back i j, d, _ => by simp [enc, nb, nbL, al, alL, dpD, dpL]
  | .lf s xs, d, h => by
    simp only [wf, Bool.and_eq_true, decide_eq_true_eq] at h
    obtain ⟨⟨⟨⟨⟨_, h2⟩, h3⟩, h4⟩, h5⟩, _⟩ := h
    simp only [enc, nb, nbL, al, alL, dpD, dpL, h2, h4, strOk_ofs, Bool.and_self, Bool.true_and, true_and, List.length_cons, decide_eq_true_eq]
    omega
  | .fn _ n e, d, h => by
    simp only [wf, Bool.and_eq_true, decide_eq_true_eq] at h
    have h1 := enc_pl (k := k) (p := p) e (d + 1) h.2
    simp only [enc, nb, nbL, al, alL, dpD, dpL, h1, strOk_ofs, Bool.and_self, Bool.true_and, true_and, List.length_cons, List.length_nil, decide_eq_true_eq, Tr.dp]
    omega
  | .lt _ n es e, d, h => by
    simp only [wf, Bool.and_eq_true, decide_eq_true_eq] at h
    have h1 := enc_pl (k := k) (p := p) e (d + 1) h.2
    have h2 := encs_pl (k := k) (p := p) es d h.1.2
    simp only [enc, nb, nbL, al, alL, dpD, dpL, h1, h2, strOk_ofs, Bool.and_self, Bool.true_and, true_and, List.length_cons, List.length_nil, decide_eq_true_eq, Tr.dp, Bool.and_eq_true, Bool.and_true]
    omega
  | .iff es, d, h => by
    simp only [wf, Bool.and_eq_true, decide_eq_true_eq] at h
    have h2 := encs_pl (k := k) (p := p) es d h.2
    simp only [enc, nb, nbL, al, alL, dpD, dpL, h2, strOk_ofs, Bool.and_self, Bool.true_and, true_and, List.length_cons, List.length_nil, decide_eq_true_eq, Tr.dp, Bool.and_eq_true, Bool.and_true]
    omega
  | .call e es, d, h => by
    simp only [wf, Bool.and_eq_true, decide_eq_true_eq] at h
    have h1 := enc_pl (k := k) (p := p) e d h.1.2
    have h2 := encs_pl (k := k) (p := p) es d h.2
    simp only [enc, nb, nbL, al, alL, dpD, dpL, h1, h2, strOk_ofs, Bool.and_self, Bool.true_and, true_and, List.length_cons, List.length_nil, decide_eq_true_eq, Tr.dp, Bool.and_eq_true, Bool.and_true]
    omega
theorem encs_pl {k : String} {p : Nat → Nat → Int} : ∀ (es : List Tr) (d : Nat), wfs es = true → nbL (encs k p d es) = true ∧ alL (encs k p d es) = true ∧ dpL (encs k p d es) ≤ 2 * Tr.dps es + 12 ∧ (encs k p d es).length = es.length
  | [], d, _ => by simp [encs, nbL, alL, dpL]
  | e :: es, d, h => by
    simp only [wfs, Bool.and_eq_true] at h
    have h1 := enc_pl (k := k) (p := p) e d h.1
    have h2 := encs_pl (k := k) (p := p) es d h.2
    simp only [encs, nbL, alL, dpL, h1, h2, Bool.and_self, true_and, Tr.dps, List.length_cons, and_true]
    omega
end
/-! ### closed forms -/
mutual
theorem cor_app {ex : Ts} : ∀ (t : Tr) (ts : Ts), good ts t = true → cor (ts ++ ex) t = cor ts t
  | .back i j, ts, h => by
    simp only [good] at h
    cases e : ts[i]? with
    | none => rw [e] at h; cases h
    | some p =>
      have hi := (List.getElem?_eq_some_iff.mp e).1
      simp only [cor, ref, List.getElem?_append_left hi]
  | .lf _ _, ts, _ => rfl
  | .fn s n e, ts, h => by
    simp only [good, Bool.and_eq_true] at h
    simp only [cor]; rw [← List.cons_append, cor_app e _ h.2]
  | .lt s n es e, ts, h => by
    simp only [good, Bool.and_eq_true] at h
    simp only [cor]; rw [← List.cons_append, cor_app e _ h.2, cors_app es _ h.1.2]
  | .iff es, ts, h => by
    simp only [good] at h
    simp only [cor]; rw [cors_app es _ h]
  | .call e es, ts, h => by
    simp only [good, Bool.and_eq_true] at h
    simp only [cor]; rw [cor_app e _ h.1, cors_app es _ h.2]
theorem cors_app {ex : Ts} : ∀ (es : List Tr) (ts : Ts), goods ts es = true → cors (ts ++ ex) es = cors ts es
  | [], ts, _ => rfl
  | e :: es, ts, h => by
    simp only [goods, Bool.and_eq_true] at h
    simp only [cors]; rw [cor_app e _ h.1, cors_app es _ h.2]
end

theorem tie_pl (p : Nat × Nat) (h : p.2 ≤ 2) : nb (tie p) = true ∧ al (tie p) = true ∧ dpD (tie p) ≤ 2 := by
  have h1 : nbL ((nums p.1 p.2).map D.int) = true := nbL_iff.mpr fun x hx => by obtain ⟨k, _, rfl⟩ := List.mem_map.mp hx; rfl
  have h2 : alL ((nums p.1 p.2).map D.int) = true := alL_iff.mpr fun x hx => by obtain ⟨k, _, rfl⟩ := List.mem_map.mp hx; rfl
  have h3 : dpL ((nums p.1 p.2).map D.int) ≤ 1 := dpL_le.mpr fun x hx => by obtain ⟨k, _, rfl⟩ := List.mem_map.mp hx; simp [dpD]
  refine ⟨by simpa [tie, nb] using h1, ?_, by simp only [tie, dpD]; omega⟩
  simp only [tie, al, h2, Bool.true_and, decide_eq_true_eq, List.length_map]
  simp [nums]; omega
mutual
theorem cor_pl : ∀ (t : Tr) (ts : Ts), wf t = true → nb (cor ts t) = true ∧ dpD (cor ts t) ≤ 2 * t.dp + 12
  | .back i j, ts, _ => by simp [cor, nb, nbL, dpD, dpL]
  | .lf s xs, ts, h => by
    simp only [wf, Bool.and_eq_true, decide_eq_true_eq] at h
    obtain ⟨⟨⟨⟨⟨_, h2⟩, h3⟩, h4⟩, h5⟩, _⟩ := h
    refine ⟨by simp [cor, nb, nbL, h2], ?_⟩
    simp only [cor, dpD, dpL, Tr.dp]
    omega
  | .fn s n e, ts, h => by
    simp only [wf, Bool.and_eq_true, decide_eq_true_eq] at h
    have h1 := cor_pl e ((s, n) :: ts) h.2
    have h3 := tie_pl (s, n) h.1
    refine ⟨by simp [cor, nb, nbL, h1, h3], ?_⟩
    simp only [cor, dpD, dpL, Tr.dp]
    omega
  | .lt s n es e, ts, h => by
    simp only [wf, Bool.and_eq_true, decide_eq_true_eq] at h
    have h1 := cor_pl e ((s, n) :: ts) h.2
    have h2 := cors_pl es ts h.1.2
    have h3 := tie_pl (s, n) h.1.1.1
    refine ⟨by simp [cor, nb, nbL, h1, h2, h3], ?_⟩
    simp only [cor, dpD, dpL, Tr.dp]
    omega
  | .iff es, ts, h => by
    simp only [wf, Bool.and_eq_true, decide_eq_true_eq] at h
    have h2 := cors_pl es ts h.2
    refine ⟨by simp [cor, nb, nbL, h2], ?_⟩
    simp only [cor, dpD, dpL, Tr.dp]
    omega
  | .call e es, ts, h => by
    simp only [wf, Bool.and_eq_true, decide_eq_true_eq] at h
    have h1 := cor_pl e ts h.1.2
    have h2 := cors_pl es ts h.2
    refine ⟨by simp [cor, nb, nbL, h1, h2], ?_⟩
    simp only [cor, dpD, dpL, Tr.dp]
    omega
theorem cors_pl : ∀ (es : List Tr) (ts : Ts), wfs es = true → nbL (cors ts es) = true ∧ dpL (cors ts es) ≤ 2 * Tr.dps es + 12
  | [], ts, _ => by simp [cors, nbL, dpL]
  | e :: es, ts, h => by
    simp only [wfs, Bool.and_eq_true] at h
    have h1 := cor_pl e ts h.1
    have h2 := cors_pl es ts h.2
    refine ⟨by simp [cors, nbL, h1, h2], ?_⟩
    simp only [cors, dpL, Tr.dps]
    omega
end
/-! ### parts -/
abbrev Pt := Ts × Tr
def pD (p : Pt) : D := cor p.1 p.2
def kd : Pt → List Pt
  | (ts, .fn s n e) => [((s, n) :: ts, e)]
  | (ts, .lt s n es e) => es.map (fun x => (ts, x)) ++ [((s, n) :: ts, e)]
  | (ts, .iff es) => es.map fun x => (ts, x)
  | (ts, .call e es) => (ts, e) :: es.map fun x => (ts, x)
  | _ => []
def sub : Nat → Pt → List Pt
  | 0, _ => []
  | n + 1, p => p :: (kd p).flatMap (sub n)
theorem kd_ok {p q : Pt} (hw : wf p.2 = true) (h : q ∈ kd p) : q.2.dp < p.2.dp ∧ wf q.2 = true := by
  obtain ⟨ts, t⟩ := p
  have key : ∀ (es : List Tr), q ∈ es.map (fun x => ((ts, x) : Pt)) → wfs es = true → q.2.dp ≤ Tr.dps es ∧ wf q.2 = true := fun es h hw => by
    obtain ⟨e, he, rfl⟩ := List.mem_map.mp h
    exact ⟨dps_le.mp (Nat.le_refl _) e he, wfs_iff.mp hw e he⟩
  cases t with
  | back i j => cases h
  | lf s xs => cases h
  | fn s n e =>
    simp only [wf, Bool.and_eq_true] at hw
    simp only [kd, List.mem_singleton] at h
    subst h
    exact ⟨by simp [Tr.dp], hw.2⟩
  | lt s n es e =>
    simp only [wf, Bool.and_eq_true] at hw
    rcases List.mem_append.mp h with h | h
    · obtain ⟨h1, h2⟩ := key es h hw.1.2
      exact ⟨by simp only [Tr.dp]; omega, h2⟩
    · rw [List.mem_singleton] at h; subst h
      exact ⟨by simp only [Tr.dp]; omega, hw.2⟩
  | iff es =>
    simp only [wf, Bool.and_eq_true] at hw
    obtain ⟨h1, h2⟩ := key es h hw.2
    exact ⟨by simp only [Tr.dp]; omega, h2⟩
  | call e es =>
    simp only [wf, Bool.and_eq_true] at hw
    rcases List.mem_cons.mp h with rfl | h
    · exact ⟨by simp only [Tr.dp]; omega, hw.1.2⟩
    · obtain ⟨h1, h2⟩ := key es h hw.2
      exact ⟨by simp only [Tr.dp]; omega, h2⟩
theorem kd_len {p : Pt} (hw : wf p.2 = true) : (kd p).length ≤ 3 := by
  obtain ⟨ts, t⟩ := p
  cases t with
  | back i j => simp [kd]
  | lf s xs => simp [kd]
  | fn s n e => simp [kd]
  | lt s n es e => simp only [wf, Bool.and_eq_true, decide_eq_true_eq] at hw; simp [kd]; omega
  | iff es => simp only [wf, Bool.and_eq_true, decide_eq_true_eq] at hw; simp [kd]; omega
  | call e es => simp only [wf, Bool.and_eq_true, decide_eq_true_eq] at hw; simp [kd]; omega
theorem sub_st : ∀ (k k' : Nat) (p : Pt), wf p.2 = true → p.2.dp < k → p.2.dp < k' → sub k p = sub k' p
  | 0, _, _, _, h, _ => by omega
  | _, 0, _, _, _, h => by omega
  | k + 1, k' + 1, p, hw, h, h' => by
    simp only [sub]
    congr 1
    have : ∀ l : List Pt, (∀ q ∈ l, q.2.dp < p.2.dp ∧ wf q.2 = true) → l.flatMap (sub k) = l.flatMap (sub k') := by
      intro l
      induction l with
      | nil => intro _; rfl
      | cons q l ih =>
        intro hl
        obtain ⟨h1, h2⟩ := hl q (by simp)
        simp only [List.flatMap_cons]
        rw [ih fun x hx => hl x (by simp [hx]), sub_st k k' q h2 (by omega) (by omega)]
    exact this _ fun q hq => kd_ok hw hq
theorem flat_len {l : List Pt} {k B : Nat} (h : ∀ q ∈ l, (sub k q).length ≤ B) : (l.flatMap (sub k)).length ≤ l.length * B := by
  induction l with
  | nil => simp
  | cons a l ih =>
    have h1 := h a (by simp)
    have h2 := ih fun q hq => h q (by simp [hq])
    simp only [List.flatMap_cons, List.length_append, List.length_cons, Nat.add_mul, Nat.one_mul]; omega
theorem sub_len : ∀ (k d : Nat) (p : Pt), wf p.2 = true → p.2.dp ≤ d → (sub k p).length ≤ 4 ^ (d + 1)
  | 0, d, p, _, _ => by simp [sub]
  | k + 1, d, p, hw, h => by
    have hl := kd_len hw
    have hpow : 1 ≤ 4 ^ d := Nat.pow_pos (by omega)
    have := flat_len (l := kd p) (k := k) (B := 4 ^ d) fun q hq => by
      obtain ⟨h1, h2⟩ := kd_ok hw hq
      cases d with
      | zero => omega
      | succ d => exact sub_len k d q h2 (by omega)
    have h3 : (kd p).length * 4 ^ d ≤ 3 * 4 ^ d := Nat.mul_le_mul_right _ hl
    simp only [sub, List.length_cons, Nat.pow_succ]
    omega
theorem cors_pD (ts : Ts) (es : List Tr) : cors ts es = (es.map fun x => ((ts, x) : Pt)).map pD := by rw [cors_map, List.map_map]; rfl
theorem parts_ok (n : Nat) (p : Pt) (hw : wf p.2 = true) (m : Me) : G.fns (n + 1) 0 [pD p] m = .ok (.lst ((kd p).map pD)) m := by
  obtain ⟨ts, t⟩ := p
  cases t with
  | back i j =>
    rw [fns0]
    refine has_eq (has_def' [some (pD (ts, .back i j))] ?_)
    unfold G.b0
    simp only [pD, cor, kd, List.map_nil]
    simp -dsimp [leave_same]
  | lf s xs =>
    simp only [wf, Bool.and_eq_true, decide_eq_true_eq] at hw
    exact parts_lf n hw.1.1.1.1.1 xs m
  | fn s k e =>
    rw [fns0]
    refine has_eq (has_def' [some (pD (ts, .fn s k e))] ?_)
    unfold G.b0
    have hr : (kd (ts, .fn s k e)).map pD = [cor ((s, k) :: ts) e] := rfl
    rw [hr]
    simp only [pD, cor]
    generalize cor ((s, k) :: ts) e = ce
    simp -dsimp [leave_same]
  | lt s k es e =>
    simp only [wf, Bool.and_eq_true, decide_eq_true_eq] at hw
    rw [fns0]
    refine has_eq (has_def' [some (pD (ts, .lt s k es e))] ?_)
    unfold G.b0
    have hl : (cors ts es).length ≤ 2 := by rw [cors_map, List.length_map]; exact hw.1.1.2
    have hr : (kd (ts, .lt s k es e)).map pD = cors ts es ++ [cor ((s, k) :: ts) e] := by simp only [kd, List.map_append]; rw [← cors_pD]; rfl
    rw [hr]
    simp only [pD, cor]
    generalize cors ts es = CS at *
    generalize cor ((s, k) :: ts) e = ce at *
    simp -dsimp [leave_same, show CS.length + 1 ≤ 16777216 by omega]
  | iff es =>
    simp only [wf, Bool.and_eq_true, decide_eq_true_eq] at hw
    have := parts_if n (cors ts es) (by rw [cors_map, List.length_map]; omega) m
    simp only [pD, cor, kd] at this ⊢
    rw [this, cors_pD]
  | call e es =>
    simp only [wf, Bool.and_eq_true, decide_eq_true_eq] at hw
    have := parts_call n (cor ts e) (cors ts es) (by rw [cors_map, List.length_map]; omega) m
    simp only [pD, cor, kd, List.map_cons] at this ⊢
    rw [this, cors_pD]
    try rfl
theorem fns17 (n : Nat) : G.fns (n + 1) 17 = runDef 1 1 (G.b17 (G.fns n)) := rfl
theorem kids_ok (n : Nat) (p : Pt) (hw : wf p.2 = true) (m : Me) : G.fns (n + 1) 17 [pD p] m = .ok (.tup ((kd p).map pD)) m := by
  obtain ⟨ts, t⟩ := p
  rw [fns17]
  refine has_eq (has_def' [some (pD (ts, t))] ?_)
  unfold G.b17
  cases t with
  | back i j =>
    simp only [pD, cor, kd, List.map_nil]
    simp -dsimp [leave_same]
  | lf s xs =>
    simp only [wf, Bool.and_eq_true, decide_eq_true_eq] at hw
    have hs := lfc hw.1.1.1.1.1
    simp only [pD, cor, kd, List.map_nil]
    simp -dsimp [leave_same, hs]
  | fn s k e =>
    have g : ∀ a b c : D, gSl (.tup [a, b, c]) (some 2) none m = .ok (.tup [c]) m := fun a b c => by unfold gSl; simp only [view_tup']; rw [cut_2]
    have hr : (kd (ts, .fn s k e)).map pD = [cor ((s, k) :: ts) e] := rfl
    rw [hr]
    simp only [pD, cor]
    generalize cor ((s, k) :: ts) e = ce
    simp -dsimp [leave_same, g]
  | lt s k es e =>
    simp only [wf, Bool.and_eq_true, decide_eq_true_eq] at hw
    have hl : (cors ts es).length ≤ 2 := by rw [cors_map, List.length_map]; exact hw.1.1.2
    have hr : (kd (ts, .lt s k es e)).map pD = cors ts es ++ [cor ((s, k) :: ts) e] := by simp only [kd, List.map_append]; rw [← cors_pD]; rfl
    have g : ∀ a b c d : D, gSl (.tup [a, b, c, d]) (some 3) none m = .ok (.tup [d]) m := fun a b c d => by
      unfold gSl; simp only [view_tup']
      have := cut_drop [a, b, c, d] 3
      rw [show ((3 : Nat) : Int) = 3 from rfl] at this
      rw [this]; rfl
    have ga : gAdd (.tup (cors ts es)) (.tup [cor ((s, k) :: ts) e]) m = .ok (.tup (cors ts es ++ [cor ((s, k) :: ts) e])) m := by rw [gAdd_tup, if_pos (by simp; omega)]
    rw [hr]
    simp only [pD, cor]
    generalize cors ts es = CS at *
    generalize cor ((s, k) :: ts) e = ce at *
    simp -dsimp [-gAdd_tup, leave_same, g, ga]
  | iff es =>
    have g : ∀ (a : D) (l : List D), gSl (.tup (a :: l)) (some 1) none m = .ok (.tup l) m := fun a l => by unfold gSl; simp only [view_tup']; rw [cut_1]
    have hr : (kd (ts, .iff es)).map pD = cors ts es := by rw [cors_pD]; rfl
    rw [hr]
    simp only [pD, cor]
    generalize cors ts es = CS at *
    simp -dsimp [leave_same, g]
  | call e es =>
    simp only [wf, Bool.and_eq_true, decide_eq_true_eq] at hw
    have hl : (cors ts es).length ≤ 2 := by rw [cors_map, List.length_map]; exact hw.1.1
    have hr : (kd (ts, .call e es)).map pD = cor ts e :: cors ts es := by rw [cors_pD]; rfl
    have ga : gAdd (.tup [cor ts e]) (.tup (cors ts es)) m = .ok (.tup (cor ts e :: cors ts es)) m := by rw [gAdd_tup, if_pos (by simp; omega)]; rfl
    rw [hr]
    simp only [pD, cor]
    generalize cors ts es = CS at *
    generalize cor ts e = ce at *
    simp -dsimp [-gAdd_tup, leave_same, ga]
end K56

set_option maxRecDepth 100000
namespace K56
open PySem PySem.Spec PyProof.Rows L2 FL

theorem fns5 (n : Nat) : G.fns (n + 1) 5 = runDef 3 1 (G.b5 (G.fns n)) := rfl
theorem fns7 (n : Nat) : G.fns (n + 1) 7 = runDef 2 1 (G.b7 (G.fns n)) := rfl
theorem fns18 (n : Nat) : G.fns (n + 1) 18 = runDef 3 1 (G.b18 (G.fns n)) := rfl
theorem fns19 (n : Nat) : G.fns (n + 1) 19 = runDef 2 1 (G.b19 (G.fns n)) := rfl
theorem leave_lst {m : Me} {xs : List D} (h : cloL m.length xs = true) : leave m (.ref m.length) (m ++ [.lst xs]) = .ok (.lst xs) m := by
  unfold leave
  rw [if_neg (by simp)]
  have : thaw m.length (m ++ [.lst xs]) (.ref m.length) = some (.lst xs) := by
    simp only [thaw]
    rw [if_neg (by omega)]
    simp [h]
  rw [this]
  simp only [List.take_left']
  rw [if_pos (.inl trivial)]
theorem cloL_mapn {α : Type} {n : Nat} (l : List α) (f : α → D) (h : ∀ x ∈ l, clo n (f x) = true) : cloL n (l.map f) = true := by
  induction l with
  | nil => rfl
  | cons a l ih => simp only [List.map_cons, cloL, Bool.and_eq_true]; exact ⟨h a (by simp), ih fun x hx => h x (by simp [hx])⟩
theorem sub_wf : ∀ (k : Nat) (p : Pt), wf p.2 = true → ∀ q ∈ sub k p, wf q.2 = true ∧ q.2.dp ≤ p.2.dp
  | 0, _, _, _, h => nomatch h
  | k + 1, p, hw, q, h => by
    rcases List.mem_cons.mp h with rfl | h
    · exact ⟨hw, Nat.le_refl _⟩
    · obtain ⟨r, h1, h2⟩ := List.mem_flatMap.mp h
      obtain ⟨h3, h4⟩ := kd_ok hw h1
      obtain ⟨h5, h6⟩ := sub_wf k r h4 q h2
      exact ⟨h5, by omega⟩
def IAl (k : Nat) (p : Pt) (m : Me) (rest : List D) (ρ : En) (m' : Me) : Prop := ∃ (us rs : List Pt) (x2 : Option D), kd p = us ++ rs ∧ rest = rs.map pD ∧ ρ = [some (pD p), some (.ref m.length), x2] ∧ m' = m ++ [.lst (pD p :: (us.flatMap (sub k)).map pD)]
theorem all_ok : ∀ (k j : Nat) (p : Pt) (m : Me), wf p.2 = true → p.2.dp < k → p.2.dp ≤ 6 → G.fns (k + j + 1) 5 [pD p] m = .ok (.lst ((sub k p).map pD)) m
  | 0, _, _, _, _, h, _ => by omega
  | k + 1, j, p, m, hw, hd, h6 => by
    rw [show k + 1 + j + 1 = (k + j + 1) + 1 by omega, fns5]
    refine has_eq (has_def' [some (pD p), none, none] ?_)
    unfold G.b5
    have hp := parts_ok (k + j) p hw
    have hlen := sub_len (k + 1) 6 p hw h6
    have ih : ∀ q ∈ kd p, ∀ m, G.fns (k + j + 1) 5 [pD q] m = .ok (.lst ((sub k q).map pD)) m := fun q hq m => by
      obtain ⟨h1, h2⟩ := kd_ok hw hq
      exact all_ok k j q m h2 (by omega) (by omega)
    have hlv : leave m (.ref m.length) (m ++ [.lst ((sub (k + 1) p).map pD)]) = .ok (.lst ((sub (k + 1) p).map pD)) m := leave_lst (cloL_mapn _ _ fun q hq => FL.pl_nb (cor_pl q.2 q.1 (sub_wf _ p hw q hq).1).1 m.length)
    have hsub : (sub (k + 1) p).map pD = pD p :: ((kd p).flatMap (sub k)).map pD := rfl
    have hI : IAl k p m ((kd p).map pD) [some (pD p), some (.ref m.length), none] (m ++ [.lst [pD p]]) := ⟨[], kd p, none, rfl, rfl, rfl, rfl⟩
    generalize hQ0 : (kD _ _ : Fl → Prop) = Q0
    generalize hpd : pD p = pd at *
    simp -dsimp -implicitDefEqProofs [hp]
    refine for_has (IAl k p m) ?_ ?_ hI
    · rintro d rest ρ m' ⟨us, rs, x2, e1, e2, rfl, rfl⟩
      cases rs with
      | nil => simp at e2
      | cons q rs =>
        simp only [List.map_cons, List.cons.injEq] at e2
        obtain ⟨rfl, rfl⟩ := e2
        refine ⟨rfl, _, rfl, ?_⟩
        have hc := ih q (by rw [e1]; simp)
        have hb : (pD p :: (us.flatMap (sub k)).map pD).length + ((sub k q).map pD).length < 1000000 := by
          have : ((kd p).flatMap (sub k)).length = (us.flatMap (sub k)).length + ((sub k q).length + (rs.flatMap (sub k)).length) := by rw [e1]; simp
          simp only [sub, List.length_cons, List.length_map] at hlen ⊢
          have h47 : 4 ^ (6 + 1) = 16384 := by decide
          omega
        have fin : ∀ y2, IAl k p m (rs.map pD) [some (pD p), some (.ref m.length), y2] (m ++ [.lst ((pD p :: (us.flatMap (sub k)).map pD) ++ (sub k q).map pD)]) := fun y2 => ⟨us ++ [q], rs, y2, by rw [e1]; simp, rfl, rfl, by simp⟩
        generalize pD p :: (us.flatMap (sub k)).map pD = L1 at *
        generalize (sub k q).map pD = L2 at *
        generalize pD q = qd at *
        simp -dsimp -implicitDefEqProofs [hc, lstV, hb]
        exact fin _
    · rintro ρ m' ⟨us, rs, x2, e1, e2, rfl, rfl⟩
      have : rs = [] := by simpa using e2.symm
      subst this
      rw [List.append_nil] at e1
      rw [← e1, hpd, ← hsub]
      refine ⟨rfl, ?_⟩
      subst Q0
      generalize (sub (k + 1) p).map pD = L1 at *
      simp -dsimp -implicitDefEqProofs [hlv]
def IEv (k : Nat) (p : Pt) (m : Me) (rest : List D) (ρ : En) (m' : Me) : Prop := ∃ (us rs : List Pt) (x2 : Option D), kd p = us ++ rs ∧ rest = rs.map pD ∧ ρ = [some (pD p), some (.lst (pD p :: (us.flatMap (sub k)).map pD)), x2] ∧ m' = m
theorem every_ok : ∀ (k j : Nat) (p : Pt) (m : Me), wf p.2 = true → p.2.dp < k → p.2.dp ≤ 6 → G.fns (k + j + 1) 18 [pD p] m = .ok (.lst ((sub k p).map pD)) m
  | 0, _, _, _, _, h, _ => by omega
  | k + 1, j, p, m, hw, hd, h6 => by
    rw [show k + 1 + j + 1 = (k + j + 1) + 1 by omega, fns18]
    refine has_eq (has_def' [some (pD p), none, none] ?_)
    unfold G.b18
    have hp := kids_ok (k + j) p hw
    have hlen := sub_len (k + 1) 6 p hw h6
    have ih : ∀ q ∈ kd p, ∀ m, G.fns (k + j + 1) 18 [pD q] m = .ok (.lst ((sub k q).map pD)) m := fun q hq m => by
      obtain ⟨h1, h2⟩ := kd_ok hw hq
      exact every_ok k j q m h2 (by omega) (by omega)
    have hlv : leave m (.lst ((sub (k + 1) p).map pD)) m = .ok (.lst ((sub (k + 1) p).map pD)) m := leave_same rfl
    have hsub : (sub (k + 1) p).map pD = pD p :: ((kd p).flatMap (sub k)).map pD := rfl
    have hI : IEv k p m ((kd p).map pD) [some (pD p), some (.lst [pD p]), none] m := ⟨[], kd p, none, rfl, rfl, rfl, rfl⟩
    generalize hQ0 : (kD _ _ : Fl → Prop) = Q0
    generalize hpd : pD p = pd at *
    simp -dsimp -implicitDefEqProofs [hp]
    refine for_has (IEv k p m) ?_ ?_ hI
    · rintro d rest ρ m' ⟨us, rs, x2, e1, e2, rfl, rfl⟩
      cases rs with
      | nil => simp at e2
      | cons q rs =>
        simp only [List.map_cons, List.cons.injEq] at e2
        obtain ⟨rfl, rfl⟩ := e2
        refine ⟨rfl, _, rfl, ?_⟩
        have hc := ih q (by rw [e1]; simp)
        have hb : (pD p :: (us.flatMap (sub k)).map pD).length + ((sub k q).map pD).length ≤ 16777216 := by
          have : ((kd p).flatMap (sub k)).length = (us.flatMap (sub k)).length + ((sub k q).length + (rs.flatMap (sub k)).length) := by rw [e1]; simp
          simp only [sub, List.length_cons, List.length_map] at hlen ⊢
          have h47 : 4 ^ (6 + 1) = 16384 := by decide
          omega
        have ha : ∀ m, gAdd (.lst (pD p :: (us.flatMap (sub k)).map pD)) (.lst ((sub k q).map pD)) m = .ok (.lst ((pD p :: (us.flatMap (sub k)).map pD) ++ (sub k q).map pD)) m := fun m => by rw [gAdd_lst, if_pos hb]
        have fin : ∀ y2, IEv k p m' (rs.map pD) [some (pD p), some (.lst ((pD p :: (us.flatMap (sub k)).map pD) ++ (sub k q).map pD)), y2] m' := fun y2 => ⟨us ++ [q], rs, y2, by rw [e1]; simp, rfl, by simp, rfl⟩
        generalize pD p :: (us.flatMap (sub k)).map pD = L1 at *
        generalize (sub k q).map pD = L2 at *
        generalize pD q = qd at *
        simp -dsimp -implicitDefEqProofs [-gAdd_lst, hc, ha]
        exact fin _
    · rintro ρ m' ⟨us, rs, x2, e1, e2, rfl, rfl⟩
      have : rs = [] := by simpa using e2.symm
      subst this
      rw [List.append_nil] at e1
      rw [← e1, hpd, ← hsub]
      refine ⟨rfl, ?_⟩
      subst Q0
      generalize (sub (k + 1) p).map pD = L1 at *
      simp -dsimp -implicitDefEqProofs [hlv]
/-! ### how deep -/
theorem maxI_of {l : List Int} {k : Int} (h1 : k ∈ l) (h2 : ∀ x ∈ l, x ≤ k) : maxI l = some k := by
  have key : ∀ (r : List Int) (a : Int), r.foldl max a ∈ a :: r ∧ ∀ x ∈ a :: r, x ≤ r.foldl max a := by
    intro r
    induction r with
    | nil => intro a; simp
    | cons b r ih =>
      intro a
      obtain ⟨i1, i2⟩ := ih (max a b)
      simp only [List.foldl_cons]
      refine ⟨?_, fun x hx => ?_⟩
      · rcases List.mem_cons.mp i1 with h | h
        · rw [h]
          rcases Int.le_total a b with q | q
          · rw [Int.max_eq_right q]; simp
          · rw [Int.max_eq_left q]; simp
        · simp [h]
      · have hm := i2 (max a b) (by simp)
        rcases List.mem_cons.mp hx with rfl | hx
        · have := Int.le_max_left x b; omega
        · rcases List.mem_cons.mp hx with rfl | hx
          · have := Int.le_max_right a x; omega
          · exact i2 x (by simp [hx])
  cases l with
  | nil => cases h1
  | cons a r =>
    obtain ⟨i1, i2⟩ := key r a
    have e : r.foldl max a = k := by
      have := h2 _ i1
      have := i2 k h1
      omega
    have ef : (fun x y : Int => if y > x then y else x) = max := by
      funext x y
      rw [Int.max_def]
      split <;> split <;> omega
    unfold maxI
    simp only [ef, e]
theorem max0 {l : List Nat} {k : Nat} (h : (k = 0 ∧ ∀ x ∈ l, x = 0) ∨ (k ∈ l ∧ ∀ x ∈ l, x ≤ k)) (m : Me) : gMaxL [.lst (.int 0 :: l.map fun x : Nat => D.int (x : Int))] m = .ok (.int (k : Int)) m := by
  unfold gMaxL
  have e : lstV m (.lst (.int 0 :: l.map fun x : Nat => D.int (x : Int))) = some (.int 0 :: l.map fun x : Nat => D.int (x : Int)) := rfl
  have e2 : intsD (.int 0 :: l.map fun x : Nat => D.int (x : Int)) = some (0 :: l.map fun x : Nat => (x : Int)) := by
    have : ∀ l : List Nat, intsD (l.map fun x : Nat => D.int (x : Int)) = some (l.map fun x : Nat => (x : Int)) := by
      intro l
      induction l with
      | nil => rfl
      | cons a l ih => simp [intsD, ih]
    simp [intsD, this]
  have e3 : maxI (0 :: l.map fun x : Nat => (x : Int)) = some (k : Int) := by
    refine maxI_of ?_ fun x hx => ?_
    · rcases h with ⟨rfl, _⟩ | ⟨h, _⟩
      · simp
      · exact List.mem_cons_of_mem _ (List.mem_map.mpr ⟨k, h, rfl⟩)
    · rcases List.mem_cons.mp hx with rfl | hx
      · omega
      · obtain ⟨y, hy, rfl⟩ := List.mem_map.mp hx
        rcases h with ⟨rfl, h⟩ | ⟨_, h⟩
        · have := h y hy; omega
        · have := h y hy; omega
  simp only [e, Option.bind_some, e2, e3]
theorem dp_kd {p : Pt} (hw : wf p.2 = true) : (p.2.dp = 0 ∧ kd p = []) ∨ (p.2.dp ∈ (kd p).map (fun q => q.2.dp + 1) ∧ ∀ x ∈ (kd p).map (fun q => q.2.dp + 1), x ≤ p.2.dp) := by
  have hle : ∀ x ∈ (kd p).map (fun q => q.2.dp + 1), x ≤ p.2.dp := fun x hx => by
    obtain ⟨q, hq, rfl⟩ := List.mem_map.mp hx
    exact (kd_ok hw hq).1
  have mx : ∀ es : List Tr, es ≠ [] → ∃ e ∈ es, e.dp = Tr.dps es := by
    intro es
    induction es with
    | nil => intro h; exact absurd rfl h
    | cons a l ih =>
      intro _
      by_cases hl : l = []
      · subst hl; exact ⟨a, by simp, by simp [Tr.dps]⟩
      · obtain ⟨e, he, h2⟩ := ih hl
        simp only [Tr.dps]
        by_cases c : a.dp ≤ Tr.dps l
        · exact ⟨e, by simp [he], by omega⟩
        · exact ⟨a, by simp, by omega⟩
  obtain ⟨ts, t⟩ := p
  cases t with
  | back i j => exact .inl ⟨rfl, rfl⟩
  | lf s xs => exact .inl ⟨rfl, rfl⟩
  | fn s n e => exact .inr ⟨by simp [kd, Tr.dp], hle⟩
  | lt s n es e =>
    refine .inr ⟨?_, hle⟩
    by_cases c : Tr.dps es ≤ e.dp
    · exact List.mem_map.mpr ⟨((s, n) :: ts, e), by simp [kd], by simp only [Tr.dp]; omega⟩
    · have hne : es ≠ [] := fun h => by subst h; simp [Tr.dps] at c
      obtain ⟨x, hx, h2⟩ := mx es hne
      exact List.mem_map.mpr ⟨(ts, x), by simp [kd, hx], by simp only [Tr.dp]; omega⟩
  | iff es =>
    simp only [wf, Bool.and_eq_true, decide_eq_true_eq] at hw
    have hne : es ≠ [] := fun h => by subst h; simp at hw
    obtain ⟨x, hx, h2⟩ := mx es hne
    exact .inr ⟨List.mem_map.mpr ⟨(ts, x), by simp [kd, hx], by simp only [Tr.dp]; omega⟩, hle⟩
  | call e es =>
    refine .inr ⟨?_, hle⟩
    by_cases c : Tr.dps es ≤ e.dp
    · exact List.mem_map.mpr ⟨(ts, e), by simp [kd], by simp only [Tr.dp]; omega⟩
    · have hne : es ≠ [] := fun h => by subst h; simp [Tr.dps] at c
      obtain ⟨x, hx, h2⟩ := mx es hne
      exact List.mem_map.mpr ⟨(ts, x), by simp [kd, hx], by simp only [Tr.dp]; omega⟩
theorem max_kd {p : Pt} (hw : wf p.2 = true) (m : Me) : gMaxL [.lst (.int 0 :: (kd p).map fun q => D.int ((q.2.dp + 1 : Nat) : Int))] m = .ok (.int (p.2.dp : Int)) m := by
  have h := max0 (l := (kd p).map fun q => q.2.dp + 1) (k := p.2.dp) (by
    rcases dp_kd hw with ⟨h1, h2⟩ | h
    · exact .inl ⟨h1, by rw [h2]; simp⟩
    · exact .inr h) m
  rw [List.map_map] at h
  exact h
theorem deep_ok : ∀ (k j : Nat) (p : Pt) (m : Me), wf p.2 = true → p.2.dp < k → G.fns (k + j + 1) 7 [pD p] m = .ok (.int ((p.2.dp + 1 : Nat) : Int)) m
  | 0, _, _, _, _, h => by omega
  | k + 1, j, p, m, hw, hd => by
    rw [show k + 1 + j + 1 = (k + j + 1) + 1 by omega, fns7]
    refine has_eq (has_def' [some (pD p), none] ?_)
    unfold G.b7
    have hp := parts_ok (k + j) p hw
    have ih : ∀ q ∈ kd p, ∀ m, G.fns (k + j + 1) 7 [pD q] m = .ok (.int ((q.2.dp + 1 : Nat) : Int)) m := fun q hq m => by
      obtain ⟨h1, h2⟩ := kd_ok hw hq
      exact deep_ok k j q m h2 (by omega)
    have hmx := max_kd hw m
    have hl := kd_len hw
    have ha : gAdd (.lst [.int 0]) (.lst ((kd p).map fun q => D.int ((q.2.dp + 1 : Nat) : Int))) m = .ok (.lst (.int 0 :: (kd p).map fun q => D.int ((q.2.dp + 1 : Nat) : Int))) m := by rw [gAdd_lst, if_pos (by simp; omega)]; rfl
    have lv : ∀ i : Int, leave m (.int i) m = .ok (.int i) m := fun i => leave_same rfl
    have hz : (1 : Int) + (p.2.dp : Int) = ((p.2.dp + 1 : Nat) : Int) := by omega
    generalize hQ0 : (kD _ _ : Fl → Prop) = Q0
    generalize hpd : pD p = pd at *
    simp -dsimp -implicitDefEqProofs [hp]
    refine comp_all (fun q => D.int ((q.2.dp + 1 : Nat) : Int)) (fun q hq => ?_) ?_
    · refine ⟨_, rfl, rfl, ?_⟩
      have := ih q hq m
      generalize pD q = qd at *
      generalize ((q.2.dp + 1 : Nat) : Int) = z at *
      simp -dsimp -implicitDefEqProofs [this]
    · generalize ((kd p).map fun q => D.int ((q.2.dp + 1 : Nat) : Int)) = L at *
      subst Q0
      simp -dsimp -implicitDefEqProofs [-gAdd_lst, ha, hmx, hz, lv]
theorem ldeep_ok : ∀ (k j : Nat) (p : Pt) (m : Me), wf p.2 = true → p.2.dp < k → G.fns (k + j + 1) 19 [pD p] m = .ok (.int ((p.2.dp + 1 : Nat) : Int)) m
  | 0, _, _, _, _, h => by omega
  | k + 1, j, p, m, hw, hd => by
    rw [show k + 1 + j + 1 = (k + j + 1) + 1 by omega, fns19]
    refine has_eq (has_def' [some (pD p), none] ?_)
    unfold G.b19
    have hp := kids_ok (k + j) p hw
    have ih : ∀ q ∈ kd p, ∀ m, G.fns (k + j + 1) 19 [pD q] m = .ok (.int ((q.2.dp + 1 : Nat) : Int)) m := fun q hq m => by
      obtain ⟨h1, h2⟩ := kd_ok hw hq
      exact ldeep_ok k j q m h2 (by omega)
    have hmx := max_kd hw m
    have hl := kd_len hw
    have ha : gAdd (.lst [.int 0]) (.lst ((kd p).map fun q => D.int ((q.2.dp + 1 : Nat) : Int))) m = .ok (.lst (.int 0 :: (kd p).map fun q => D.int ((q.2.dp + 1 : Nat) : Int))) m := by rw [gAdd_lst, if_pos (by simp; omega)]; rfl
    have lv : ∀ i : Int, leave m (.int i) m = .ok (.int i) m := fun i => leave_same rfl
    have hz : (1 : Int) + (p.2.dp : Int) = ((p.2.dp + 1 : Nat) : Int) := by omega
    generalize hQ0 : (kD _ _ : Fl → Prop) = Q0
    generalize hpd : pD p = pd at *
    simp -dsimp -implicitDefEqProofs [hp]
    refine comp_all (fun q => D.int ((q.2.dp + 1 : Nat) : Int)) (fun q hq => ?_) ?_
    · refine ⟨_, rfl, rfl, ?_⟩
      have := ih q hq m
      generalize pD q = qd at *
      generalize ((q.2.dp + 1 : Nat) : Int) = z at *
      simp -dsimp -implicitDefEqProofs [this]
    · generalize ((kd p).map fun q => D.int ((q.2.dp + 1 : Nat) : Int)) = L at *
      subst Q0
      simp -dsimp -implicitDefEqProofs [-gAdd_lst, ha, hmx, hz, lv]
end K56

set_option maxRecDepth 100000
namespace K56
open PySem PySem.Spec PyProof.Rows L2 FL

theorem fns6 (n : Nat) : G.fns (n + 1) 6 = runDef 3 1 (G.b6 (G.fns n)) := rfl
theorem fns8 (n : Nat) : G.fns (n + 1) 8 = runDef 4 1 (G.b8 (G.fns n)) := rfl
/-! ### kinds -/
def tgS : Tr → String
  | .back _ _ => "ref"
  | .lf s _ => s
  | .fn _ _ _ => "fn"
  | .lt _ _ _ _ => "let"
  | .iff _ => "if"
  | .call _ _ => "call"
theorem tg_ix (p : Pt) (m : Me) : gIx (pD p) (.int 0) m = .ok (.str (Str.ofString (tgS p.2))) m := by
  obtain ⟨ts, t⟩ := p
  cases t <;> simp [pD, cor, tgS]
def kc (K : List (Key × D)) (s : String) : Int := match getK K (.inr (Str.ofString s)) with
  | some (.int i) => i
  | _ => 0
def kst (K : List (Key × D)) (s : String) : List (Key × D) := setK K (.inr (Str.ofString s)) (.int (kc K s + 1))
structure KI (n : Nat) (K : List (Key × D)) : Prop where
  k : ∀ kv ∈ K, (∃ s, kv.1 = .inr (Str.ofString s)) ∧ ∃ i, kv.2 = .int i
  l : K.length ≤ n
theorem getK_mem {k : Key} {v : D} {K : List (Key × D)} (h : getK K k = some v) : (k, v) ∈ K := by
  unfold getK at h
  cases e : K.find? (fun kv => decide (kv.1 = k)) with
  | none => rw [e] at h; cases h
  | some p =>
    rw [e] at h
    have h1 := List.find?_some e
    have h2 := List.mem_of_find?_eq_some e
    simp only [decide_eq_true_eq] at h1
    simp only [Option.map_some, Option.some.injEq] at h
    rw [← h1, ← h]; exact h2
theorem KI.get {n : Nat} {K : List (Key × D)} (h : KI n K) (s : String) : getK K (.inr (Str.ofString s)) = none ∨ getK K (.inr (Str.ofString s)) = some (.int (kc K s)) := by
  cases e : getK K (.inr (Str.ofString s)) with
  | none => exact .inl rfl
  | some v =>
    obtain ⟨_, i, hi⟩ := h.k _ (getK_mem e)
    simp only at hi
    subst hi
    right
    unfold kc; rw [e]
theorem KI.nil : KI 0 [] := ⟨fun _ h => (nomatch h), by simp⟩
theorem KI.st {n : Nat} {K : List (Key × D)} (h : KI n K) (s : String) : KI (n + 1) (kst K s) := by
  unfold kst setK
  split
  · refine ⟨fun kv hkv => ?_, by have := h.l; simp; omega⟩
    obtain ⟨kw, h1, rfl⟩ := List.mem_map.mp hkv
    obtain ⟨h2, h3⟩ := h.k kw h1
    split
    · exact ⟨h2, _, rfl⟩
    · exact ⟨h2, h3⟩
  · refine ⟨fun kv hkv => ?_, by have := h.l; simp; omega⟩
    rcases List.mem_append.mp hkv with hkv | hkv
    · exact h.k kv hkv
    · rw [List.mem_singleton] at hkv; subst hkv; exact ⟨⟨s, rfl⟩, _, rfl⟩
theorem KI.clo {n : Nat} {K : List (Key × D)} (h : KI n K) (j : Nat) : cloK j K = true := by
  have : ∀ L : List (Key × D), (∀ kv ∈ L, ∃ i, kv.2 = .int i) → cloK j L = true := by
    intro L
    induction L with
    | nil => intro _; rfl
    | cons kv L ih =>
      intro hL
      obtain ⟨i, hi⟩ := hL kv (by simp)
      obtain ⟨k, v⟩ := kv
      simp only at hi
      subst hi
      simp only [cloK, cloP, FL.clo, Bool.true_and]
      exact ih fun x hx => hL x (by simp [hx])
  exact this K fun kv hkv => (h.k kv hkv).2
theorem KI.get2 {n i : Nat} {K : List (Key × D)} {M : Me} (h : KI n K) (hi : M[i]? = some (.dK K)) (s : String) : gDget2 (.ref i) (.str (Str.ofString s)) (.int 0) M = .ok (.int (kc K s)) M := by
  unfold gDget2 look
  rw [view_ref_dK hi]
  simp only [keyD, Option.map_some]
  rcases h.get s with e | e
  · have : kc K s = 0 := by unfold kc; rw [e]
    rw [e, this]
  · rw [e]
theorem KI.put {n i : Nat} {K : List (Key × D)} {M : Me} (h : KI n K) (hn : n < 1000000) (hi : M[i]? = some (.dK K)) (s : String) : dput M (.ref i) (.str (Str.ofString s)) (.int (kc K s + 1)) = some (M.set i (.dK (kst K s))) := by
  unfold dput
  simp only [keyD, hi]
  rw [if_pos (by have := h.l; omega)]
  rfl
def kF (l : List Pt) : List (Key × D) := l.foldl (fun K p => kst K (tgS p.2)) []
theorem kF_app (l : List Pt) (p : Pt) : kF (l ++ [p]) = kst (kF l) (tgS p.2) := by simp [kF]
theorem kF_ki (l : List Pt) : KI l.length (kF l) := by
  have : ∀ (r l : List Pt), KI l.length (kF l) → KI (l ++ r).length (kF (l ++ r)) := by
    intro r
    induction r with
    | nil => intro l h; simpa using h
    | cons p r ih =>
      intro l h
      have := ih (l ++ [p]) (by rw [kF_app]; simpa using h.st (tgS p.2))
      simpa using this
  simpa using this l [] KI.nil
theorem leave_dct {m : Me} {K : List (Key × D)} (hk : ∀ n, cloK n K = true) : leave m (.ref m.length) (m ++ [.dK K]) = .ok (.dct K) m := by
  unfold leave
  rw [if_neg (by simp)]
  have : thaw m.length (m ++ [.dK K]) (.ref m.length) = some (.dct K) := by
    simp only [thaw]
    rw [if_neg (by omega)]
    simp [hk]
  rw [this]
  simp only [List.take_left']
  rw [if_pos (.inl trivial)]
def IK6 (L : List Pt) (pd : D) (m : Me) (rest : List D) (ρ : En) (m' : Me) : Prop := ∃ (us rs : List Pt) (x2 : Option D), L = us ++ rs ∧ rest = rs.map pD ∧ ρ = [some pd, some (.ref m.length), x2] ∧ m' = m ++ [.dK (kF us)]
theorem kinds_ok (k j : Nat) (p : Pt) (m : Me) (hw : wf p.2 = true) (hd : p.2.dp < k) (h6 : p.2.dp ≤ 6) : G.fns (k + j + 2) 6 [pD p] m = .ok (.dct (kF (sub k p))) m := by
  rw [fns6]
  refine has_eq (has_def' [some (pD p), none, none] ?_)
  unfold G.b6
  have hall := fun m => all_ok k j p m hw hd h6
  have hlen := sub_len k 6 p hw h6
  have h47 : 4 ^ (6 + 1) = 16384 := by decide
  have hlv := leave_dct (m := m) (kF_ki (sub k p)).clo
  have hI : IK6 (sub k p) (pD p) m ((sub k p).map pD) [some (pD p), some (.ref m.length), none] (m ++ [.dK []]) := ⟨[], sub k p, none, rfl, rfl, rfl, rfl⟩
  generalize sub k p = L at *
  generalize hpd : pD p = pd at *
  generalize hQ0 : (kD _ _ : Fl → Prop) = Q0
  simp -dsimp -implicitDefEqProofs [hall]
  refine for_has (IK6 L pd m) ?_ ?_ hI
  · rintro d rest ρ m' ⟨us, rs, x2, e1, e2, rfl, rfl⟩
    cases rs with
    | nil => simp at e2
    | cons q rs =>
      simp only [List.map_cons, List.cons.injEq] at e2
      obtain ⟨rfl, rfl⟩ := e2
      refine ⟨rfl, _, rfl, ?_⟩
      have hki := kF_ki us
      have hul : us.length < 1000000 := by rw [e1] at hlen; simp at hlen; omega
      have hget : (m ++ [Cell.dK (kF us)])[m.length]? = some (.dK (kF us)) := by simp
      have g1 := hki.get2 hget (tgS q.2)
      have g2 := hki.put hul hget (tgS q.2)
      have hst : (m ++ [Cell.dK (kF us)]).set m.length (.dK (kst (kF us) (tgS q.2))) = m ++ [.dK (kst (kF us) (tgS q.2))] := by rw [List.set_append_right _ _ (Nat.le_refl _)]; simp
      rw [hst] at g2
      have ht := tg_ix q
      have hvw : view (m ++ [Cell.dK (kF us)]) (.ref m.length) = .dct (kF us) := view_ref_dK hget
      have fin : ∀ y2, IK6 L pd m (rs.map pD) [some pd, some (.ref m.length), y2] (m ++ [.dK (kst (kF us) (tgS q.2))]) := fun y2 => ⟨us ++ [q], rs, y2, by rw [e1]; simp, rfl, rfl, by rw [kF_app]⟩
      generalize kst (kF us) (tgS q.2) = K2 at *
      generalize kc (kF us) (tgS q.2) = c at *
      generalize Str.ofString (tgS q.2) = tag at *
      generalize pD q = qd at *
      generalize hMM : m ++ [Cell.dK (kF us)] = M1 at *
      simp -dsimp -implicitDefEqProofs [ht, hvw, g1, g2]
      exact fin _
  · rintro ρ m' ⟨us, rs, x2, e1, e2, rfl, rfl⟩
    have : rs = [] := by simpa using e2.symm
    subst this
    rw [List.append_nil] at e1
    subst e1
    refine ⟨rfl, ?_⟩
    subst Q0
    simp -dsimp -implicitDefEqProofs [hlv]
/-! ### places and their refs -/
def tK (P : List Int) (f : Int → Int) : List (Key × D) := P.map fun k => ((.inl k : Key), D.int (f k))
theorem tK_get (P : List Int) (f : Int → Int) (k : Int) : getK (tK P f) (.inl k) = if k ∈ P then some (.int (f k)) else none := by
  induction P with
  | nil => rfl
  | cons a P ih =>
    unfold getK tK at ih ⊢
    rw [List.map_cons, List.find?_cons]
    by_cases e : a = k
    · subst e; simp
    · have hne : ¬ ((Sum.inl a : Key) = .inl k) := fun z => e (Sum.inl.inj z)
      simp only [decide_eq_false hne]
      rw [ih]
      simp [Ne.symm e]
theorem tK_in {P : List Int} {f : Int → Int} {k v : Int} (h : k ∈ P) : setK (tK P f) (.inl k) (.int v) = tK P (fun x => if x = k then v else f x) := by
  have ha : ((tK P f).any fun kv => decide (kv.1 = (.inl k : Key))) = true := List.any_eq_true.mpr ⟨(.inl k, .int (f k)), List.mem_map.mpr ⟨k, h, rfl⟩, by simp⟩
  unfold setK
  rw [if_pos ha]
  unfold tK
  rw [List.map_map]
  refine List.map_congr_left fun x _ => ?_
  simp only [Function.comp]
  by_cases e : x = k
  · subst e; simp
  · have hne : ¬ ((Sum.inl x : Key) = .inl k) := fun z => e (Sum.inl.inj z)
    rw [if_neg hne, if_neg e]
theorem tK_new {P : List Int} {f : Int → Int} {k : Int} (h : k ∉ P) : setK (tK P f) (.inl k) (.int (f k)) = tK (P ++ [k]) f := by
  unfold setK
  rw [if_neg]
  · simp [tK]
  · intro ha
    obtain ⟨kv, h1, h2⟩ := List.any_eq_true.mp ha
    obtain ⟨x, hx, rfl⟩ := List.mem_map.mp h1
    simp only [decide_eq_true_eq] at h2
    exact h (Sum.inl.inj h2 ▸ hx)
theorem tK_congr {P : List Int} {f g : Int → Int} (h : ∀ k ∈ P, f k = g k) : tK P f = tK P g := by
  unfold tK
  exact List.map_congr_left fun k hk => by rw [h k hk]
theorem tK_clo (P : List Int) (f : Int → Int) (n : Nat) : cloK n (tK P f) = true := by
  induction P with
  | nil => rfl
  | cons a P ih => simp only [tK, List.map_cons, cloK, cloP, FL.clo, Bool.true_and]; exact ih
theorem tK_len (P : List Int) (f : Int → Int) : (tK P f).length = P.length := by simp [tK]
def adI (P : List Int) (k : Int) : List Int := if k ∈ P then P else P ++ [k]
def adL (P ks : List Int) : List Int := ks.foldl adI P
theorem adL_len : ∀ (ks P : List Int), (adL P ks).length ≤ P.length + ks.length
  | [], P => by simp [adL]
  | k :: ks, P => by
    have h1 := adL_len ks (adI P k)
    have h2 : (adI P k).length ≤ P.length + 1 := by unfold adI; split <;> simp
    have e : adL P (k :: ks) = adL (adI P k) ks := rfl
    rw [e]; simp only [List.length_cons]; omega
/-- a place once more, with its value -/
theorem tK_ad (P : List Int) (f : Int → Int) (k : Int) : setK (tK P f) (.inl k) (.int (f k)) = tK (adI P k) f := by
  unfold adI
  split
  · rename_i h
    rw [tK_in h]
    exact tK_congr fun x _ => by split <;> simp_all
  · rename_i h; exact tK_new h
def bnd : Tr → List Int
  | .fn s n _ => nums s n
  | .lt s n _ _ => nums s n
  | _ => []
def isB (t : Tr) : Bool := match t with
  | .fn _ _ _ => true
  | .lt _ _ _ _ => true
  | _ => false
def bnds (l : List Pt) : List Int := l.flatMap fun p => bnd p.2
def isRef (k : Int) (p : Pt) : Bool := match p.2 with
  | .back i j => decide (ref p.1 i j = k)
  | _ => false
def cntR (l : List Pt) (k : Int) : Int := ((l.filter (isRef k)).length : Nat)
theorem isB_ok (p : Pt) (hw : wf p.2 = true) (m : Me) : gInN false (.str (Str.ofString (tgS p.2))) (.tup [.str (Str.ofString "fn"), .str (Str.ofString "let")]) m = .ok (.bl (isB p.2)) m := by
  have h := gIn_2 false (tgS p.2) "fn" "let" m
  obtain ⟨ts, t⟩ := p
  cases t with
  | lf s xs =>
    simp only [wf, Bool.and_eq_true, decide_eq_true_eq] at hw
    have hs := lfc hw.1.1.1.1.1
    simp only [tgS] at h ⊢
    rw [h]
    simp [isB, hs.1, hs.2.1]
  | _ => simp only [tgS] at h ⊢; rw [h]; simp [isB]
theorem bnd_ix (p : Pt) (h : isB p.2 = true) (m : Me) : gIx (pD p) (.int 1) m = .ok (.tup ((bnd p.2).map .int)) m := by
  obtain ⟨ts, t⟩ := p
  cases t with
  | fn s n e => simp [pD, cor, bnd, tie]
  | lt s n es e => simp [pD, cor, bnd, tie]
  | _ => simp [isB] at h
theorem bnd_len (p : Pt) (hw : wf p.2 = true) : (bnd p.2).length ≤ 2 := by
  obtain ⟨ts, t⟩ := p
  cases t with
  | fn s n e => simp only [wf, Bool.and_eq_true, decide_eq_true_eq] at hw; simp [bnd, nums]; exact hw.1
  | lt s n es e => simp only [wf, Bool.and_eq_true, decide_eq_true_eq] at hw; simp [bnd, nums]; exact hw.1.1.1
  | _ => simp [bnd]
theorem bnds_len : ∀ l : List Pt, (∀ p ∈ l, wf p.2 = true) → (bnds l).length ≤ 2 * l.length
  | [], _ => by simp [bnds]
  | p :: l, h => by
    have h1 := bnd_len p (h p (by simp))
    have h2 := bnds_len l fun q hq => h q (by simp [hq])
    simp only [bnds, List.flatMap_cons, List.length_append, List.length_cons] at h2 ⊢; omega
end K56

set_option maxRecDepth 100000
namespace K56
open PySem PySem.Spec PyProof.Rows L2 FL

/-! ### refs_by_place -/
theorem bnds_app (l : List Pt) (p : Pt) : bnds (l ++ [p]) = bnds l ++ bnd p.2 := by simp [bnds]
theorem adL_app (P a b : List Int) : adL P (a ++ b) = adL (adL P a) b := by simp [adL]
def plc (l : List Pt) : List Int := adL [] (bnds l)
def ISd (P ks : List Int) (a0 a1 a2 : Option D) (m : Me) (rest : List D) (ρ : En) (m' : Me) : Prop := ∃ (us rs : List Int) (x3 : Option D), ks = us ++ rs ∧ rest = rs.map .int ∧ ρ = [a0, a1, a2, x3] ∧ m' = m ++ [.dK (tK (adL P us) fun _ => 0)]
theorem setd_loop {P ks : List Int} {a0 a2 a3 : Option D} {m : Me} {Q : Fl → Prop} (hl : P.length + ks.length < 1000000)
    (hyes : ∀ x3, Q (.nx [a0, some (.ref m.length), a2, x3] (m ++ [.dK (tK (adL P ks) fun _ => 0)]))) :
    FHas Q (forF (tgN 3) (sSeq (sDo (mSetd (mVar 1) (mVar 3) (mC (.int 0)))) sNext) gdY (ks.map D.int) [a0, some (.ref m.length), a2, a3] (m ++ [.dK (tK P fun _ => 0)])) := by
  refine for_has (ISd P ks a0 (some (.ref m.length)) a2 m) ?_ ?_ ⟨[], ks, a3, rfl, rfl, rfl, rfl⟩
  · rintro d rest ρ m' ⟨us, rs, x3, e1, e2, rfl, rfl⟩
    cases rs with
    | nil => simp at e2
    | cons k rs =>
      simp only [List.map_cons, List.cons.injEq] at e2
      obtain ⟨rfl, rfl⟩ := e2
      refine ⟨rfl, _, rfl, ?_⟩
      have fin : ∀ y3, ISd P ks a0 (some (.ref m.length)) a2 m (rs.map .int) [a0, some (.ref m.length), a2, y3] (m ++ [.dK (tK (adI (adL P us) k) fun _ => 0)]) := fun y3 => ⟨us ++ [k], rs, y3, by rw [e1]; simp, rfl, rfl, by rw [adL_app]; rfl⟩
      have hlen : (tK (adL P us) fun _ => 0).length < 1000000 := by
        rw [tK_len]
        have := adL_len us P
        have : us.length ≤ ks.length := by rw [e1]; simp
        omega
      have hg := tK_get (adL P us) (fun _ => 0) k
      by_cases hin : k ∈ adL P us
      · rw [if_pos hin] at hg
        have ead : adI (adL P us) k = adL P us := by unfold adI; rw [if_pos hin]
        rw [ead] at fin
        generalize tK (adL P us) (fun _ => 0) = K at *
        simp -dsimp -implicitDefEqProofs [mSetd, keyD, hlen, hg]
        exact fin _
      · rw [if_neg hin] at hg
        have hn := tK_new (f := fun _ => 0) hin
        have ead : adI (adL P us) k = adL P us ++ [k] := by unfold adI; rw [if_neg hin]
        rw [ead, ← hn] at fin
        generalize tK (adL P us) (fun _ => 0) = K at *
        simp -dsimp -implicitDefEqProofs [mSetd, keyD, hlen, hg]
        exact fin _
  · rintro ρ m' ⟨us, rs, x3, e1, e2, rfl, rfl⟩
    have : rs = [] := by simpa using e2.symm
    subst this
    rw [List.append_nil] at e1
    subst e1
    exact ⟨rfl, hyes _⟩
def IR1 (L : List Pt) (pd : D) (m : Me) (rest : List D) (ρ : En) (m' : Me) : Prop := ∃ (us rs : List Pt) (x2 x3 : Option D), L = us ++ rs ∧ rest = rs.map pD ∧ ρ = [some pd, some (.ref m.length), x2, x3] ∧ m' = m ++ [.dK (tK (plc us) fun _ => 0)]
def IR2 (L : List Pt) (pd : D) (m : Me) (rest : List D) (ρ : En) (m' : Me) : Prop := ∃ (us rs : List Pt) (x2 x3 : Option D), L = us ++ rs ∧ rest = rs.map pD ∧ ρ = [some pd, some (.ref m.length), x2, x3] ∧ m' = m ++ [.dK (tK (plc L) (cntR us))]
theorem cntR_app (us : List Pt) (p : Pt) (k : Int) : cntR (us ++ [p]) k = cntR us k + if isRef k p = true then 1 else 0 := by
  unfold cntR
  rw [List.filter_append, List.length_append]
  by_cases h : isRef k p = true
  · simp [h]
  · have : isRef k p = false := by simpa using h
    simp [this]
theorem refs_ok (k j : Nat) (p : Pt) (m : Me) (hw : wf p.2 = true) (hd : p.2.dp < k) (h6 : p.2.dp ≤ 6) : G.fns (k + j + 2) 8 [pD p] m = .ok (.dct (tK (plc (sub k p)) (cntR (sub k p)))) m := by
  rw [fns8]
  refine has_eq (has_def' [some (pD p), none, none, none] ?_)
  unfold G.b8
  have hall := fun m => all_ok k j p m hw hd h6
  have hlen := sub_len k 6 p hw h6
  have hwf := sub_wf k p hw
  have h47 : 4 ^ (6 + 1) = 16384 := by decide
  have hbl := bnds_len (sub k p) fun q hq => (hwf q hq).1
  have hlv := leave_dct (m := m) (K := tK (plc (sub k p)) (cntR (sub k p))) (tK_clo _ _)
  have hI : IR1 (sub k p) (pD p) m ((sub k p).map pD) [some (pD p), some (.ref m.length), none, none] (m ++ [.dK []]) := ⟨[], sub k p, none, none, rfl, rfl, rfl, rfl⟩
  generalize sub k p = L at *
  generalize hpd : pD p = pd at *
  have hplc : ∀ us rs : List Pt, L = us ++ rs → (plc us).length + 2 < 1000000 := fun us rs e => by
    have h1 := adL_len (bnds us) []
    have h2 : (bnds us).length ≤ (bnds L).length := by rw [e]; simp [bnds]
    unfold plc
    simp at h1
    omega
  generalize hQ0 : (kD _ _ : Fl → Prop) = Q0
  simp -dsimp -implicitDefEqProofs [hall]
  refine for_has (IR1 L pd m) ?_ ?_ hI
  · rintro d rest ρ m' ⟨us, rs, x2, x3, e1, e2, rfl, rfl⟩
    cases rs with
    | nil => simp at e2
    | cons q rs =>
      simp only [List.map_cons, List.cons.injEq] at e2
      obtain ⟨rfl, rfl⟩ := e2
      refine ⟨rfl, _, rfl, ?_⟩
      have hq : wf q.2 = true := (hwf q (by rw [e1]; simp)).1
      have ht := tg_ix q
      have hb := isB_ok q hq
      have hpl := hplc us _ e1
      have hbn := bnd_len q hq
      have fin : ∀ y2 y3, IR1 L pd m (rs.map pD) [some pd, some (.ref m.length), y2, y3] (m ++ [.dK (tK (adL (plc us) (bnd q.2)) fun _ => 0)]) := fun y2 y3 => ⟨us ++ [q], rs, y2, y3, by rw [e1]; simp, rfl, rfl, by unfold plc; rw [bnds_app, adL_app]⟩
      cases hB : isB q.2 with
      | true =>
        rw [hB] at hb
        have hx := bnd_ix q hB
        have hlp := fun (Q : Fl → Prop) a0 a2 a3 h => setd_loop (P := plc us) (ks := bnd q.2) (a0 := a0) (a2 := a2) (a3 := a3) (m := m) (Q := Q) (by omega) h
        generalize (bnd q.2).map D.int = BK at *
        generalize pD q = qd at *
        generalize Str.ofString (tgS q.2) = tag at *
        simp -dsimp -implicitDefEqProofs [ht, hb, hx]
        refine hlp _ _ _ _ fun y3 => ?_
        simp -dsimp -implicitDefEqProofs
        exact fin _ _
      | false =>
        rw [hB] at hb
        have hbe : bnd q.2 = [] := by
          cases hq2 : q.2 <;> first | rfl | (rw [hq2] at hB; simp [isB] at hB)
        rw [hbe] at fin
        have fin : ∀ y2 y3, IR1 L pd m (rs.map pD) [some pd, some (.ref m.length), y2, y3] (m ++ [.dK (tK (plc us) fun _ => 0)]) := fin
        generalize pD q = qd at *
        generalize Str.ofString (tgS q.2) = tag at *
        simp -dsimp -implicitDefEqProofs [ht, hb]
        exact fin _ _
  · rintro ρ m' ⟨us, rs, x2, x3, e1, e2, rfl, rfl⟩
    have : rs = [] := by simpa using e2.symm
    subst this
    rw [List.append_nil] at e1
    rw [← e1]
    refine ⟨rfl, ?_⟩
    have hI2 : ∀ x2 x3, IR2 L pd m (L.map pD) [some pd, some (.ref m.length), x2, x3] (m ++ [.dK (tK (plc L) fun _ => 0)]) := fun x2 x3 => ⟨[], L, x2, x3, rfl, rfl, rfl, by congr 1⟩
    simp -dsimp -implicitDefEqProofs [hall]
    refine for_has (IR2 L pd m) ?_ ?_ (hI2 _ _)
    · rintro d rest ρ m' ⟨us, rs, x2, x3, e1, e2, rfl, rfl⟩
      cases rs with
      | nil => simp at e2
      | cons q rs =>
        simp only [List.map_cons, List.cons.injEq] at e2
        obtain ⟨rfl, rfl⟩ := e2
        refine ⟨rfl, _, rfl, ?_⟩
        have hq : wf q.2 = true := (hwf q (by rw [e1]; simp)).1
        have ht := tg_ix q
        have hpl := hplc L [] (by simp)
        have fin : ∀ f y2 y3, (∀ k ∈ plc L, f k = cntR (us ++ [q]) k) → IR2 L pd m (rs.map pD) [some pd, some (.ref m.length), y2, y3] (m ++ [.dK (tK (plc L) f)]) := fun f y2 y3 hf => ⟨us ++ [q], rs, y2, y3, by rw [e1]; simp, rfl, rfl, by rw [tK_congr hf]⟩
        by_cases hr : ∃ i c, q.2 = .back i c
        · obtain ⟨i, c, hic⟩ := hr
          have htag : tgS q.2 = "ref" := by rw [hic]; rfl
          obtain ⟨v, hv⟩ : ∃ v, v = ref q.1 i c := ⟨_, rfl⟩
          have hx : ∀ m, gIx (pD q) (.int 1) m = .ok (.int v) m := fun m => by unfold pD; rw [hic, hv]; simp [cor]
          have hir : ∀ k, isRef k q = decide (v = k) := fun k => by unfold isRef; rw [hic, hv]
          rw [htag] at ht
          have hg := tK_get (plc L) (cntR us) v
          have hget : (m ++ [Cell.dK (tK (plc L) (cntR us))])[m.length]? = some (.dK (tK (plc L) (cntR us))) := by simp
          have hlk : look (m ++ [Cell.dK (tK (plc L) (cntR us))]) (.ref m.length) (.int v) = some (getK (tK (plc L) (cntR us)) (.inl v)) := by
            unfold look; rw [view_ref_dK hget]; rfl
          rw [hg] at hlk
          by_cases hin : v ∈ plc L
          · rw [if_pos hin] at hlk
            have hdin : gDin false (.int v) (.ref m.length) (m ++ [Cell.dK (tK (plc L) (cntR us))]) = .ok (.bl true) (m ++ [Cell.dK (tK (plc L) (cntR us))]) := by unfold gDin; rw [hlk]; rfl
            have hpt : dput (m ++ [Cell.dK (tK (plc L) (cntR us))]) (.ref m.length) (.int v) (.int (cntR us v + 1)) = some (m ++ [Cell.dK (tK (plc L) fun x => if x = v then cntR us v + 1 else cntR us x)]) := by
              unfold dput
              simp only [keyD, hget]
              rw [if_pos (by rw [tK_len]; omega), tK_in hin, List.set_append_right _ _ (Nat.le_refl _)]
              simp
            have fin2 := fun y2 y3 => fin (fun x => if x = v then cntR us v + 1 else cntR us x) y2 y3 fun k hk => by
              rw [cntR_app, hir]
              by_cases e : k = v
              · subst e; simp
              · rw [if_neg e, decide_eq_false (Ne.symm e)]; simp
            generalize tK (plc L) (fun x => if x = v then cntR us v + 1 else cntR us x) = K2 at *
            generalize tK (plc L) (cntR us) = K1 at *
            generalize cntR us v = cv at *
            generalize pD q = qd at *
            generalize hMM : m ++ [Cell.dK K1] = M1 at *
            simp -dsimp -implicitDefEqProofs [ht, hx, hdin, hlk, hpt]
            exact fin2 _ _
          · rw [if_neg hin] at hlk
            have hdin : gDin false (.int v) (.ref m.length) (m ++ [Cell.dK (tK (plc L) (cntR us))]) = .ok (.bl false) (m ++ [Cell.dK (tK (plc L) (cntR us))]) := by unfold gDin; rw [hlk]; rfl
            have fin2 := fun y2 y3 => fin (cntR us) y2 y3 fun k hk => by
              have : ¬ v = k := fun e => hin (e ▸ hk)
              rw [cntR_app, hir, decide_eq_false this]; simp
            generalize tK (plc L) (cntR us) = K1 at *
            generalize pD q = qd at *
            generalize hMM : m ++ [Cell.dK K1] = M1 at *
            simp -dsimp -implicitDefEqProofs [ht, hx, hdin]
            exact fin2 _ _
        · have htag : tgS q.2 ≠ "ref" := by
            cases hq2 : q.2 with
            | back i c => exact absurd ⟨i, c, hq2⟩ hr
            | lf s xs =>
              rw [hq2] at hq
              simp only [wf, Bool.and_eq_true, decide_eq_true_eq] at hq
              exact (lfc hq.1.1.1.1.1).2.2.2.2.2.2
            | _ => simp [tgS]
          have hir : ∀ k, isRef k q = false := fun k => by
            unfold isRef
            cases hq2 : q.2 with
            | back i c => exact absurd ⟨i, c, hq2⟩ hr
            | _ => rfl
          have fin2 := fun y2 y3 => fin (cntR us) y2 y3 fun k hk => by rw [cntR_app, hir]; simp
          generalize tK (plc L) (cntR us) = K1 at *
          generalize pD q = qd at *
          generalize hMM : m ++ [Cell.dK K1] = M1 at *
          simp -dsimp -implicitDefEqProofs [ht, htag]
          exact fin2 _ _
    · rintro ρ m' ⟨us, rs, x2, x3, e1, e2, rfl, rfl⟩
      have : rs = [] := by simpa using e2.symm
      subst this
      rw [List.append_nil] at e1
      rw [← e1]
      refine ⟨rfl, ?_⟩
      subst Q0
      simp -dsimp -implicitDefEqProofs [hlv]
end K56

set_option maxRecDepth 100000
namespace K56
open PySem PySem.Spec PyProof.Rows L2 FL

/-! ### the least of some pairs -/
abbrev Pr := Int × Int
def prD2 (p : Pr) : D := .tup [.int p.1, .int p.2]
def eP (p : Pr) : PyData := .tuple [.int p.1, .int p.2]
def ltP (p q : Pr) : Bool := decide (p.1 < q.1 ∨ (p.1 = q.1 ∧ p.2 < q.2))
theorem enc_pr2 (p : Pr) : FL.enc (prD2 p) = K56.eP p := by simp [FL.enc, prD2, K56.eP, FL.py, FL.pyL]
theorem eP_inj {p q : Pr} (h : K56.eP p = K56.eP q) : p = q := by
  unfold K56.eP at h
  simp only [PyData.tuple.injEq, List.cons.injEq, PyData.int.injEq, and_true] at h
  exact Prod.ext h.1 h.2
theorem lt_eP (p q : Pr) : PySem.W.dataLt (K56.eP p) (K56.eP q) = ltP p q := by
  unfold PySem.W.dataLt K56.eP ltP
  simp only [PySem.W.keyToks, PySem.W.keyToksAll, List.cons_append, List.nil_append]
  rw [PyProof.Rows.lex_self (O := PyProof.Rows.itemOrd)]
  by_cases h1 : p.1 = q.1
  · rw [h1, PyProof.Rows.lex_self (O := PyProof.Rows.itemOrd), PyProof.Rows.lex_self (O := PyProof.Rows.itemOrd)]
    by_cases h2 : p.2 = q.2
    · rw [h2, PyProof.Rows.lex_self (O := PyProof.Rows.itemOrd), PyProof.Rows.lex_self (O := PyProof.Rows.itemOrd)]
      simp [PyProof.Rows.lexLt]
    · rw [PyProof.Rows.lex_diff (O := PyProof.Rows.itemOrd) (fun e => h2 (Sum.inl.inj e))]
      show decide (p.2 < q.2) = _
      simp
  · rw [PyProof.Rows.lex_diff (O := PyProof.Rows.itemOrd) (fun e => h1 (Sum.inl.inj e))]
    show decide (p.1 < q.1) = _
    simp [h1]
def mnP (a : Pr) (l : List Pr) : Pr := l.foldl (fun a y => if ltP y a = true then y else a) a
theorem ltP_trans {a b c : Pr} (h1 : ltP a b = true) (h2 : ltP b c = true) : ltP a c = true := by
  simp only [ltP, decide_eq_true_eq] at *; omega
theorem mnP_ok : ∀ (l : List Pr) (a : Pr), mnP a l ∈ a :: l ∧ ∀ p ∈ a :: l, ltP p (mnP a l) = false
  | [], a => ⟨by simp [mnP], fun p hp => by
    rw [List.mem_singleton] at hp; subst hp
    simp [mnP, ltP]⟩
  | b :: l, a => by
    have e : mnP a (b :: l) = mnP (if ltP b a = true then b else a) l := rfl
    rw [e]
    by_cases h : ltP b a = true
    · rw [if_pos h]
      obtain ⟨i1, i2⟩ := mnP_ok l b
      refine ⟨List.mem_cons_of_mem _ i1, fun p hp => ?_⟩
      rcases List.mem_cons.mp hp with rfl | hp
      · by_cases q : ltP p (mnP b l) = true
        · have := ltP_trans h q
          rw [i2 b (by simp)] at this; cases this
        · simpa using q
      · exact i2 p hp
    · rw [if_neg h]
      obtain ⟨i1, i2⟩ := mnP_ok l a
      refine ⟨?_, fun p hp => ?_⟩
      · rcases List.mem_cons.mp i1 with q | q
        · rw [q]; simp
        · exact List.mem_cons_of_mem _ (List.mem_cons_of_mem _ q)
      · rcases List.mem_cons.mp hp with rfl | hp
        · exact i2 p (by simp)
        · rcases List.mem_cons.mp hp with rfl | hp
          · by_cases q : ltP p (mnP a l) = true
            · have ha := i2 a (by simp)
              simp only [ltP, decide_eq_true_eq, decide_eq_false_iff_not] at *
              omega
            · simpa using q
          · exact i2 p (by simp [hp])
theorem fold_eP : ∀ (l : List Pr) (a : Pr), (l.map K56.eP).foldl (fun a y => if PySem.W.dataLt y a = true then y else a) (K56.eP a) = K56.eP (mnP a l)
  | [], a => rfl
  | b :: l, a => by
    simp only [List.map_cons, List.foldl_cons, lt_eP]
    have e : mnP a (b :: l) = mnP (if ltP b a = true then b else a) l := rfl
    rw [e, ← fold_eP l]
    congr 1
    split <;> rfl
theorem min_pairs {a : Pr} {l : List Pr} (hl : l.length < 1000000) (m : Me) : gMin [.lst ((a :: l).map prD2)] m = .ok (prD2 (mnP a l)) m := by
  have henc : ((a :: l).map prD2).map FL.enc = (a :: l).map K56.eP := by
    rw [List.map_map]
    exact List.map_congr_left fun p _ => enc_pr2 p
  have hok : OkMin ((a :: l).map prD2) := by
    refine ⟨fun x hx => ?_, ?_, by simp, by simp; omega⟩
    · obtain ⟨p, _, rfl⟩ := List.mem_map.mp hx
      rw [enc_pr2]
      exact ⟨by simp [prD2, FL.py, FL.pyL], by simp [K56.eP, PyData.depth, PyData.depthAll]⟩
    · rw [henc]
      refine ⟨fun x hx y hy => ?_, fun x hx => ?_⟩
      · obtain ⟨p, _, rfl⟩ := List.mem_map.mp hx
        obtain ⟨q, _, rfl⟩ := List.mem_map.mp hy
        simp [K56.eP, PySem.W.alike, PySem.W.alikeAll]
      · obtain ⟨p, _, rfl⟩ := List.mem_map.mp hx
        simp [K56.eP]
  unfold gMin
  have e1 : lstV m (.lst ((a :: l).map prD2)) = some ((a :: l).map prD2) := rfl
  simp only [e1]
  rw [if_pos hok, henc]
  obtain ⟨i1, i2⟩ := PySem.W.argBest_fold PySem.W.dataLt PyData.none (K56.eP a) (l.map K56.eP) l.length (by simp)
  rw [show (l.map K56.eP).take l.length = l.map K56.eP by rw [← List.length_map (f := K56.eP)]; exact List.take_length, fold_eP] at i2
  have e2 : mnIx ((a :: l).map K56.eP) = argBest (fun i j => PySem.W.dataLt ((K56.eP a :: l.map K56.eP).getD i PyData.none) ((K56.eP a :: l.map K56.eP).getD j PyData.none)) l.length := by
    unfold mnIx
    simp only [List.map_cons, List.length_cons, List.length_map, Nat.add_sub_cancel]
  rw [← e2] at i1 i2
  generalize mnIx ((a :: l).map K56.eP) = i at *
  have hi : i < (a :: l).length := by simp; omega
  have e3 : (K56.eP a :: l.map K56.eP).getD i PyData.none = K56.eP (a :: l)[i] := by
    rw [← List.map_cons (f := K56.eP), List.getD_eq_getElem?_getD, List.getElem?_map, List.getElem?_eq_getElem hi]; rfl
  rw [e3] at i2
  have e4 : ((a :: l).map prD2).getD i .non = prD2 (a :: l)[i] := by
    rw [List.getD_eq_getElem?_getD, List.getElem?_map, List.getElem?_eq_getElem hi]; rfl
  rw [e4, eP_inj i2]
/-! ### most_read -/
/-- the least place with the most refs -/
structure Best (P : List Int) (f : Int → Int) (k : Int) : Prop where
  mem : k ∈ P
  most : ∀ j ∈ P, f j ≤ f k
  least : ∀ j ∈ P, f j = f k → k ≤ j
theorem Best.one {P : List Int} {f : Int → Int} {k k' : Int} (h : Best P f k) (h' : Best P f k') : k = k' := by
  have h1 := h.most k' h'.mem
  have h2 := h'.most k h.mem
  have h3 := h.least k' h'.mem (by omega)
  have h4 := h'.least k h.mem (by omega)
  omega
theorem best_mn {k : Int} {P : List Int} {f : Int → Int} : Best (k :: P) f (mnP (-f k, k) (P.map fun x => (-f x, x))).2 := by
  obtain ⟨h1, h2⟩ := mnP_ok (P.map fun x => ((-f x, x) : Pr)) (-f k, k)
  generalize mnP (-f k, k) (P.map fun x => ((-f x, x) : Pr)) = q at *
  have e : ((-f k, k) : Pr) :: P.map (fun x => ((-f x, x) : Pr)) = (k :: P).map fun x => ((-f x, x) : Pr) := rfl
  rw [e] at h1 h2
  obtain ⟨x, hx, rfl⟩ := List.mem_map.mp h1
  refine ⟨hx, fun j hj => ?_, fun j hj he => ?_⟩
  · have := h2 _ (List.mem_map.mpr ⟨j, hj, rfl⟩)
    simp only [ltP, decide_eq_false_iff_not] at this
    simp only
    omega
  · have := h2 _ (List.mem_map.mpr ⟨j, hj, rfl⟩)
    simp only [ltP, decide_eq_false_iff_not] at this
    simp only at he ⊢
    omega
theorem fns9 (n : Nat) : G.fns (n + 1) 9 = runDef 3 1 (G.b9 (G.fns n)) := rfl
def mrD (P : List Int) (f : Int → Int) : D := match P with
  | [] => .non
  | k :: P => .int (mnP (-f k, k) (P.map fun x => (-f x, x))).2
theorem keys_tK (P : List Int) (f : Int → Int) : (tK P f).map (fun p => kyD p.1) = P.map D.int := by unfold tK; rw [List.map_map]; rfl
theorem most_ok {n : Nat} {pd : D} {P : List Int} {f : Int → Int} {m : Me} (hP : P.length < 100000) (h : G.fns n 8 [pd] m = .ok (.dct (tK P f)) m) : G.fns (n + 1) 9 [pd] m = .ok (mrD P f) m := by
  rw [fns9]
  refine has_eq (has_def' [some pd, none, none] ?_)
  unfold G.b9
  have hne : gNeL (.dct (tK P f)) (.ref m.length) (m ++ [.dK []]) = .ok (.bl (!P.isEmpty)) (m ++ [.dK []]) := by
    unfold gNeL
    have e1 : view (m ++ [Cell.dK []]) (.dct (tK P f)) = .dct (tK P f) := rfl
    have e2 : view (m ++ [Cell.dK []]) (.ref m.length) = .dct [] := by simp [view]
    simp only [e1, e2]
    cases P with
    | nil => simp [tK]
    | cons k P => simp [tK]
  cases P with
  | nil =>
    have lv : leave m .non (m ++ [.dK []]) = .ok .non m := leave_app rfl
    simp only [mrD]
    simp -dsimp -implicitDefEqProofs [h, hne, lv]
  | cons k P =>
    have hit : asItK (.dct (tK (k :: P) f)) (m ++ [.dK []]) = .ok ((k :: P).map D.int, gdY) (m ++ [.dK []]) := by
      unfold asItK
      simp only
      rw [if_pos (by rw [tK_len]; omega), keys_tK]
    have hg : ∀ x ∈ k :: P, gDget (.dct (tK (k :: P) f)) (.int x) (m ++ [.dK []]) = .ok (.int (f x)) (m ++ [.dK []]) := fun x hx => by
      have := tK_get (k :: P) f x
      rw [if_pos hx] at this
      unfold gDget look
      simp only [view, keyD, Option.map_some, this]
    have hmin := min_pairs (a := (-f k, k)) (l := P.map fun x => ((-f x, x) : Pr)) (by simp at hP ⊢; omega) (m ++ [.dK []])
    have e : ((-f k, k) : Pr) :: P.map (fun x => ((-f x, x) : Pr)) = (k :: P).map fun x => ((-f x, x) : Pr) := rfl
    rw [e, List.map_map] at hmin
    have lv : ∀ i : Int, leave m (.int i) (m ++ [.dK []]) = .ok (.int i) m := fun i => leave_app rfl
    simp only [mrD]
    have hne : gNeL (.dct (tK (k :: P) f)) (.ref m.length) (m ++ [.dK []]) = .ok (.bl true) (m ++ [.dK []]) := hne
    generalize mnP (-f k, k) (P.map fun x => ((-f x, x) : Pr)) = q at *
    generalize tK (k :: P) f = K at *
    generalize hQ0 : (kD _ _ : Fl → Prop) = Q0
    generalize hQ1 : (asItK (.dct K)) = aK at *
    simp -dsimp -implicitDefEqProofs [h, hne, iKey, hQ1, hit, -List.map_cons]
    refine comp_all (fun x => prD2 (-f x, x)) (fun x hx => ?_) ?_
    · have := hg x hx
      refine ⟨_, rfl, rfl, ?_⟩
      simp -dsimp -implicitDefEqProofs [this, prD2]
    · have e2 : (k :: P).map (fun x => prD2 (-f x, x)) = (k :: P).map (prD2 ∘ fun x => ((-f x, x) : Pr)) := rfl
      rw [e2]
      generalize (k :: P).map (prD2 ∘ fun x => ((-f x, x) : Pr)) = L at *
      subst Q0
      simp -dsimp -implicitDefEqProofs [hmin, prD2, lv]
end K56

set_option maxRecDepth 100000
namespace K56
open PySem PySem.Spec PyProof.Rows L2 FL

/-! ### the law's most read -/
def bestL (P : List Int) (f : Int → Int) : List Int := (P.mergeSort leI).filter fun k => P.all fun j => decide (f j ≤ f k)
theorem bestL_ok (P : List Int) (f : Int → Int) : (P = [] ∧ bestL P f = []) ∨ ∃ b r, bestL P f = b :: r ∧ mrD P f = .int b := by
  cases P with
  | nil => exact .inl ⟨rfl, by simp [bestL]⟩
  | cons k P =>
    right
    have hb := best_mn (k := k) (P := P) (f := f)
    have hmem : ∀ x, x ∈ bestL (k :: P) f ↔ x ∈ k :: P ∧ ∀ j ∈ k :: P, f j ≤ f x := fun x => by
      unfold bestL
      rw [List.mem_filter, List.mem_mergeSort, List.all_eq_true]
      simp only [decide_eq_true_eq]
    have hs : (bestL (k :: P) f).Pairwise fun a b => leI a b = true := (List.pairwise_mergeSort (le := leI) (fun a b c h1 h2 => by simp only [leI, decide_eq_true_eq] at *; omega) (fun a b => by simp only [leI, Bool.or_eq_true, decide_eq_true_eq]; omega) (k :: P)).filter _
    cases e : bestL (k :: P) f with
    | nil =>
      have := (hmem _).mpr ⟨hb.mem, hb.most⟩
      rw [e] at this; cases this
    | cons b r =>
      rw [e] at hs
      have hb' : b ∈ k :: P ∧ ∀ j ∈ k :: P, f j ≤ f b := (hmem b).mp (by rw [e]; simp)
      have hB : Best (k :: P) f b := ⟨hb'.1, hb'.2, fun j hj he => by
        have hj' : j ∈ bestL (k :: P) f := (hmem j).mpr ⟨hj, fun x hx => by rw [he]; exact hb'.2 x hx⟩
        rw [e] at hj'
        rw [List.pairwise_cons] at hs
        rcases List.mem_cons.mp hj' with rfl | hj'
        · exact Int.le_refl _
        · have := hs.1 j hj'; simpa [leI] using this⟩
      refine ⟨b, r, rfl, ?_⟩
      simp only [mrD]
      rw [Best.one hb hB]
/-! ### what is free in a part -/
mutual
def fv (ts : Ts) : Tr → List Int
  | .back i j => [ref ts i j]
  | .lf _ _ => []
  | .fn s n e => (fv ((s, n) :: ts) e).filter fun k => decide (k ∉ nums s n)
  | .lt s n es e => fvs ts es ++ (fv ((s, n) :: ts) e).filter fun k => decide (k ∉ nums s n)
  | .iff es => fvs ts es
  | .call e es => fv ts e ++ fvs ts es
def fvs (ts : Ts) : List Tr → List Int
  | [] => []
  | e :: es => fv ts e ++ fvs ts es
end
theorem fvs_mem {ts : Ts} {es : List Tr} {k : Int} : k ∈ fvs ts es ↔ ∃ e ∈ es, k ∈ fv ts e := by
  induction es with
  | nil => simp [fvs]
  | cons a l ih => simp [fvs, ih]
/-- a ref that leaves a part -/
def Occ : Tr → Nat → Nat → Prop
  | .back a b, i, j => a = i ∧ b = j
  | .lf _ _, _, _ => False
  | .fn _ _ e, i, j => Occ e (i + 1) j
  | .lt _ _ es e, i, j => (∃ x, ∃ h : x ∈ es, Occ x i j) ∨ Occ e (i + 1) j
  | .iff es, i, j => ∃ x, ∃ h : x ∈ es, Occ x i j
  | .call e es, i, j => Occ e i j ∨ ∃ x, ∃ h : x ∈ es, Occ x i j
/-! all refs are to ties less far out -/
mutual
def clo (c : Nat) : Tr → Bool
  | .back i _ => decide (i < c)
  | .lf _ _ => true
  | .fn _ _ e => clo (c + 1) e
  | .lt _ _ es e => clos c es && clo (c + 1) e
  | .iff es => clos c es
  | .call e es => clo c e && clos c es
def clos (c : Nat) : List Tr → Bool
  | [] => true
  | e :: es => clo c e && clos c es
end
theorem clos_iff {c : Nat} {es : List Tr} : clos c es = true ↔ ∀ e ∈ es, clo c e = true := by
  induction es with
  | nil => simp [clos]
  | cons a l ih => simp [clos, ih]
theorem clo_occ : ∀ (t : Tr) (c : Nat), clo c t = true ↔ ∀ i j, Occ t i j → i < c
  | .back a b, c => by
    simp only [clo, Occ, decide_eq_true_eq]
    exact ⟨fun h i j ⟨e, _⟩ => e ▸ h, fun h => h a b ⟨rfl, rfl⟩⟩
  | .lf _ _, c => by simp [clo, Occ]
  | .fn _ _ e, c => by
    simp only [clo, Occ]
    rw [clo_occ e (c + 1)]
    constructor
    · intro h i j ho; have := h (i + 1) j ho; omega
    · intro h i j ho
      cases i with
      | zero => omega
      | succ i => have := h i j ho; omega
  | .lt _ _ es e, c => by
    simp only [clo, Occ, Bool.and_eq_true]
    rw [clos_iff, clo_occ e (c + 1)]
    constructor
    · rintro ⟨h1, h2⟩ i j (⟨x, hx, ho⟩ | ho)
      · exact (clo_occ x c).mp (h1 x hx) i j ho
      · have := h2 (i + 1) j ho; omega
    · intro h
      refine ⟨fun x hx => (clo_occ x c).mpr fun i j ho => h i j (.inl ⟨x, hx, ho⟩), fun i j ho => ?_⟩
      cases i with
      | zero => omega
      | succ i => have := h i j (.inr ho); omega
  | .iff es, c => by
    simp only [clo, Occ]
    rw [clos_iff]
    constructor
    · rintro h1 i j ⟨x, hx, ho⟩
      exact (clo_occ x c).mp (h1 x hx) i j ho
    · intro h x hx
      exact (clo_occ x c).mpr fun i j ho => h i j ⟨x, hx, ho⟩
  | .call e es, c => by
    simp only [clo, Occ, Bool.and_eq_true]
    rw [clos_iff, clo_occ e c]
    constructor
    · rintro ⟨h1, h2⟩ i j (ho | ⟨x, hx, ho⟩)
      · exact h1 i j ho
      · exact (clo_occ x c).mp (h2 x hx) i j ho
    · intro h
      exact ⟨fun i j ho => h i j (.inl ho), fun x hx => (clo_occ x c).mpr fun i j ho => h i j (.inr ⟨x, hx, ho⟩)⟩
theorem ref_suc (p : Nat × Nat) (ts : Ts) (i j : Nat) : ref (p :: ts) (i + 1) j = ref ts i j := by simp [ref]
/-- where a ref leads, as things are tied -/
theorem occ_good : ∀ (t : Tr) (ts : Ts), good ts t = true → ∀ i j, Occ t i j → ∃ p, ts[i]? = some p ∧ j < p.2
  | .back a b, ts, h, i, j, ho => by
    simp only [Occ] at ho
    obtain ⟨e1, e2⟩ := ho
    subst e1 e2
    simp only [good] at h
    cases e : ts[a]? with
    | none => rw [e] at h; cases h
    | some p => rw [e] at h; exact ⟨p, rfl, by simpa using h⟩
  | .lf _ _, _, _, _, _, h => by simp only [Occ] at h
  | .fn s n e, ts, h, i, j, ho => by
    simp only [Occ] at ho
    simp only [good, Bool.and_eq_true] at h
    have := occ_good e _ h.2 (i + 1) j ho
    simpa using this
  | .lt s n es e, ts, h, i, j, ho => by
    simp only [Occ] at ho
    simp only [good, Bool.and_eq_true] at h
    rcases ho with ⟨x, hx, ho⟩ | ho
    · exact occ_good x ts (goods_iff.mp h.1.2 x hx) i j ho
    · have := occ_good e _ h.2 (i + 1) j ho
      simpa using this
  | .iff es, ts, h, i, j, ho => by
    simp only [Occ] at ho
    obtain ⟨x, hx, ho⟩ := ho
    simp only [good] at h
    exact occ_good x ts (goods_iff.mp h x hx) i j ho
  | .call e es, ts, h, i, j, ho => by
    simp only [Occ] at ho
    simp only [good, Bool.and_eq_true] at h
    rcases ho with ho | ⟨x, hx, ho⟩
    · exact occ_good e ts h.1 i j ho
    · exact occ_good x ts (goods_iff.mp h.2 x hx) i j ho
theorem under {ts : Ts} {s n : Nat} {e : Tr} (hc : Chain ((s, n) :: ts)) (hg : good ((s, n) :: ts) e = true) {k : Int} (ih : k ∈ fv ((s, n) :: ts) e ↔ ∃ i j, Occ e i j ∧ k = ref ((s, n) :: ts) i j) :
    k ∈ (fv ((s, n) :: ts) e).filter (fun k => decide (k ∉ nums s n)) ↔ ∃ i j, Occ e (i + 1) j ∧ k = ref ts i j := by
  rw [List.mem_filter, ih]
  simp only [decide_eq_true_eq]
  constructor
  · rintro ⟨⟨i, j, ho, rfl⟩, hn⟩
    obtain ⟨p, hp, hj⟩ := occ_good e _ hg i j ho
    have hr : ref ((s, n) :: ts) i j = (p.1 : Int) + j := by unfold ref; rw [hp]
    have hon := only hc hp hj (k := 0) (q := (s, n)) rfl
    cases i with
    | zero => rw [hr] at hn; exact absurd (hon.mpr rfl) hn
    | succ i => exact ⟨i, j, ho, ref_suc _ _ _ _⟩
  · rintro ⟨i, j, ho, rfl⟩
    obtain ⟨p, hp, hj⟩ := occ_good e _ hg (i + 1) j ho
    have hr : ref ((s, n) :: ts) (i + 1) j = (p.1 : Int) + j := by unfold ref; rw [hp]
    have hon := only hc hp hj (k := 0) (q := (s, n)) rfl
    refine ⟨⟨i + 1, j, ho, (ref_suc _ _ _ _).symm⟩, ?_⟩
    rw [← ref_suc (s, n) ts i j, hr]
    intro h
    have := hon.mp h; omega
theorem fv_occ : ∀ (t : Tr) (ts : Ts), good ts t = true → Chain ts → ∀ k : Int, k ∈ fv ts t ↔ ∃ i j, Occ t i j ∧ k = ref ts i j
  | .back a b, ts, _, _, k => by
    simp only [fv, List.mem_singleton, Occ]
    exact ⟨fun h => ⟨a, b, ⟨rfl, rfl⟩, h⟩, fun ⟨i, j, ⟨e1, e2⟩, h⟩ => by rw [h, e1, e2]⟩
  | .lf _ _, ts, _, _, k => by simp [fv, Occ]
  | .fn s n e, ts, hg, hc, k => by
    simp only [good, Bool.and_eq_true] at hg
    have hc' : Chain ((s, n) :: ts) := hc.cons hg.1
    simp only [fv, Occ]
    exact under hc' hg.2 (fv_occ e _ hg.2 hc' k)
  | .lt s n es e, ts, hg, hc, k => by
    simp only [good, Bool.and_eq_true] at hg
    have hc' : Chain ((s, n) :: ts) := hc.cons hg.1.1
    simp only [fv, Occ, List.mem_append]
    rw [under hc' hg.2 (fv_occ e _ hg.2 hc' k), fvs_mem]
    constructor
    · rintro (⟨x, hx, h⟩ | ⟨i, j, ho, h⟩)
      · obtain ⟨i, j, ho, h⟩ := (fv_occ x ts (goods_iff.mp hg.1.2 x hx) hc k).mp h
        exact ⟨i, j, .inl ⟨x, hx, ho⟩, h⟩
      · exact ⟨i, j, .inr ho, h⟩
    · rintro ⟨i, j, ⟨x, hx, ho⟩ | ho, h⟩
      · exact .inl ⟨x, hx, (fv_occ x ts (goods_iff.mp hg.1.2 x hx) hc k).mpr ⟨i, j, ho, h⟩⟩
      · exact .inr ⟨i, j, ho, h⟩
  | .iff es, ts, hg, hc, k => by
    simp only [good] at hg
    simp only [fv, Occ]
    rw [fvs_mem]
    constructor
    · rintro ⟨x, hx, h⟩
      obtain ⟨i, j, ho, h⟩ := (fv_occ x ts (goods_iff.mp hg x hx) hc k).mp h
      exact ⟨i, j, ⟨x, hx, ho⟩, h⟩
    · rintro ⟨i, j, ⟨x, hx, ho⟩, h⟩
      exact ⟨x, hx, (fv_occ x ts (goods_iff.mp hg x hx) hc k).mpr ⟨i, j, ho, h⟩⟩
  | .call e es, ts, hg, hc, k => by
    simp only [good, Bool.and_eq_true] at hg
    simp only [fv, Occ, List.mem_append]
    rw [fv_occ e ts hg.1 hc k, fvs_mem]
    constructor
    · rintro (⟨i, j, ho, h⟩ | ⟨x, hx, h⟩)
      · exact ⟨i, j, .inl ho, h⟩
      · obtain ⟨i, j, ho, h⟩ := (fv_occ x ts (goods_iff.mp hg.2 x hx) hc k).mp h
        exact ⟨i, j, .inr ⟨x, hx, ho⟩, h⟩
    · rintro ⟨i, j, ho | ⟨x, hx, ho⟩, h⟩
      · exact .inl ⟨i, j, ho, h⟩
      · exact .inr ⟨x, hx, (fv_occ x ts (goods_iff.mp hg.2 x hx) hc k).mpr ⟨i, j, ho, h⟩⟩
theorem fv_clo {t : Tr} {ts : Ts} (hg : good ts t = true) (hc : Chain ts) : fv ts t = [] ↔ clo 0 t = true := by
  rw [clo_occ]
  constructor
  · intro h i j ho
    have := (fv_occ t ts hg hc _).mpr ⟨i, j, ho, rfl⟩
    rw [h] at this; cases this
  · intro h
    rw [List.eq_nil_iff_forall_not_mem]
    intro k hk
    obtain ⟨i, j, ho, _⟩ := (fv_occ t ts hg hc k).mp hk
    have := h i j ho; omega
end K56

set_option maxRecDepth 100000
namespace K56
open PySem PySem.Spec PyProof.Rows L2 FL

theorem comp_mapG {α : Type} {gt : D → En → Option En} {c : MT} {e : ME} {gd : Me → Bool} {ρ : En} {m : Me} {Q : Res (List D) → Prop} {xs : List α} {g : α → D} (p : α → Bool) (f : α → D) (hg : gd m = true)
    (h : ∀ x ∈ xs, ∃ ρ1, gt (g x) ρ = some ρ1 ∧ c ρ1 m = .ok (p x) m ∧ (p x = true → e ρ1 m = .ok (f x) m)) (q : Q (.ok ((xs.filter p).map f) m)) : RHas Q (compF gt c e gd ρ (xs.map g) m) := by
  refine comp_has (fun rest ys m' => ∃ us rs : List α, xs = us ++ rs ∧ rest = rs.map g ∧ ys = (us.filter p).map f ∧ m' = m) ?_ ?_ ⟨[], xs, rfl, rfl, rfl, rfl⟩
  · rintro d r ys m' ⟨us, rs, e1, e2, rfl, rfl⟩
    cases rs with
    | nil => simp at e2
    | cons x rs =>
      simp only [List.map_cons, List.cons.injEq] at e2
      obtain ⟨rfl, rfl⟩ := e2
      obtain ⟨ρ1, h1, h2, h3⟩ := h x (by rw [e1]; simp)
      refine ⟨hg, ρ1, h1, ?_⟩
      rw [h2]
      cases hp : p x with
      | true =>
        have h3 := h3 hp
        simp only [rhas_ok, kC_ok, if_true]
        rw [h3]
        simp only [noX_ok, rhas_ok, kE_ok]
        exact ⟨us ++ [x], rs, by rw [e1]; simp, rfl, by rw [List.filter_append, List.map_append]; simp [hp], by simp⟩
      | false =>
        simp only [rhas_ok, kC_ok, Bool.false_eq_true, if_false]
        exact ⟨us ++ [x], rs, by rw [e1]; simp, rfl, by rw [List.filter_append, List.map_append]; simp [hp], by simp⟩
  · rintro ys m' ⟨us, rs, e1, e2, rfl, rfl⟩
    have : rs = [] := by simpa using e2.symm
    subst this
    rw [List.append_nil] at e1
    subst e1
    exact ⟨hg, q⟩
theorem gdL_ok {i : Nat} {ds : List D} {m : Me} (h : m[i]? = some (.lst ds)) : gdL i ds m = true := by unfold gdL; simp [h]
/-! ### all ties stand between two numbers -/
mutual
def rg (a b : Nat) : Tr → Bool
  | .back _ _ => true
  | .lf _ _ => true
  | .fn s n e => decide (a ≤ s ∧ s + n ≤ b) && rg a b e
  | .lt s n es e => decide (a ≤ s ∧ s + n ≤ b) && rgs a b es && rg a b e
  | .iff es => rgs a b es
  | .call e es => rg a b e && rgs a b es
def rgs (a b : Nat) : List Tr → Bool
  | [] => true
  | e :: es => rg a b e && rgs a b es
end
theorem rgs_iff {a b : Nat} {es : List Tr} : rgs a b es = true ↔ ∀ e ∈ es, rg a b e = true := by
  induction es with
  | nil => simp [rgs]
  | cons x l ih => simp [rgs, ih]
mutual
theorem num_rg {a b : Nat} : ∀ (t : Tr) (s : Nat), a ≤ s → s + cnt t ≤ b → rg a b (num s t) = true
  | .back _ _, _, _, _ => rfl
  | .lf _ _, _, _, _ => rfl
  | .fn _ n e, s, h1, h2 => by
    simp only [cnt] at h2
    simp only [num, rg, Bool.and_eq_true, decide_eq_true_eq]
    exact ⟨⟨h1, by omega⟩, num_rg e (s + n) (by omega) (by omega)⟩
  | .lt _ n es e, s, h1, h2 => by
    simp only [cnt] at h2
    simp only [num, rg, Bool.and_eq_true, decide_eq_true_eq]
    exact ⟨⟨⟨h1, by omega⟩, numL_rg es (s + n) (by omega) (by omega)⟩, num_rg e _ (by omega) (by omega)⟩
  | .iff es, s, h1, h2 => by
    simp only [cnt] at h2
    simp only [num, rg]
    exact numL_rg es s h1 h2
  | .call e es, s, h1, h2 => by
    simp only [cnt] at h2
    simp only [num, rg, Bool.and_eq_true]
    exact ⟨num_rg e s h1 (by omega), numL_rg es _ (by omega) (by omega)⟩
theorem numL_rg {a b : Nat} : ∀ (es : List Tr) (s : Nat), a ≤ s → s + cnts es ≤ b → rgs a b (numL s es) = true
  | [], _, _, _ => rfl
  | e :: es, s, h1, h2 => by
    simp only [cnts] at h2
    simp only [numL, rgs, Bool.and_eq_true]
    exact ⟨num_rg e s h1 (by omega), numL_rg es _ (by omega) (by omega)⟩
end
/-- what a part needs -/
structure Pk (a b : Nat) (p : Pt) : Prop where
  w : wf p.2 = true
  g : good p.1 p.2 = true
  c : Chain p.1
  r : rg a b p.2 = true
  t : ∀ q ∈ p.1, a ≤ q.1 ∧ q.1 + q.2 ≤ b
  d : p.1.length + p.2.dp ≤ 20
theorem Pk.kid {a b : Nat} {p q : Pt} (h : Pk a b p) (hq : q ∈ kd p) : Pk a b q := by
  obtain ⟨h1, h2⟩ := kd_ok h.w hq
  obtain ⟨ts, t⟩ := p
  have hg := h.g
  have hr := h.r
  have hd := h.d
  have key : ∀ es : List Tr, goods ts es = true → rgs a b es = true → q ∈ es.map (fun x => ((ts, x) : Pt)) → Pk a b q := fun es g r hm => by
    obtain ⟨x, hx, rfl⟩ := List.mem_map.mp hm
    exact ⟨h2, goods_iff.mp g x hx, h.c, rgs_iff.mp r x hx, h.t, by simp only at h1 hd ⊢; omega⟩
  have under' : ∀ s n e, ts.all (fun p => decide (p.1 + p.2 ≤ s)) = true → good ((s, n) :: ts) e = true → (a ≤ s ∧ s + n ≤ b) → rg a b e = true → q = ((s, n) :: ts, e) → Pk a b q := fun s n e g1 g2 r1 r2 hm => by
    subst hm
    refine ⟨h2, g2, h.c.cons g1, r2, fun x hx => ?_, by simp only [List.length_cons] at h1 hd ⊢; omega⟩
    rcases List.mem_cons.mp hx with rfl | hx
    · exact r1
    · exact h.t x hx
  cases t with
  | back i j => cases hq
  | lf s xs => cases hq
  | fn s n e =>
    simp only [good, Bool.and_eq_true] at hg
    simp only [rg, Bool.and_eq_true, decide_eq_true_eq] at hr
    exact under' s n e hg.1 hg.2 hr.1 hr.2 (by simpa [kd] using hq)
  | lt s n es e =>
    simp only [good, Bool.and_eq_true] at hg
    simp only [rg, Bool.and_eq_true, decide_eq_true_eq] at hr
    rcases List.mem_append.mp hq with hq | hq
    · exact key es hg.1.2 hr.1.2 hq
    · exact under' s n e hg.1.1 hg.2 hr.1.1 hr.2 (List.mem_singleton.mp hq)
  | iff es =>
    simp only [good] at hg
    simp only [rg] at hr
    exact key es hg hr hq
  | call e es =>
    simp only [good, Bool.and_eq_true] at hg
    simp only [rg, Bool.and_eq_true] at hr
    rcases List.mem_cons.mp hq with rfl | hq
    · exact ⟨h2, hg.1, h.c, hr.1, h.t, by simp only at h1 hd ⊢; omega⟩
    · exact key es hg.2 hr.2 hq
theorem Pk.sub {a b : Nat} : ∀ (k : Nat) (p : Pt), Pk a b p → ∀ q ∈ K56.sub k p, Pk a b q
  | 0, _, _, _, h => nomatch h
  | k + 1, p, hp, q, h => by
    rcases List.mem_cons.mp h with rfl | h
    · exact hp
    · obtain ⟨r, h1, h2⟩ := List.mem_flatMap.mp h
      exact Pk.sub k r (hp.kid h1) q h2
theorem Pk.fv {a b : Nat} {p : Pt} (h : Pk a b p) : ∀ k ∈ fv p.1 p.2, (a : Int) ≤ k ∧ k < (b : Int) := fun k hk => by
  obtain ⟨i, j, ho, rfl⟩ := (fv_occ p.2 p.1 h.g h.c k).mp hk
  obtain ⟨q, hq, hj⟩ := occ_good p.2 p.1 h.g i j ho
  have ht := h.t q (List.mem_of_getElem? hq)
  have hr : ref p.1 i j = (q.1 : Int) + j := by unfold ref; rw [hq]
  rw [hr]; omega
/-! ### open_places -/
theorem fns2 (n : Nat) : G.fns (n + 1) 2 = runDef 5 1 (G.b2 (G.fns n)) := rfl
theorem sort_ints {a b : Nat} {X : List Int} (hr : ∀ k ∈ X, (a : Int) ≤ k ∧ k < (b : Int)) (hab : b ≤ a + 63) (hl : X.length < 4095) {d : D} {m : Me} (hv : view m d = .lst (X.map .int)) : gSortSet d m = .ok (.lst ((sortU X).map .int)) m := by
  have e : intsD (X.map D.int) = some X := by
    clear hv hl hr
    induction X with
    | nil => rfl
    | cons x l ih => simp [intsD, ih]
  unfold gSortSet
  rw [hv]
  simp only [e]
  have := rise_len (sortU X) a b (sortU_rise X) fun k hk => hr k ((sortU_mem k X).mp hk)
  rw [if_pos ⟨by omega, hl⟩]
def IE1 (F : Pt → List Int) (qs : List Pt) (X0 : List Int) (a0 a3 a4 : Option D) (m : Me) (rest : List D) (ρ : En) (m' : Me) : Prop := ∃ (us rs : List Pt) (x2 : Option D), qs = us ++ rs ∧ rest = rs.map pD ∧ ρ = [a0, some (.ref m.length), x2, a3, a4] ∧ m' = m ++ [.lst ((X0 ++ us.flatMap F).map .int)]
theorem ext_loop {F : Pt → List Int} {n : Nat} {qs : List Pt} {a0 a2 a3 a4 : Option D} {m : Me} {Q : Fl → Prop} (hF : ∀ q ∈ qs, (F q).length ≤ 63 ∧ ∀ m, G.fns n 2 [pD q] m = .ok (.tup ((F q).map .int)) m) (hl : qs.length ≤ 3)
    (hyes : ∀ x2, Q (.nx [a0, some (.ref m.length), x2, a3, a4] (m ++ [.lst ((qs.flatMap F).map .int)]))) :
    FHas Q (forF (tgN 2) (sSeq (sDo (mExtendT (mVar 1) (mCall (G.fns n 2) (mCons (mVar 2) mNil)))) sNext) gdY (qs.map pD) [a0, some (.ref m.length), a2, a3, a4] (m ++ [.lst []])) := by
  refine for_has (IE1 F qs [] a0 a3 a4 m) ?_ ?_ ⟨[], qs, a2, rfl, rfl, rfl, rfl⟩
  · rintro d rest ρ m' ⟨us, rs, x2, e1, e2, rfl, rfl⟩
    cases rs with
    | nil => simp at e2
    | cons q rs =>
      simp only [List.map_cons, List.cons.injEq] at e2
      obtain ⟨rfl, rfl⟩ := e2
      refine ⟨rfl, _, rfl, ?_⟩
      obtain ⟨hq1, hq2⟩ := hF q (by rw [e1]; simp)
      have hb : (([] ++ us.flatMap F).map D.int).length + ((F q).map D.int).length < 1000000 := by
        have : ∀ l : List Pt, (∀ x ∈ l, (F x).length ≤ 63) → (l.flatMap F).length ≤ 63 * l.length := by
          intro l
          induction l with
          | nil => intro _; simp
          | cons x l ih => intro h; have h1 := h x (by simp); have h2 := ih fun y hy => h y (by simp [hy]); simp only [List.flatMap_cons, List.length_append, List.length_cons]; omega
        have := this us fun x hx => (hF x (by rw [e1]; simp [hx])).1
        have : us.length ≤ qs.length := by rw [e1]; simp
        simp only [List.nil_append, List.length_map]; omega
      have fin : ∀ y2, IE1 F qs [] a0 a3 a4 m (rs.map pD) [a0, some (.ref m.length), y2, a3, a4] (m ++ [.lst (([] ++ us.flatMap F).map .int ++ (F q).map .int)]) := fun y2 => ⟨us ++ [q], rs, y2, by rw [e1]; simp, rfl, rfl, by simp⟩
      generalize ([] ++ us.flatMap F).map D.int = L1 at *
      generalize (F q).map D.int = L2 at *
      generalize pD q = qd at *
      simp -dsimp -implicitDefEqProofs [hq2, mExtendT, hb]
      exact fin _
  · rintro ρ m' ⟨us, rs, x2, e1, e2, rfl, rfl⟩
    have : rs = [] := by simpa using e2.symm
    subst this
    rw [List.append_nil] at e1
    subst e1
    exact ⟨rfl, hyes _⟩
def IE3 (F : Pt → List Int) (qs : List Pt) (X0 : List Int) (a0 a1 a4 : Option D) (m : Me) (rest : List D) (ρ : En) (m' : Me) : Prop := ∃ (us rs : List Pt) (x2 : Option D), qs = us ++ rs ∧ rest = rs.map pD ∧ ρ = [a0, a1, x2, some (.ref m.length), a4] ∧ m' = m ++ [.lst ((X0 ++ us.flatMap F).map .int)]
theorem ext_loop3 {F : Pt → List Int} {n : Nat} {qs : List Pt} {a0 a1 a2 a4 : Option D} {m : Me} {Q : Fl → Prop} (hF : ∀ q ∈ qs, (F q).length ≤ 63 ∧ ∀ m, G.fns n 2 [pD q] m = .ok (.tup ((F q).map .int)) m) (hl : qs.length ≤ 3)
    (hyes : ∀ x2, Q (.nx [a0, a1, x2, some (.ref m.length), a4] (m ++ [.lst ((qs.flatMap F).map .int)]))) :
    FHas Q (forF (tgN 2) (sSeq (sDo (mExtendT (mVar 3) (mCall (G.fns n 2) (mCons (mVar 2) mNil)))) sNext) gdY (qs.map pD) [a0, a1, a2, some (.ref m.length), a4] (m ++ [.lst []])) := by
  refine for_has (IE3 F qs [] a0 a1 a4 m) ?_ ?_ ⟨[], qs, a2, rfl, rfl, rfl, rfl⟩
  · rintro d rest ρ m' ⟨us, rs, x2, e1, e2, rfl, rfl⟩
    cases rs with
    | nil => simp at e2
    | cons q rs =>
      simp only [List.map_cons, List.cons.injEq] at e2
      obtain ⟨rfl, rfl⟩ := e2
      refine ⟨rfl, _, rfl, ?_⟩
      obtain ⟨hq1, hq2⟩ := hF q (by rw [e1]; simp)
      have hb : (([] ++ us.flatMap F).map D.int).length + ((F q).map D.int).length < 1000000 := by
        have : ∀ l : List Pt, (∀ x ∈ l, (F x).length ≤ 63) → (l.flatMap F).length ≤ 63 * l.length := by
          intro l
          induction l with
          | nil => intro _; simp
          | cons x l ih => intro h; have h1 := h x (by simp); have h2 := ih fun y hy => h y (by simp [hy]); simp only [List.flatMap_cons, List.length_append, List.length_cons]; omega
        have := this us fun x hx => (hF x (by rw [e1]; simp [hx])).1
        have : us.length ≤ qs.length := by rw [e1]; simp
        simp only [List.nil_append, List.length_map]; omega
      have fin : ∀ y2, IE3 F qs [] a0 a1 a4 m (rs.map pD) [a0, a1, y2, some (.ref m.length), a4] (m ++ [.lst (([] ++ us.flatMap F).map .int ++ (F q).map .int)]) := fun y2 => ⟨us ++ [q], rs, y2, by rw [e1]; simp, rfl, rfl, by simp⟩
      generalize ([] ++ us.flatMap F).map D.int = L1 at *
      generalize (F q).map D.int = L2 at *
      generalize pD q = qd at *
      simp -dsimp -implicitDefEqProofs [hq2, mExtendT, hb]
      exact fin _
  · rintro ρ m' ⟨us, rs, x2, e1, e2, rfl, rfl⟩
    have : rs = [] := by simpa using e2.symm
    subst this
    rw [List.append_nil] at e1
    subst e1
    exact ⟨rfl, hyes _⟩
end K56

set_option maxRecDepth 100000
namespace K56
open PySem PySem.Spec PyProof.Rows L2 FL

theorem flat63 {F : Pt → List Int} : ∀ l : List Pt, (∀ x ∈ l, (F x).length ≤ 63) → (l.flatMap F).length ≤ 63 * l.length := by
  intro l
  induction l with
  | nil => intro _; simp
  | cons x l ih => intro h; have h1 := h x (by simp); have h2 := ih fun y hy => h y (by simp [hy]); simp only [List.flatMap_cons, List.length_append, List.length_cons]; omega
theorem sortU_63 {a b : Nat} {X : List Int} (hr : ∀ k ∈ X, (a : Int) ≤ k ∧ k < (b : Int)) (hab : b ≤ a + 63) : (sortU X).length ≤ 63 := by
  have := rise_len (sortU X) a b (sortU_rise X) fun k hk => hr k ((sortU_mem k X).mp hk)
  omega
theorem nb_ints (L : List Int) : nb (.tup (L.map D.int)) = true := by
  simp only [nb]
  exact nbL_iff.mpr fun x hx => by obtain ⟨k, _, rfl⟩ := List.mem_map.mp hx; rfl
theorem gTup_l (X : List Int) (m : Me) : gTuple [.lst (X.map D.int)] m = .ok (.tup (X.map D.int)) m := rfl
theorem view3 (m : Me) (x y : Cell) (l : List D) : view (m ++ [x, y, .lst l]) (.ref (m.length + 1 + 1)) = .lst l := by
  have : (m ++ [x, y, .lst l])[m.length + 1 + 1]? = some (.lst l) := by
    rw [List.getElem?_append_right (by omega), show m.length + 1 + 1 - m.length = 2 by omega]; rfl
  simp only [view, this]
/-- open_places tells the open places -/
def OP (k : Nat) (p : Pt) : Prop := ∃ L : List Int, L.length ≤ 63 ∧ (∀ x, x ∈ L ↔ x ∈ fv p.1 p.2) ∧ ∀ j m, G.fns (k + j + 1) 2 [pD p] m = .ok (.tup (L.map .int)) m
theorem open_step {a b k : Nat} (hab : b ≤ a + 63) (p : Pt) (hpw : wf p.2 = true) (hfv : ∀ q ∈ kd p, ∀ x ∈ fv q.1 q.2, (a : Int) ≤ x ∧ x < (b : Int)) (hop : ∀ q ∈ kd p, OP k q) : OP (k + 1) p := by
    have hkid : ∀ q, ∃ L : List Int, q ∈ kd p → L.length ≤ 63 ∧ (∀ x, x ∈ L ↔ x ∈ fv q.1 q.2) ∧ ∀ j m, G.fns (k + j + 1) 2 [pD q] m = .ok (.tup (L.map .int)) m := fun q => by
      by_cases hq : q ∈ kd p
      · obtain ⟨L, h⟩ := hop q hq
        exact ⟨L, fun _ => h⟩
      · exact ⟨[], fun h => absurd h hq⟩
    obtain ⟨F, hF⟩ : ∃ F : Pt → List Int, ∀ q ∈ kd p, (F q).length ≤ 63 ∧ (∀ x, x ∈ F q ↔ x ∈ fv q.1 q.2) ∧ ∀ j m, G.fns (k + j + 1) 2 [pD q] m = .ok (.tup ((F q).map .int)) m := ⟨fun q => (hkid q).choose, fun q hq => (hkid q).choose_spec hq⟩
    have hkl := kd_len hpw
    have hX1 : ((kd p).flatMap F).length ≤ 200 := by have := flat63 (kd p) fun q hq => (hF q hq).1; omega
    have hrg : ∀ q ∈ kd p, ∀ x ∈ F q, (a : Int) ≤ x ∧ x < (b : Int) := fun q hq x hx => hfv q hq x (((hF q hq).2.1 x).mp hx)
    have hr1 : ∀ x ∈ (kd p).flatMap F, (a : Int) ≤ x ∧ x < (b : Int) := fun x hx => by
      obtain ⟨q, hq, hx⟩ := List.mem_flatMap.mp hx
      exact hrg q hq x hx
    have hloop := fun j (Q : Fl → Prop) a0 a2 a3 a4 m h => ext_loop (F := F) (n := k + j + 1) (qs := kd p) (a0 := a0) (a2 := a2) (a3 := a3) (a4 := a4) (m := m) (Q := Q) (fun q hq => ⟨(hF q hq).1, fun m => (hF q hq).2.2 j m⟩) hkl h
    -- a part whose kids' refs are all that there is
    have plain : tgS p.2 ≠ "ref" → tgS p.2 ≠ "fn" → tgS p.2 ≠ "let" → (∀ x, x ∈ (kd p).flatMap F ↔ x ∈ fv p.1 p.2) → OP (k + 1) p := fun t1 t2 t3 hm => by
      refine ⟨sortU ((kd p).flatMap F), sortU_63 hr1 hab, fun x => by rw [sortU_mem, hm], fun j m => ?_⟩
      rw [show k + 1 + j + 1 = (k + j + 1) + 1 by omega, fns2]
      refine has_eq (has_def' [some (pD p), none, none, none, none] ?_)
      unfold G.b2
      have x0 := fun m => tg_ix p m
      have hpt := fun m => parts_ok (k + j) p hpw m
      have hs := sort_ints (d := .ref m.length) (m := m ++ [.lst (((kd p).flatMap F).map .int)]) hr1 hab (by omega) (by simp [view])
      have hgt := gTup_l (sortU ((kd p).flatMap F)) (m ++ [.lst (((kd p).flatMap F).map .int)])
      have lv : leave m (.tup ((sortU ((kd p).flatMap F)).map D.int)) (m ++ [.lst (((kd p).flatMap F).map .int)]) = .ok (.tup ((sortU ((kd p).flatMap F)).map D.int)) m := leave_app (nb_ints _)
      have hloop := hloop j
      generalize ((kd p).flatMap F).map D.int = X1 at *
      generalize (sortU ((kd p).flatMap F)).map D.int = S1 at *
      generalize (kd p).map pD = KD at *
      generalize hpd : pD p = pd at *
      generalize tgS p.2 = tag at *
      generalize hQ0 : (kD _ _ : Fl → Prop) = Q0
      simp -dsimp -implicitDefEqProofs [x0, hpt, t1]
      refine hloop _ _ _ _ _ _ fun y2 => ?_
      subst Q0
      simp -dsimp -implicitDefEqProofs [x0, t2, t3, hs, hgt, lv]
    obtain ⟨ts, t⟩ := p
    cases t with
    | back i c =>
      refine ⟨[ref ts i c], by simp, fun x => by simp [fv], fun j m => ?_⟩
      rw [fns2]
      refine has_eq (has_def' [some (pD (ts, .back i c)), none, none, none, none] ?_)
      unfold G.b2
      have lv : ∀ v : Int, leave m (.tup [.int v]) m = .ok (.tup [.int v]) m := fun v => leave_same rfl
      simp only [pD, cor]
      simp -dsimp -implicitDefEqProofs [lv]
    | lf s xs =>
      have hw := hpw
      simp only [wf, Bool.and_eq_true, decide_eq_true_eq] at hw
      have hs := lfc hw.1.1.1.1.1
      exact plain hs.2.2.2.2.2.2 hs.1 hs.2.1 fun x => by simp [kd, fv]
    | iff es =>
      refine plain (by simp [tgS]) (by simp [tgS]) (by simp [tgS]) fun x => ?_
      simp only [fv]
      rw [fvs_mem, List.mem_flatMap]
      constructor
      · rintro ⟨q, hq, hx⟩
        have := ((hF q hq).2.1 x).mp hx
        obtain ⟨e, he, rfl⟩ := List.mem_map.mp (show q ∈ es.map fun x => ((ts, x) : Pt) from hq)
        exact ⟨e, he, this⟩
      · rintro ⟨e, he, hx⟩
        have hq : ((ts, e) : Pt) ∈ kd (ts, .iff es) := List.mem_map.mpr ⟨e, he, rfl⟩
        exact ⟨_, hq, ((hF _ hq).2.1 x).mpr hx⟩
    | call e es =>
      refine plain (by simp [tgS]) (by simp [tgS]) (by simp [tgS]) fun x => ?_
      simp only [fv]
      rw [List.mem_append, fvs_mem, List.mem_flatMap]
      constructor
      · rintro ⟨q, hq, hx⟩
        have := ((hF q hq).2.1 x).mp hx
        rcases List.mem_cons.mp (show q ∈ (ts, e) :: es.map fun x => ((ts, x) : Pt) from hq) with rfl | hq
        · exact .inl this
        · obtain ⟨y, hy, rfl⟩ := List.mem_map.mp hq
          exact .inr ⟨y, hy, this⟩
      · rintro (hx | ⟨y, hy, hx⟩)
        · have hq : ((ts, e) : Pt) ∈ kd (ts, .call e es) := by simp [kd]
          exact ⟨_, hq, ((hF _ hq).2.1 x).mpr hx⟩
        · have hq : ((ts, y) : Pt) ∈ kd (ts, .call e es) := List.mem_cons_of_mem _ (List.mem_map.mpr ⟨y, hy, rfl⟩)
          exact ⟨_, hq, ((hF _ hq).2.1 x).mpr hx⟩
    | fn s n e =>
      have hq : (((s, n) :: ts, e) : Pt) ∈ kd (ts, .fn s n e) := by simp [kd]
      have hfm : (kd (ts, .fn s n e)).flatMap F = F ((s, n) :: ts, e) := by simp [kd]
      obtain ⟨hq1, hq2, _⟩ := hF _ hq
      let X2 := (F ((s, n) :: ts, e)).filter fun k => decide (k ∉ nums s n)
      have hx2 : ∀ x ∈ X2, (a : Int) ≤ x ∧ x < (b : Int) := fun x hx => hrg _ hq x (List.mem_filter.mp hx).1
      have hl2 : X2.length ≤ 63 := Nat.le_trans (List.length_filter_le _ _) hq1
      refine ⟨sortU X2, sortU_63 hx2 hab, fun x => ?_, fun j m => ?_⟩
      · rw [sortU_mem]
        simp only [X2, fv, List.mem_filter, hq2]
      · rw [show k + 1 + j + 1 = (k + j + 1) + 1 by omega, fns2]
        refine has_eq (has_def' [some (pD (ts, .fn s n e)), none, none, none, none] ?_)
        unfold G.b2
        have x0 := fun m => tg_ix (ts, .fn s n e) m
        simp only [tgS] at x0
        have x1 : ∀ m, gIx (pD (ts, .fn s n e)) (.int 1) m = .ok (tie (s, n)) m := fun m => by simp [pD, cor]
        have hpt := fun m => parts_ok (k + j) (ts, .fn s n e) hpw m
        have hin := fun (x : Int) m => gIn_ints (neg := true) (s := tie (s, n)) (l := nums s n) x m rfl
        have hgd : gdL m.length ((F ((s, n) :: ts, e)).map D.int) (m ++ [.lst ((F ((s, n) :: ts, e)).map D.int)]) = true := gdL_ok (by simp)
        have hs := sort_ints (d := .ref (m.length + 1)) (m := m ++ [.lst ((F ((s, n) :: ts, e)).map .int), .lst (X2.map .int)]) hx2 hab (by omega) (by simp [view])
        have hgt := gTup_l (sortU X2) (m ++ [.lst ((F ((s, n) :: ts, e)).map .int), .lst (X2.map .int)])
        have lv : leave m (.tup ((sortU X2).map D.int)) (m ++ [.lst ((F ((s, n) :: ts, e)).map .int), .lst (X2.map .int)]) = .ok (.tup ((sortU X2).map D.int)) m := leave_app (nb_ints _)
        have hloop := hloop j
        rw [hfm] at hloop
        have hX2 : (F ((s, n) :: ts, e)).filter (fun k => decide (k ∉ nums s n)) = X2 := rfl
        generalize X2 = Y2 at *
        generalize F ((s, n) :: ts, e) = Y1 at *
        have hit : asIt (.ref m.length) (m ++ [Cell.lst (Y1.map D.int)]) = .ok (Y1.map D.int, gdL m.length (Y1.map D.int)) (m ++ [Cell.lst (Y1.map D.int)]) := by
          have : (m ++ [Cell.lst (Y1.map D.int)])[m.length]? = some (.lst (Y1.map D.int)) := by simp
          simp only [asIt, this]
        generalize (sortU Y2).map D.int = S1 at *
        generalize (kd (ts, .fn s n e)).map pD = KD at *
        generalize hpd : pD (ts, .fn s n e) = pd at *
        generalize tie (s, n) = tsn at *
        generalize hQ0 : (kD _ _ : Fl → Prop) = Q0
        simp -dsimp -implicitDefEqProofs [x0, hpt]
        refine hloop _ _ _ _ _ _ fun y2 => ?_
        simp -dsimp -implicitDefEqProofs [x0, hit]
        refine comp_mapG (fun x => decide (x ∉ nums s n)) D.int hgd (fun x hx => ?_) ?_
        · have h1 := hin x (m ++ [.lst (Y1.map D.int)])
          refine ⟨_, rfl, ?_, fun _ => ?_⟩
          · simp -dsimp -implicitDefEqProofs [x1, h1]
          · simp -dsimp -implicitDefEqProofs
        · rw [hX2]
          subst Q0
          simp -dsimp -implicitDefEqProofs [x0, hs, hgt, lv]
    | lt s n es e =>
      have hq : (((s, n) :: ts, e) : Pt) ∈ kd (ts, .lt s n es e) := by simp [kd]
      have hqs : ∀ q ∈ es.map (fun x => ((ts, x) : Pt)), q ∈ kd (ts, .lt s n es e) := fun q hq => List.mem_append_left _ hq
      obtain ⟨hq1, hq2, hq3⟩ := hF _ hq
      have hw := hpw
      simp only [wf, Bool.and_eq_true, decide_eq_true_eq] at hw
      let XO := (es.map fun x => ((ts, x) : Pt)).flatMap F
      let X2 := (F ((s, n) :: ts, e)).filter fun k => decide (k ∉ nums s n)
      let X3 := XO ++ X2
      have hx3 : ∀ x ∈ X3, (a : Int) ≤ x ∧ x < (b : Int) := fun x hx => by
        rcases List.mem_append.mp hx with hx | hx
        · obtain ⟨q, hq, hx⟩ := List.mem_flatMap.mp hx
          exact hrg q (hqs q hq) x hx
        · exact hrg _ hq x (List.mem_filter.mp hx).1
      have hlO : XO.length ≤ 200 := by
        have := flat63 (F := F) (es.map fun x => ((ts, x) : Pt)) fun q hq => (hF q (hqs q hq)).1
        rw [List.length_map] at this
        simp only [XO]; omega
      have hl2 : X2.length ≤ 63 := Nat.le_trans (List.length_filter_le _ _) hq1
      have hl3 : X3.length ≤ 300 := by simp only [X3, List.length_append]; omega
      refine ⟨sortU X3, sortU_63 hx3 hab, fun x => ?_, fun j m => ?_⟩
      · rw [sortU_mem]
        simp only [X3, XO, X2, fv, List.mem_append, List.mem_filter, hq2]
        rw [fvs_mem, List.mem_flatMap]
        refine or_congr ?_ Iff.rfl
        constructor
        · rintro ⟨q, hq, hx⟩
          have := ((hF q (hqs q hq)).2.1 x).mp hx
          obtain ⟨y, hy, rfl⟩ := List.mem_map.mp hq
          exact ⟨y, hy, this⟩
        · rintro ⟨y, hy, hx⟩
          have hq : ((ts, y) : Pt) ∈ es.map (fun x => ((ts, x) : Pt)) := List.mem_map.mpr ⟨y, hy, rfl⟩
          exact ⟨_, hq, ((hF _ (hqs _ hq)).2.1 x).mpr hx⟩
      · rw [show k + 1 + j + 1 = (k + j + 1) + 1 by omega, fns2]
        refine has_eq (has_def' [some (pD (ts, .lt s n es e)), none, none, none, none] ?_)
        unfold G.b2
        have x0 := fun m => tg_ix (ts, .lt s n es e) m
        simp only [tgS] at x0
        have x1 : ∀ m, gIx (pD (ts, .lt s n es e)) (.int 1) m = .ok (tie (s, n)) m := fun m => by simp [pD, cor]
        have x2 : ∀ m, gIx (pD (ts, .lt s n es e)) (.int 2) m = .ok (.tup ((es.map fun x => ((ts, x) : Pt)).map pD)) m := fun m => by
          rw [← cors_pD]; simp [pD, cor]
        have x3 : ∀ m, gIx (pD (ts, .lt s n es e)) (.int 3) m = .ok (pD ((s, n) :: ts, e)) m := fun m => by simp [pD, cor]
        have hpt := fun m => parts_ok (k + j) (ts, .lt s n es e) hpw m
        have hin := fun (x : Int) m => gIn_ints (neg := true) (s := tie (s, n)) (l := nums s n) x m rfl
        have hcb := hq3 j
        have hloop3 := fun (Q : Fl → Prop) a0 a1 a2 a4 m h => ext_loop3 (F := F) (n := k + j + 1) (qs := es.map fun x => ((ts, x) : Pt)) (a0 := a0) (a1 := a1) (a2 := a2) (a4 := a4) (m := m) (Q := Q) (fun q hq => ⟨(hF q (hqs q hq)).1, fun m => (hF q (hqs q hq)).2.2 j m⟩) (by rw [List.length_map]; omega) h
        have hloop := hloop j
        have hXO : (es.map fun x => ((ts, x) : Pt)).flatMap F = XO := rfl
        have hX2 : (F ((s, n) :: ts, e)).filter (fun k => decide (k ∉ nums s n)) = X2 := rfl
        have hX3 : XO ++ X2 = X3 := rfl
        rw [hXO] at hloop3
        generalize X3 = Y3 at *
        generalize X2 = Y2 at *
        generalize XO = YO at *
        have hs := sort_ints (d := .ref (m.length + 1 + 1)) (m := m ++ [.lst (((kd (ts, .lt s n es e)).flatMap F).map .int), .lst (YO.map .int), .lst (Y3.map .int)]) hx3 hab (by omega) (view3 _ _ _ _)
        have hgt := gTup_l (sortU Y3) (m ++ [.lst (((kd (ts, .lt s n es e)).flatMap F).map .int), .lst (YO.map .int), .lst (Y3.map .int)])
        have lv : leave m (.tup ((sortU Y3).map D.int)) (m ++ [.lst (((kd (ts, .lt s n es e)).flatMap F).map .int), .lst (YO.map .int), .lst (Y3.map .int)]) = .ok (.tup ((sortU Y3).map D.int)) m := leave_app (nb_ints _)
        generalize (kd (ts, .lt s n es e)).flatMap F = Y0 at *
        have hcat : gCatC (.ref (m ++ [Cell.lst (Y0.map D.int)]).length) (.lst (Y2.map D.int)) (m ++ [.lst (Y0.map .int), .lst (YO.map .int)]) = .ok (.ref (m.length + 1 + 1)) (m ++ [.lst (Y0.map .int), .lst (YO.map .int), .lst (Y3.map .int)]) := by
          unfold gCatC
          have e1 : view (m ++ [Cell.lst (Y0.map D.int), .lst (YO.map D.int)]) (.ref (m ++ [Cell.lst (Y0.map D.int)]).length) = .lst (YO.map D.int) := by simp [view]
          have e2 : view (m ++ [Cell.lst (Y0.map D.int), .lst (YO.map D.int)]) (.lst (Y2.map D.int)) = .lst (Y2.map D.int) := rfl
          simp only [e1, e2]
          rw [if_pos (by simp only [List.length_map]; omega), ← hX3]
          simp
        generalize F ((s, n) :: ts, e) = Y1 at *
        generalize (sortU Y3).map D.int = S1 at *
        generalize (kd (ts, .lt s n es e)).map pD = KD at *
        generalize (es.map fun x => ((ts, x) : Pt)).map pD = ES at *
        generalize hpd : pD (ts, .lt s n es e) = pd at *
        generalize hbd : pD ((s, n) :: ts, e) = bd at *
        generalize tie (s, n) = tsn at *
        generalize hQ0 : (kD _ _ : Fl → Prop) = Q0
        simp -dsimp -implicitDefEqProofs [x0, hpt]
        refine hloop _ _ _ _ _ _ fun y2 => ?_
        simp -dsimp -implicitDefEqProofs [x0, x2]
        have hl3 := hloop3 (m := m ++ [.lst (Y0.map D.int)])
        simp only [List.length_append, List.length_cons, List.length_nil, Nat.zero_add, List.append_assoc, List.singleton_append, List.cons_append, List.nil_append] at hl3 hcat
        refine hl3 _ _ _ _ _ fun y2 => ?_
        simp -dsimp -implicitDefEqProofs [x0, x1, x2, x3, hcb]
        refine comp_map (fun x => decide (x ∉ nums s n)) D.int (fun x hx => ?_) ?_
        · have h1 := hin x (m ++ [.lst (Y0.map D.int), .lst (YO.map D.int)])
          refine ⟨_, rfl, ?_, fun _ => ?_⟩
          · simp -dsimp -implicitDefEqProofs [x1, h1]
          · simp -dsimp -implicitDefEqProofs
        · rw [hX2]
          subst Q0
          simp -dsimp -implicitDefEqProofs [hcat, hs, hgt, lv]
theorem open_ok {a b : Nat} (hab : b ≤ a + 63) : ∀ (k : Nat) (p : Pt), Pk a b p → p.2.dp < k → OP k p
  | 0, _, _, h => by omega
  | k + 1, p, hp, hd => open_step hab p hp.w (fun q hq x hx => (hp.kid hq).fv x hx) fun q hq => open_ok hab k q (hp.kid hq) (by have := (kd_ok hp.w hq).1; omega)
/-- a call of closed parts -/
theorem op_top {k : Nat} (p : Pt) (hw : wf p.2 = true) (h0 : ∀ q ∈ kd p, fv q.1 q.2 = []) (hk : ∀ q ∈ kd p, OP k q) : OP (k + 1) p :=
  open_step (a := 0) (b := 0) (by omega) p hw (fun q hq x hx => by rw [h0 q hq] at hx; cases hx) hk
end K56

set_option maxRecDepth 100000
namespace K56
open PySem PySem.Spec PyProof.Rows L2 FL

theorem gNe_tnil {xs : List D} (m : Me) (h : nbL xs = true) (hd : dpL xs ≤ 63) : gNe (.tup xs) (.tup []) m = .ok (.bl (!xs.isEmpty)) m := by
  rw [gNe_nb m (by simpa [nb] using h) rfl (by simp only [dpD]; omega) (by simp [dpD, dpL])]
  cases xs with
  | nil => rw [eqc_self]; rfl
  | cons x xs => rw [eqc_ne (by simp)]; rfl
theorem comp_mapI {gt : D → En → Option En} {c : MT} {e : ME} {ρ : En} {m : Me} {Q : Res (List D) → Prop} {xs : List D} (p : D → Bool) (f : D → D)
    (h : ∀ x ∈ xs, ∃ ρ1, gt x ρ = some ρ1 ∧ c ρ1 m = .ok (p x) m ∧ (p x = true → e ρ1 m = .ok (f x) m)) (q : Q (.ok ((xs.filter p).map f) m)) : RHas Q (compF gt c e gdY ρ xs m) := by
  have := comp_map (g := id) (xs := xs) p f h q
  rwa [List.map_id] at this
/-! ### the law's names -/
mutual
def nmd (c : Nat) : Tr → D
  | .back i j => if i < c then .tup [.str (Str.ofString "back"), .int (i : Int), .int (j : Int)] else .tup [.str (Str.ofString "free")]
  | .lf s xs => .tup (.str (Str.ofString s) :: xs)
  | .fn _ n e => .tup [.str (Str.ofString "fn"), .int (n : Int), .tup [], nmd (c + 1) e]
  | .lt _ n es e => .tup [.str (Str.ofString "let"), .int (n : Int), .tup (nmds c es), nmd (c + 1) e]
  | .iff es => .tup (.str (Str.ofString "if") :: nmds c es)
  | .call e es => .tup (.str (Str.ofString "call") :: nmd c e :: nmds c es)
def nmds (c : Nat) : List Tr → List D
  | [] => []
  | e :: es => nmd c e :: nmds c es
end
theorem nmds_map (c : Nat) (es : List Tr) : nmds c es = es.map (nmd c) := by
  induction es with
  | nil => rfl
  | cons a l ih => simp [nmds, ih]
mutual
theorem nmd_pl : ∀ (t : Tr) (c : Nat), wf t = true → nb (nmd c t) = true ∧ dpD (nmd c t) ≤ 2 * t.dp + 12
  | .back i j, c, _ => by
    simp only [nmd]
    split <;> simp [nb, nbL, dpD, dpL]
  | .lf s xs, c, h => by
    simp only [wf, Bool.and_eq_true, decide_eq_true_eq] at h
    obtain ⟨⟨⟨⟨⟨_, h2⟩, h3⟩, h4⟩, h5⟩, _⟩ := h
    refine ⟨by simp [nmd, nb, nbL, h2], ?_⟩
    simp only [nmd, dpD, dpL, Tr.dp]
    omega
  | .fn s n e, c, h => by
    simp only [wf, Bool.and_eq_true, decide_eq_true_eq] at h
    have h1 := nmd_pl e (c + 1) h.2
    refine ⟨by simp [nmd, nb, nbL, h1], ?_⟩
    simp only [nmd, dpD, dpL, Tr.dp]
    omega
  | .lt s n es e, c, h => by
    simp only [wf, Bool.and_eq_true, decide_eq_true_eq] at h
    have h1 := nmd_pl e (c + 1) h.2
    have h2 := nmds_pl es c h.1.2
    refine ⟨by simp [nmd, nb, nbL, h1, h2], ?_⟩
    simp only [nmd, dpD, dpL, Tr.dp]
    omega
  | .iff es, c, h => by
    simp only [wf, Bool.and_eq_true, decide_eq_true_eq] at h
    have h2 := nmds_pl es c h.2
    refine ⟨by simp [nmd, nb, nbL, h2], ?_⟩
    simp only [nmd, dpD, dpL, Tr.dp]
    omega
  | .call e es, c, h => by
    simp only [wf, Bool.and_eq_true, decide_eq_true_eq] at h
    have h1 := nmd_pl e c h.1.2
    have h2 := nmds_pl es c h.2
    refine ⟨by simp [nmd, nb, nbL, h1, h2], ?_⟩
    simp only [nmd, dpD, dpL, Tr.dp]
    omega
theorem nmds_pl : ∀ (es : List Tr) (c : Nat), wfs es = true → nbL (nmds c es) = true ∧ dpL (nmds c es) ≤ 2 * Tr.dps es + 12
  | [], c, _ => by simp [nmds, nbL, dpL]
  | e :: es, c, h => by
    simp only [wfs, Bool.and_eq_true] at h
    have h1 := nmd_pl e c h.1
    have h2 := nmds_pl es c h.2
    refine ⟨by simp [nmds, nbL, h1, h2], ?_⟩
    simp only [nmds, dpL, Tr.dps]
    omega
end
theorem filt_eq (n i : Nat) : (List.range n).filter (fun k => decide (k = i)) = if i < n then [i] else [] := by
  induction n with
  | zero => simp
  | succ n ih =>
    rw [List.range_succ, List.filter_append, ih]
    by_cases h : n = i
    · subst h; simp
    · rcases Nat.lt_or_ge i n with q | q
      · simp [h, q, show i < n + 1 by omega]
      · simp [h, show ¬ i < n by omega, show ¬ i < n + 1 by omega]
theorem kids_of (ts : Ts) (t : Tr) (n : Nat) (hw : wf t = true) (m : Me) : G.fns (n + 1) 17 [cor ts t] m = .ok (.tup ((kd (ts, t)).map pD)) m := kids_ok n (ts, t) hw m
theorem fns20 (n : Nat) : G.fns (n + 1) 20 = runDef 7 2 (G.b20 (G.fns n)) := rfl
theorem named_ok : ∀ (n : Nat) (t : Tr) (us ts : Ts), t.dp < n → wf t = true → good (us ++ ts) t = true → Chain (us ++ ts) → us.length + t.dp ≤ 20 → ∀ m : Me, G.fns (n + 1) 20 [cor (us ++ ts) t, .lst (us.map tie)] m = .ok (nmd us.length t) m := by
  intro n
  induction n with
  | zero => intro t us ts h; omega
  | succ n ih =>
    intro t us ts hd hw hg hc hl m
    have ihs : ∀ es : List Tr, (∀ e ∈ es, e.dp < n) → wfs es = true → goods (us ++ ts) es = true → us.length + Tr.dps es ≤ 20 → ∀ e ∈ es, G.fns (n + 1) 20 [cor (us ++ ts) e, .lst (us.map tie)] m = .ok (nmd us.length e) m := fun es h1 h2 h3 h6 e he => ih e us ts (h1 e he) (wfs_iff.mp h2 e he) (goods_iff.mp h3 e he) hc (by have := dps_le.mp (Nat.le_refl _) e he; omega) m
    have hkk := kids_of (us ++ ts) t n hw
    have hcp := cor_pl t (us ++ ts) hw
    rw [fns20]
    refine has_eq (has_def' [some (cor (us ++ ts) t), some (.lst (us.map tie)), none, none, none, none, none] ?_)
    unfold G.b20
    cases t with
    | back i j =>
      simp only [good] at hg
      cases e : (us ++ ts)[i]? with
      | none => rw [e] at hg; cases hg
      | some p =>
        rw [e] at hg
        have hj : j < p.2 := by simpa using hg
        have hr : ref (us ++ ts) i j = (p.1 : Int) + j := by unfold ref; rw [e]
        have hul : us.length ≤ 20 := by omega
        have hq : ∀ k < us.length, ∃ q, us[k]? = some q ∧ (((p.1 : Int) + j ∈ nums q.1 q.2) ↔ k = i) := fun k hk => by
          refine ⟨_, List.getElem?_eq_getElem hk, ?_⟩
          exact only hc e hj (by rw [List.getElem?_append_left hk]; exact List.getElem?_eq_getElem hk)
        simp only [cor, nmd, hr]
        simp -dsimp -implicitDefEqProofs [show (us.length : Int) ≤ 1000000 ∧ (-1000000 : Int) ≤ us.length by omega]
        rw [rngL_map]
        refine comp_map (fun k => decide (k = i)) (fun k : Nat => D.int (k : Int)) (fun k hk => ?_) ?_
        · obtain ⟨q, h1, h2⟩ := hq k (List.mem_range.mp hk)
          have g1 := gIx_ts h1 m
          have g2 := gIn_ints (neg := false) (s := tie q) (l := nums q.1 q.2) ((p.1 : Int) + j) m rfl
          refine ⟨_, rfl, ?_, fun _ => ?_⟩
          · simp -dsimp -implicitDefEqProofs [g1, g2, h2]
          · simp -dsimp -implicitDefEqProofs
        · rw [filt_eq]
          by_cases hi : i < us.length
          · obtain ⟨q, h1, h2⟩ := hq i hi
            have hqp : q = p := by rw [List.getElem?_append_left hi, h1] at e; cases e; rfl
            subst hqp
            have g0 := gNe_lnil (xs := [.int (i : Int)]) m rfl (by simp [dpL, dpD])
            have g1 := gIx_ts h1 m
            have g3 := gIndex_ints (s := tie q) (l := nums q.1 q.2) (i := (q.1 : Int) + j) (j := j) m rfl (nums_get hj) fun k hk => nums_ne hk
            have g4 : isSeq m (tie q) = true := rfl
            simp -dsimp -implicitDefEqProofs [hi, g0, g1, g3, g4, leave_same]
          · have g0 := gNe_lnil (xs := []) m rfl (by simp [dpL])
            simp -dsimp -implicitDefEqProofs [hi, g0, leave_same]
    | lf s xs =>
      have hw' := hw
      simp only [wf, Bool.and_eq_true, decide_eq_true_eq] at hw'
      have hs := lfc hw'.1.1.1.1.1
      have g0 := gNe_tnil (xs := []) m rfl (by simp [dpL])
      simp only [cor, nmd, kd, List.map_nil] at hkk ⊢
      simp -dsimp -implicitDefEqProofs [gIn_2, hs, hkk, g0, leave_same]
    | fn b a e =>
      simp only [wf, good, Bool.and_eq_true, decide_eq_true_eq] at hw hg
      simp only [Tr.dp] at hd hl
      have h1 := ih e ((b, a) :: us) ts (by omega) hw.2 hg.2 (hc.cons hg.1) (by simp; omega) m
      rw [List.cons_append] at h1
      simp only [cor, nmd]
      rw [List.map_cons] at h1
      simp -dsimp -implicitDefEqProofs [gIn_2, h1, leave_same, tie_len, show 1 + us.length ≤ 16777216 by omega]
    | lt b a es e =>
      simp only [wf, good, Bool.and_eq_true, decide_eq_true_eq] at hw hg
      simp only [Tr.dp] at hd hl
      have h1 := ih e ((b, a) :: us) ts (by omega) hw.2 hg.2 (hc.cons hg.1.1) (by simp; omega) m
      rw [List.cons_append] at h1
      have h2 := ihs es (fun e he => by have := dps_le.mp (Nat.le_refl _) e he; omega) hw.1.2 hg.1.2 (by omega)
      simp only [cor, nmd, cors_map, nmds_map]
      rw [List.map_cons] at h1
      simp -dsimp -implicitDefEqProofs [gIn_2]
      refine comp_all (nmd us.length) (fun e he => ⟨_, rfl, by simp, by simp -dsimp -implicitDefEqProofs [h2 e he]⟩) ?_
      simp -dsimp -implicitDefEqProofs [gIn_2, h1, leave_same, tie_len, nmds_map, show 1 + us.length ≤ 16777216 by omega]
    | iff es =>
      simp only [wf, good, Bool.and_eq_true, decide_eq_true_eq] at hw hg
      simp only [Tr.dp] at hd hl
      have h2 := ihs es (fun e he => by have := dps_le.mp (Nat.le_refl _) e he; omega) hw.2 hg (by omega)
      have hkm : (kd (us ++ ts, .iff es)).map pD = es.map (cor (us ++ ts)) := by simp only [kd, List.map_map]; rfl
      rw [hkm] at hkk
      have hcs := cors_pl es (us ++ ts) hw.2
      rw [cors_map] at hcs
      have g0 := gNe_tnil (xs := es.map (cor (us ++ ts))) m hcs.1 (by omega)
      have ge : (es.map (cor (us ++ ts))).isEmpty = false := by cases es <;> simp_all
      rw [ge] at g0
      have hn : nmd us.length (.iff es) = .tup (.str (Str.ofString "if") :: es.map (nmd us.length)) := by simp only [nmd, nmds_map]
      rw [hn]
      simp only [cor, cors_map] at hkk ⊢
      have ga : gAdd (.tup [.str (Str.ofString "if")]) (.tup (es.map (nmd us.length))) m = .ok (.tup (.str (Str.ofString "if") :: es.map (nmd us.length))) m := by rw [gAdd_tup, if_pos (by simp; omega)]; rfl
      have lv : leave m (.tup (.str (Str.ofString "if") :: es.map (nmd us.length))) m = .ok (.tup (.str (Str.ofString "if") :: es.map (nmd us.length))) m := leave_same rfl
      simp -dsimp -implicitDefEqProofs [gIn_2, hkk, g0]
      refine comp_all (nmd us.length) (fun e he => ⟨_, rfl, by simp, by simp -dsimp -implicitDefEqProofs [h2 e he]⟩) ?_
      generalize es.map (nmd us.length) = L at *
      simp -dsimp -implicitDefEqProofs [-gAdd_tup, ga, lv]
    | call e es =>
      simp only [wf, good, Bool.and_eq_true, decide_eq_true_eq] at hw hg
      simp only [Tr.dp] at hd hl
      have h1 := ih e us ts (by omega) hw.1.2 hg.1 hc (by omega) m
      have h2 := ihs es (fun e he => by have := dps_le.mp (Nat.le_refl _) e he; omega) hw.2 hg.2 (by omega)
      have h3 : ∀ x ∈ e :: es, G.fns (n + 1) 20 [cor (us ++ ts) x, .lst (us.map tie)] m = .ok (nmd us.length x) m := fun x hx => by
        rcases List.mem_cons.mp hx with rfl | hx
        · exact h1
        · exact h2 x hx
      have hkm : (kd (us ++ ts, .call e es)).map pD = (e :: es).map (cor (us ++ ts)) := by simp only [kd, List.map_map, List.map_cons]; rfl
      rw [hkm] at hkk
      have hcs := cors_pl (e :: es) (us ++ ts) (by simp [wfs, hw.1.2, hw.2])
      rw [cors_map] at hcs
      have hdl : Tr.dps (e :: es) ≤ 20 := by simp only [Tr.dps]; omega
      have g0 := gNe_tnil (xs := (e :: es).map (cor (us ++ ts))) m hcs.1 (by omega)
      have ge : ((e :: es).map (cor (us ++ ts))).isEmpty = false := rfl
      rw [ge] at g0
      have hll : ((e :: es).map (nmd us.length)).length ≤ 3 := by simp; omega
      have ga : gAdd (.tup [.str (Str.ofString "call")]) (.tup ((e :: es).map (nmd us.length))) m = .ok (.tup (.str (Str.ofString "call") :: (e :: es).map (nmd us.length))) m := by rw [gAdd_tup, if_pos (by rw [List.length_singleton]; omega)]; rfl
      have lv : leave m (.tup (.str (Str.ofString "call") :: (e :: es).map (nmd us.length))) m = .ok (.tup (.str (Str.ofString "call") :: (e :: es).map (nmd us.length))) m := leave_same rfl
      have hn : nmd us.length (.call e es) = .tup (.str (Str.ofString "call") :: (e :: es).map (nmd us.length)) := by simp only [nmd, nmds_map, List.map_cons]
      rw [hn]
      simp only [cor, cors_map] at hkk ⊢
      generalize hee : e :: es = ees at *
      simp -dsimp -implicitDefEqProofs [gIn_2, hkk, g0]
      refine comp_all (nmd us.length) (fun x hx => ⟨_, rfl, by simp, by simp -dsimp -implicitDefEqProofs [h3 x hx]⟩) ?_
      generalize ees.map (nmd us.length) = L at *
      simp -dsimp -implicitDefEqProofs [-gAdd_tup, ga, lv]
/-! ### free parts -/
theorem isFree_iff {xs : List D} : isFree xs = true ↔ xs = [.str (Str.ofString "free")] := by
  unfold isFree
  split
  · simp
  · rename_i h
    constructor
    · intro q; cases q
    · intro q; subst q; exact absurd rfl (h _)
theorem hf_ntup {d : D} (h : ∀ xs, d ≠ .tup xs) : hf d = false := by
  unfold hf
  split
  · exact absurd rfl (h _)
  · rfl
theorem hfs_any (xs : List D) : hfs xs = xs.any hf := by
  induction xs with
  | nil => rfl
  | cons x l ih => simp [hfs, ih]
theorem isi_lstT (xs : List D) (m : Me) : gIsi "tuple" (.lst xs) m = .ok (.bl false) m := by
  have k : kitB "list" "tuple" = some false := by decide +kernel
  have e : gIsi "tuple" (.lst xs) m = match kitB "list" "tuple" with | some b => .ok (.bl b) m | none => .no := rfl
  rw [e, k]
theorem isi_blT (b : Bool) (m : Me) : gIsi "tuple" (.bl b) m = .ok (.bl false) m := by rw [isi_bl, ki10]
theorem isi_nonT (m : Me) : gIsi "tuple" .non m = .ok (.bl false) m := by rw [isi_non, ki1]
theorem isi_intT (i : Int) (m : Me) : gIsi "tuple" (.int i) m = .ok (.bl false) m := by rw [isi_int, ki6]
theorem isi_strT (s : Str) (m : Me) : gIsi "tuple" (.str s) m = .ok (.bl false) m := by rw [isi_str, ki2]
theorem isi_tupT (xs : List D) (m : Me) : gIsi "tuple" (.tup xs) m = .ok (.bl true) m := by rw [isi_tup, ki9]
theorem fns21 (n : Nat) : G.fns (n + 1) 21 = runDef 2 1 (G.b21 (G.fns n)) := rfl
theorem hf_ok : ∀ (n : Nat) (d : D), dpD d < n → nb d = true → dpD d ≤ 60 → ∀ m : Me, G.fns n 21 [d] m = .ok (.bl (hf d)) m := by
  intro n
  induction n with
  | zero => intro d h; omega
  | succ n ih =>
    intro d hd hn h6 m
    rw [fns21]
    refine has_eq (has_def' [some d, none] ?_)
    unfold G.b21
    have ge := gEq_nb (a := d) (b := .tup [.str (Str.ofString "free")]) m hn (by simp [nb, nbL]) (by omega) (by simp [dpD, dpL])
    have lv : ∀ b : Bool, leave m (.bl b) m = .ok (.bl b) m := fun b => leave_same rfl
    have nt : (∀ xs, d ≠ .tup xs) → gIsi "tuple" d m = .ok (.bl false) m → FHas (kD m fun x => x = .ok (.bl (hf d)) m) (((sSeq (sRet (mOrV (m2 gEq (mVar 0) (mTup (mCons (mC (.str ("free" : Str))) mNil))) (mAndV (m1 (gIsi "tuple") (mVar 0)) (m2 gNe (mComp (iSeq (mVar 0)) [1] (tgN 1) (mAnd (mB (m1 (gIsi "tuple") (mVar 1))) (mB (mCall (G.fns n 21) (mCons (mVar 1) mNil)))) (mVar 1)) (mLst mNil))))) sNext)) [some d, none] m) := fun h1 h2 => by
      have ge' : eqc d (.tup [.str (Str.ofString "free")]) = false := eqc_ne (h1 _)
      rw [ge'] at ge
      rw [hf_ntup h1]
      simp -dsimp -implicitDefEqProofs [ge, h2, lv]
    cases d with
    | tup xs =>
      simp only [nb] at hn
      simp only [dpD] at hd h6
      simp only [hf]
      have hx : ∀ x ∈ xs, nb x = true ∧ dpD x ≤ dpL xs := fun x hx => ⟨nbL_iff.mp hn x hx, dpL_le.mp (Nat.le_refl _) x hx⟩
      by_cases hfr : isFree xs = true
      · have := isFree_iff.mp hfr
        rw [this, eqc_self] at ge
        subst this
        simp -dsimp -implicitDefEqProofs [ge, hfr, lv]
      · have ge' : eqc (.tup xs) (.tup [.str (Str.ofString "free")]) = false := eqc_ne (fun h => hfr (isFree_iff.mpr (by injection h)))
        rw [ge'] at ge
        have hfl : nbL ((xs.filter hf).map id) = true := by rw [List.map_id]; exact nbL_iff.mpr fun x h => (hx x (List.mem_filter.mp h).1).1
        have hdl : dpL ((xs.filter hf).map id) ≤ 63 := by rw [List.map_id]; exact dpL_le.mpr fun x h => by have := (hx x (List.mem_filter.mp h).1).2; omega
        have gn := gNe_lnil m hfl hdl
        have hh : (!((xs.filter hf).map id).isEmpty) = hfs xs := by
          rw [List.map_id, hfs_any]
          cases h : xs.any hf with
          | false =>
            have : xs.filter hf = [] := List.filter_eq_nil_iff.mpr fun x hx' q => by
              have := List.any_eq_false.mp h x hx'
              exact this q
            rw [this]; rfl
          | true =>
            obtain ⟨x, h1, h2⟩ := List.any_eq_true.mp h
            have : x ∈ xs.filter hf := List.mem_filter.mpr ⟨h1, h2⟩
            cases q : xs.filter hf with
            | nil => rw [q] at this; cases this
            | cons y l => rfl
        rw [hh] at gn
        have hfr' : isFree xs = false := by simpa using hfr
        generalize hQ0 : (kD _ _ : Fl → Prop) = Q0
        simp -dsimp -implicitDefEqProofs [ge, isi_tupT]
        refine comp_mapI hf id (fun x h => ?_) ?_
        · obtain ⟨h1, h2⟩ := hx x h
          have hr := ih x (by omega) h1 (by omega) m
          refine ⟨_, rfl, ?_, fun _ => ?_⟩
          · cases x <;> first | (simp -dsimp -implicitDefEqProofs [isi_tupT, hr]; done) | (simp -dsimp -implicitDefEqProofs [hf_ntup, isi_lstT, isi_nonT, isi_intT, isi_strT, isi_blT]; done) | cases h1
          · simp -dsimp -implicitDefEqProofs
        · generalize (xs.filter hf).map id = L at *
          subst Q0
          simp -dsimp -implicitDefEqProofs [gn, lv, hfr']
    | non => exact nt (fun _ h => nomatch h) (isi_nonT m)
    | bl b => exact nt (fun _ h => nomatch h) (isi_blT b m)
    | int i => exact nt (fun _ h => nomatch h) (isi_intT i m)
    | str s => exact nt (fun _ h => nomatch h) (isi_strT s m)
    | lst xs => exact nt (fun _ h => nomatch h) (isi_lstT xs m)
    | dct xs => cases hn
    | ref i => cases hn
    | scr i => cases hn
    | fn i => cases hn
mutual
theorem hf_nmd : ∀ (t : Tr) (c : Nat), wf t = true → hf (nmd c t) = !(clo c t)
  | .back i j, c, _ => by
    simp only [nmd, clo]
    by_cases h : i < c
    · simp [h, hf, hfs, isFree]
    · simp [h, hf, hfs, isFree]
  | .lf s xs, c, h => by
    simp only [wf, Bool.and_eq_true, decide_eq_true_eq] at h
    have hs := h.1.1.1.1.1
    have hx := h.2
    simp only [nmd, clo, hf, hfs, Bool.not_true]
    have h1 : isFree (.str (Str.ofString s) :: xs) = false := by
      cases q : isFree (.str (Str.ofString s) :: xs) with
      | false => rfl
      | true =>
        have := isFree_iff.mp q
        simp only [List.cons.injEq, D.str.injEq] at this
        have := ofs_inj.mp this.1
        subst this
        revert hs; decide
    simp only [h1, Bool.false_or]
    simpa using hx
  | .fn s n e, c, h => by
    simp only [wf, Bool.and_eq_true, decide_eq_true_eq] at h
    simp [nmd, clo, hf, hfs, isFree, hf_nmd e (c + 1) h.2]
  | .lt s n es e, c, h => by
    simp only [wf, Bool.and_eq_true, decide_eq_true_eq] at h
    have h1 := hf_nmd e (c + 1) h.2
    have h2 := hfs_nmds es c h.1.2
    have h3 : isFree (nmds c es) = false ∨ isFree (nmds c es) = true := by cases isFree (nmds c es) <;> simp
    have h4 : isFree (nmds c es) = false := by
      cases es with
      | nil => rfl
      | cons a l =>
        simp only [nmds]
        cases q : isFree (nmd c a :: nmds c l) with
        | false => rfl
        | true =>
          have := isFree_iff.mp q
          simp only [List.cons.injEq] at this
          cases a <;> simp [nmd] at this
          split at this <;> simp at this
    have h5 : isFree [.str (Str.ofString "let"), .int (n : Int), .tup (nmds c es), nmd (c + 1) e] = false := rfl
    simp [nmd, clo, hf, hfs, h1, h2, h4, h5]
  | .iff es, c, h => by
    simp only [wf, Bool.and_eq_true, decide_eq_true_eq] at h
    have h2 := hfs_nmds es c h.2
    have h1 : isFree (.str (Str.ofString "if") :: nmds c es) = false := by
      cases q : isFree (.str (Str.ofString "if") :: nmds c es) with
      | false => rfl
      | true =>
        have := isFree_iff.mp q
        simp only [List.cons.injEq, D.str.injEq] at this
        have := ofs_inj.mp this.1
        revert this; decide
    simp [nmd, clo, hf, hfs, h1, h2]
  | .call e es, c, h => by
    simp only [wf, Bool.and_eq_true, decide_eq_true_eq] at h
    have h1 := hf_nmd e c h.1.2
    have h2 := hfs_nmds es c h.2
    simp [nmd, clo, hf, hfs, isFree, h1, h2]
theorem hfs_nmds : ∀ (es : List Tr) (c : Nat), wfs es = true → hfs (nmds c es) = !(clos c es)
  | [], c, _ => rfl
  | e :: es, c, h => by
    simp only [wfs, Bool.and_eq_true] at h
    simp [nmds, clos, hfs, hf_nmd e c h.1, hfs_nmds es c h.2]
end
/-! ### closed parts -/
mutual
theorem good_cut {ts : Ts} : ∀ (t : Tr) (us : Ts), good (us ++ ts) t = true → clo us.length t = true → good us t = true
  | .back i j, us, h, hc => by
    simp only [clo, decide_eq_true_eq] at hc
    simp only [good] at h ⊢
    rw [List.getElem?_append_left hc] at h
    exact h
  | .lf _ _, _, _, _ => rfl
  | .fn s n e, us, h, hc => by
    simp only [good, clo, Bool.and_eq_true, List.all_append] at h hc ⊢
    exact ⟨h.1.1, good_cut e ((s, n) :: us) h.2 (by simpa using hc)⟩
  | .lt s n es e, us, h, hc => by
    simp only [good, clo, Bool.and_eq_true, List.all_append] at h hc ⊢
    exact ⟨⟨h.1.1.1, goods_cut es us h.1.2 hc.1⟩, good_cut e ((s, n) :: us) h.2 (by simpa using hc.2)⟩
  | .iff es, us, h, hc => by
    simp only [good, clo] at h hc ⊢
    exact goods_cut es us h hc
  | .call e es, us, h, hc => by
    simp only [good, clo, Bool.and_eq_true] at h hc ⊢
    exact ⟨good_cut e us h.1 hc.1, goods_cut es us h.2 hc.2⟩
theorem goods_cut {ts : Ts} : ∀ (es : List Tr) (us : Ts), goods (us ++ ts) es = true → clos us.length es = true → goods us es = true
  | [], _, _, _ => rfl
  | e :: es, us, h, hc => by
    simp only [goods, clos, Bool.and_eq_true] at h hc ⊢
    exact ⟨good_cut e us h.1 hc.1, goods_cut es us h.2 hc.2⟩
end
theorem good0 {ts : Ts} {t : Tr} (h : good ts t = true) (hc : clo 0 t = true) : good [] t = true ∧ cor ts t = cor [] t := by
  have h1 := good_cut (ts := ts) t [] h hc
  exact ⟨h1, by have := cor_app (ex := ts) t [] h1; simpa using this⟩
def hdS : Tr → String
  | .back _ _ => "back"
  | .lf s _ => s
  | .fn _ _ _ => "fn"
  | .lt _ _ _ _ => "let"
  | .iff _ => "if"
  | .call _ _ => "call"
theorem nmd_hd {c : Nat} (t : Tr) (h : clo c t = true) : ∃ l, nmd c t = .tup (.str (Str.ofString (hdS t)) :: l) := by
  cases t with
  | back i j => simp only [clo, decide_eq_true_eq] at h; exact ⟨_, by simp only [nmd, h, if_true, hdS]; rfl⟩
  | lf s xs => exact ⟨_, rfl⟩
  | fn s n e => exact ⟨_, rfl⟩
  | lt s n es e => exact ⟨_, rfl⟩
  | iff es => exact ⟨_, rfl⟩
  | call e es => exact ⟨_, rfl⟩
theorem enc_hd (t : Tr) : ∃ l, eB t = .tup (.str (Str.ofString (hdS t)) :: l) := by
  cases t <;> exact ⟨_, rfl⟩
theorem off {c : Nat} {t t' : Tr} (h : clo c t = true) (h' : clo c t' = true) (hne : hdS t ≠ hdS t') : (nmd c t = nmd c t' ↔ eB t = eB t') := by
  obtain ⟨l1, e1⟩ := nmd_hd t h
  obtain ⟨l2, e2⟩ := nmd_hd t' h'
  obtain ⟨l3, e3⟩ := enc_hd t
  obtain ⟨l4, e4⟩ := enc_hd t'
  rw [e1, e2, e3, e4]
  simp [hne]
theorem hd_lf {s : String} {xs : List D} (h : wf (.lf s xs) = true) : s ≠ "fn" ∧ s ≠ "let" ∧ s ≠ "call" ∧ s ≠ "if" ∧ s ≠ "back" ∧ s ≠ "at" ∧ s ≠ "ref" := by
  simp only [wf, Bool.and_eq_true, decide_eq_true_eq] at h
  exact lfc h.1.1.1.1.1
mutual
theorem nmd_inj : ∀ (t t' : Tr) (c : Nat), wf t = true → wf t' = true → clo c t = true → clo c t' = true → (nmd c t = nmd c t' ↔ eB t = eB t')
  | .back i j, t', c, w, w', h, h' => by
    cases t' with
    | back i' j' =>
      simp only [clo, decide_eq_true_eq] at h h'
      simp [nmd, enc, h, h']
    | lf s xs => exact off h h' (by have := hd_lf w'; simp only [hdS]; exact fun q => this.2.2.2.2.1 q.symm)
    | fn s n e => exact off h h' (by simp [hdS])
    | lt s n es e => exact off h h' (by simp [hdS])
    | iff es => exact off h h' (by simp [hdS])
    | call e es => exact off h h' (by simp [hdS])
  | .lf s xs, t', c, w, w', h, h' => by
    have hs := hd_lf w
    cases t' with
    | back i' j' => exact off h h' (by simp only [hdS]; exact hs.2.2.2.2.1)
    | lf s xs => simp [nmd, enc]
    | fn s n e => exact off h h' (by simp only [hdS]; exact hs.1)
    | lt s n es e => exact off h h' (by simp only [hdS]; exact hs.2.1)
    | iff es => exact off h h' (by simp only [hdS]; exact hs.2.2.2.1)
    | call e es => exact off h h' (by simp only [hdS]; exact hs.2.2.1)
  | .fn s n e, t', c, w, w', h, h' => by
    cases t' with
    | back i' j' => exact off h h' (by simp [hdS])
    | lf s' xs => exact off h h' (by simp only [hdS]; exact fun q => (hd_lf w').1 q.symm)
    | fn s' n' e' =>
      simp only [wf, clo, Bool.and_eq_true] at w w' h h'
      have := nmd_inj e e' (c + 1) w.2 w'.2 h h'
      simp only [nmd, enc, eB_at, D.tup.injEq, List.cons.injEq, and_true, true_and, this]
    | lt s n es e => exact off h h' (by simp [hdS])
    | iff es => exact off h h' (by simp [hdS])
    | call e es => exact off h h' (by simp [hdS])
  | .lt s n es e, t', c, w, w', h, h' => by
    cases t' with
    | back i' j' => exact off h h' (by simp [hdS])
    | lf s' xs => exact off h h' (by simp only [hdS]; exact fun q => (hd_lf w').2.1 q.symm)
    | fn s' n' e' => exact off h h' (by simp [hdS])
    | lt s' n' es' e' =>
      simp only [wf, clo, Bool.and_eq_true] at w w' h h'
      have h1 := nmd_inj e e' (c + 1) w.2 w'.2 h.2 h'.2
      have h2 := nmds_inj es es' c w.1.2 w'.1.2 h.1 h'.1
      simp only [nmd, enc, eB_at, D.tup.injEq, List.cons.injEq, and_true, true_and, h1, h2]
    | iff es => exact off h h' (by simp [hdS])
    | call e es => exact off h h' (by simp [hdS])
  | .iff es, t', c, w, w', h, h' => by
    cases t' with
    | back i' j' => exact off h h' (by simp [hdS])
    | lf s' xs => exact off h h' (by simp only [hdS]; exact fun q => (hd_lf w').2.2.2.1 q.symm)
    | fn s' n' e' => exact off h h' (by simp [hdS])
    | lt s n es e => exact off h h' (by simp [hdS])
    | iff es' =>
      simp only [wf, clo, Bool.and_eq_true] at w w' h h'
      have h2 := nmds_inj es es' c w.2 w'.2 h h'
      simp only [nmd, enc, D.tup.injEq, List.cons.injEq, and_true, true_and, h2]
    | call e es => exact off h h' (by simp [hdS])
  | .call e es, t', c, w, w', h, h' => by
    cases t' with
    | back i' j' => exact off h h' (by simp [hdS])
    | lf s' xs => exact off h h' (by simp only [hdS]; exact fun q => (hd_lf w').2.2.1 q.symm)
    | fn s' n' e' => exact off h h' (by simp [hdS])
    | lt s n es e => exact off h h' (by simp [hdS])
    | iff es => exact off h h' (by simp [hdS])
    | call e' es' =>
      simp only [wf, clo, Bool.and_eq_true] at w w' h h'
      have h1 := nmd_inj e e' c w.1.2 w'.1.2 h.1 h'.1
      have h2 := nmds_inj es es' c w.2 w'.2 h.2 h'.2
      simp only [nmd, enc, D.tup.injEq, List.cons.injEq, and_true, true_and, h1, h2]
theorem nmds_inj : ∀ (es es' : List Tr) (c : Nat), wfs es = true → wfs es' = true → clos c es = true → clos c es' = true → (nmds c es = nmds c es' ↔ encs "back" (fun _ i => (i : Int)) 0 es = encs "back" (fun _ i => (i : Int)) 0 es')
  | [], es', c, w, w', h, h' => by cases es' <;> simp [nmds, encs]
  | e :: es, es', c, w, w', h, h' => by
    cases es' with
    | nil => simp [nmds, encs]
    | cons e' es' =>
      simp only [wfs, clos, Bool.and_eq_true] at w w' h h'
      simp only [nmds, encs, List.cons.injEq, nmd_inj e e' c w.1 w'.1 h.1 h'.1, nmds_inj es es' c w.2 w'.2 h.2 h'.2]
end
end K56

set_option maxRecDepth 100000
namespace K56
open PySem PySem.Spec PyProof.Rows L2 FL

/-! ### form_of -/
theorem fns4 (n : Nat) : G.fns (n + 1) 4 = runDef 1 1 (G.b4 (G.fns n)) := rfl
theorem formof_ok {n : Nat} {p : Pt} (hw : wf p.2 = true) (hg : good p.1 p.2 = true) (hc : clo 0 p.2 = true) (hd : p.2.dp < n) (h20 : p.2.dp ≤ 20) (m : Me) : G.fns (n + 2) 4 [pD p] m = .ok (eB p.2) m := by
  obtain ⟨h1, h2⟩ := good0 hg hc
  have hb := below_ok n p.2 [] hd hw h1 List.Pairwise.nil (by simp) (by simp; omega) m
  rw [List.map_nil] at hb
  have lv : leave m (eB p.2) m = .ok (eB p.2) m := leave_same rfl
  have e : pD p = cor [] p.2 := h2
  rw [fns4]
  refine has_eq (has_def' [some (pD p)] ?_)
  unfold G.b4
  rw [e]
  generalize cor [] p.2 = c at *
  have hb' : G.fns (n + 1) 3 [c, .lst []] m = .ok (eB p.2) m := hb
  generalize eB p.2 = f at *
  simp -dsimp -implicitDefEqProofs [hb', lv]
/-! ### pairs -/
def prs (R : Nat → Nat → Bool) : List Nat → List (Nat × Nat)
  | [] => []
  | a :: l => (l.filter (R a)).map (fun b => (a, b)) ++ prs R l
def prD (p : Nat × Nat) : D := .tup [.int (p.1 : Int), .int (p.2 : Int)]
theorem prs_len (R : Nat → Nat → Bool) : ∀ l : List Nat, (prs R l).length ≤ l.length * l.length
  | [] => by simp [prs]
  | a :: l => by
    have h1 := prs_len R l
    have h2 := List.length_filter_le (R a) l
    have h3 : (l.length + 1) * (l.length + 1) = l.length * l.length + 2 * l.length + 1 := by rw [Nat.add_mul, Nat.mul_add]; omega
    simp only [prs, List.length_append, List.length_map, List.length_cons, h3]; omega
/-- .. by going along all -/
theorem prs_asc (R : Nat → Nat → Bool) : ∀ (l : List Nat), l.Pairwise (· < ·) → prs R l = l.flatMap fun i => (l.filter fun j => decide (i < j) && R i j).map fun j => (i, j)
  | [], _ => rfl
  | a :: l, h => by
    rw [List.pairwise_cons] at h
    obtain ⟨h1, h2⟩ := h
    have key : ∀ i ∈ l, (((a :: l).filter fun j => decide (i < j) && R i j).map fun j => (i, j)) = (l.filter fun j => decide (i < j) && R i j).map fun j => (i, j) := fun i hi => by
      rw [List.filter_cons_of_neg]
      have := h1 i hi
      simp; omega
    have k2 : (l.filter fun j => decide (a < j) && R a j) = l.filter (R a) := List.filter_congr fun j hj => by simp [h1 j hj]
    simp only [prs, List.flatMap_cons]
    rw [List.filter_cons_of_neg (by simp), k2, prs_asc R l h2]
    congr 1
    have : ∀ l' : List Nat, (∀ i ∈ l', i ∈ l) → (l'.flatMap fun i => (l.filter fun j => decide (i < j) && R i j).map fun j => (i, j)) = l'.flatMap fun i => (((a :: l).filter fun j => decide (i < j) && R i j).map fun j => (i, j)) := by
      intro l'
      induction l' with
      | nil => intro _; rfl
      | cons x l' ih =>
        intro hl
        simp only [List.flatMap_cons]
        rw [key x (hl x (by simp)), ih fun i hi => hl i (by simp [hi])]
    exact this l fun i hi => hi
/-! ### which parts, which pairs -/
def ab (q : Pt) : Bool := !(kd q).isEmpty && clo 0 q.2
def abI (P : List Pt) (i : Nat) : Bool := match P[i]? with
  | some q => ab q
  | none => false
def able (P : List Pt) : List Nat := (List.range P.length).filter (abI P)
noncomputable def rI (P : List Pt) (i j : Nat) : Bool := match P[i]?, P[j]? with
  | some a, some b => eqc (eB a.2) (eB b.2)
  | _, _ => false
theorem able_mem {P : List Pt} {i : Nat} (h : i ∈ able P) : ∃ q, P[i]? = some q ∧ ab q = true := by
  have := (List.mem_filter.mp h).2
  unfold abI at this
  cases e : P[i]? with
  | none => rw [e] at this; cases this
  | some q => rw [e] at this; exact ⟨q, rfl, this⟩
theorem able_asc (P : List Pt) : (able P).Pairwise (· < ·) := List.Pairwise.filter _ List.pairwise_lt_range
theorem able_len (P : List Pt) : (able P).length ≤ P.length := by
  have := List.length_filter_le (abI P) (List.range P.length)
  unfold able; simpa using this
/-- what is needed of the parts -/
structure Aok (k : Nat) (P : List Pt) : Prop where
  l : P.length ≤ 999
  p : ∀ q ∈ P, wf q.2 = true ∧ good q.1 q.2 = true ∧ Chain q.1 ∧ q.2.dp ≤ 6 ∧ OP k q
theorem nb_pD {q : Pt} (h : wf q.2 = true) (hd : q.2.dp ≤ 6) : nb (pD q) = true ∧ dpD (pD q) ≤ 24 := by
  have := cor_pl q.2 q.1 h
  exact ⟨this.1, Nat.le_trans this.2 (by omega)⟩
theorem eB_pl {t : Tr} (h : wf t = true) (hd : t.dp ≤ 6) : nb (eB t) = true ∧ dpD (eB t) ≤ 24 := by
  have := enc_pl (k := "back") (p := fun _ i => (i : Int)) t 0 h
  exact ⟨this.1, by have h2 := this.2.2; show dpD (enc "back" (fun _ i => (i : Int)) 0 t) ≤ 24; omega⟩
theorem fns10 (n : Nat) : G.fns (n + 1) 10 = runDef 7 1 (G.b10 (G.fns n)) := rfl
def prN (R : Nat → Nat → Bool) (A : List Nat) (cd pd : D) (m : Me) (rest : List D) (ρ : En) (m' : Me) : Prop :=
  ∃ (us rs : List Nat) (acc : List (Nat × Nat)) (x4 x5 x6 : Option D), A = us ++ rs ∧ rest = rngL (us.length : Int) rs.length ∧ acc ++ prs R rs = prs R A ∧ ρ = [some cd, some pd, some (.lst (A.map fun (i : Nat) => D.int (i : Int))), some (.ref m.length), x4, x5, x6] ∧ m' = m ++ [.lst (acc.map prD)]
def prM (R : Nat → Nat → Bool) (A : List Nat) (cd pd : D) (m : Me) (i0 : Nat) (a : Nat) (l : List Nat) (acc0 : List (Nat × Nat)) (rest : List D) (ρ : En) (m' : Me) : Prop :=
  ∃ (us rs : List Nat) (x5 x6 : Option D), l = us ++ rs ∧ rest = rngL ((i0 + 1 + us.length : Nat) : Int) rs.length ∧ ρ = [some cd, some pd, some (.lst (A.map fun (i : Nat) => D.int (i : Int))), some (.ref m.length), some (.int (i0 : Int)), x5, x6] ∧ m' = m ++ [.lst ((acc0 ++ (us.filter (R a)).map fun b => (a, b)).map prD)]
theorem gIx_nat {A : List Nat} {i a : Nat} (h : A[i]? = some a) (m : Me) : gIx (.lst (A.map fun (i : Nat) => D.int (i : Int))) (.int (i : Int)) m = .ok (.int (a : Int)) m := by
  unfold gIx; simp only [view_lst']
  rw [atI_nat (v := D.int (a : Int)) (by rw [List.getElem?_map, h]; rfl)]
theorem gIx_pt {P : List Pt} {i : Nat} {q : Pt} (h : P[i]? = some q) (m : Me) : gIx (.lst (P.map pD)) (.int (i : Int)) m = .ok (pD q) m := by
  unfold gIx; simp only [view_lst']
  rw [atI_nat (v := pD q) (by rw [List.getElem?_map, h]; rfl)]
theorem nb_prs (L : List (Nat × Nat)) : nb (.tup (L.map prD)) = true := by
  simp only [nb]
  exact nbL_iff.mpr fun x hx => by obtain ⟨k, _, rfl⟩ := List.mem_map.mp hx; rfl
theorem leave_tp {m : Me} {L : List (Nat × Nat)} : leave m (.tup (L.map prD)) (m ++ [.lst (L.map prD)]) = .ok (.tup (L.map prD)) m := leave_app (nb_prs L)
theorem mid_get {us rs : List Nat} {a : Nat} : (us ++ a :: rs)[us.length]? = some a := by
  rw [List.getElem?_append_right (Nat.le_refl _), Nat.sub_self]; rfl
theorem alike_ok {k n : Nat} {p : Pt} (hall : ∀ m, G.fns n 5 [pD p] m = .ok (.lst ((sub k p).map pD)) m) (hk : k + 9 ≤ n) (A : Aok k (sub k p)) (m : Me) : G.fns (n + 1) 10 [pD p] m = .ok (.tup ((prs (rI (sub k p)) (able (sub k p))).map prD)) m := by
  obtain ⟨n, rfl⟩ : ∃ n', n = k + n' + 9 := ⟨n - k - 9, by omega⟩
  rw [fns10]
  refine has_eq (has_def' [some (pD p), none, none, none, none, none, none] ?_)
  unfold G.b10
  have hall' := hall m
  have hP := A.p
  have hPl := A.l
  generalize sub k p = P at *
  have hAl := able_len P
  have hAm : ∀ i ∈ able P, ∃ q, P[i]? = some q ∧ ab q = true := fun i hi => able_mem hi
  -- which parts are looked at
  have hci : ∀ i ∈ List.range P.length, ∃ q, P[i]? = some q ∧ abI P i = ab q ∧ G.fns (k + n + 9) 0 [pD q] m = .ok (.lst ((kd q).map pD)) m ∧ gNe (.lst ((kd q).map pD)) (.lst []) m = .ok (.bl (!(kd q).isEmpty)) m ∧ ∃ L : List Int, G.fns (k + n + 9) 2 [pD q] m = .ok (.tup (L.map .int)) m ∧ gEq (.tup (L.map .int)) (.tup []) m = .ok (.bl (clo 0 q.2)) m := fun i hi => by
    have hi := List.mem_range.mp hi
    have e := List.getElem?_eq_getElem hi
    obtain ⟨w1, w2, w3, w4, L, w5, w6, w7⟩ := hP _ (List.getElem_mem hi)
    refine ⟨P[i], e, by unfold abI; rw [e], parts_ok _ _ w1 m, ?_, L, by have := w7 (n + 8) m; rwa [show k + (n + 8) + 1 = k + n + 9 by omega] at this, ?_⟩
    · have := gNe_lnil (xs := (kd P[i]).map pD) m (nbL_iff.mpr fun x hx => by
        obtain ⟨q, hq, rfl⟩ := List.mem_map.mp hx
        have := kd_ok w1 hq
        exact (nb_pD this.2 (by omega)).1) (dpL_le.mpr fun x hx => by
        obtain ⟨q, hq, rfl⟩ := List.mem_map.mp hx
        have := kd_ok w1 hq
        have := (nb_pD this.2 (by omega)).2
        omega)
      rw [this]; simp
    · have hnb := nb_ints L
      have hdp : dpD (.tup (L.map D.int)) ≤ 2 := by
        have : dpL (L.map D.int) ≤ 1 := dpL_le.mpr fun x hx => by obtain ⟨y, _, rfl⟩ := List.mem_map.mp hx; simp [dpD]
        simp only [dpD]; omega
      rw [gEq_nb m hnb rfl (by omega) (by simp [dpD, dpL])]
      have hfc := fv_clo w2 w3
      cases L with
      | nil =>
        have : fv P[i].1 P[i].2 = [] := List.eq_nil_iff_forall_not_mem.mpr fun x hx => by have := (w6 x).mpr hx; cases this
        rw [hfc.mp this, List.map_nil, eqc_self]
      | cons y L =>
        have h1 : clo 0 P[i].2 = false := by
          cases q : clo 0 P[i].2 with
          | false => rfl
          | true =>
            have := hfc.mpr q
            have h2 := (w6 y).mp (by simp)
            rw [this] at h2; cases h2
        rw [h1, eqc_ne (by simp)]
  have hform : ∀ i ∈ able P, ∃ q, P[i]? = some q ∧ wf q.2 = true ∧ q.2.dp ≤ 6 ∧ ∀ m, G.fns (k + n + 9) 4 [pD q] m = .ok (eB q.2) m := fun i hi => by
    obtain ⟨q, e, hq⟩ := hAm i hi
    obtain ⟨w1, w2, w3, w4, _⟩ := hP q (List.mem_of_getElem? e)
    unfold ab at hq
    rw [Bool.and_eq_true] at hq
    exact ⟨q, e, w1, w4, fun m => formof_ok (n := k + n + 7) w1 w2 hq.2 (by omega) (by omega) m⟩
  have lv := fun L => leave_tp (m := m) (L := L)
  generalize hQ0 : (kD _ _ : Fl → Prop) = Q0
  generalize hpd : pD p = pd at *
  simp -dsimp -implicitDefEqProofs [hall', show (P.length : Int) ≤ 1000000 ∧ (-1000000 : Int) ≤ P.length by omega]
  rw [rngL_map]
  refine comp_map (abI P) (fun k : Nat => D.int (k : Int)) (fun i hi => ?_) ?_
  · obtain ⟨q, e, e2, x1, x2, L, x3, x4⟩ := hci i hi
    have g1 := gIx_pt e m
    refine ⟨_, rfl, ?_, fun _ => ?_⟩
    · rw [e2]
      unfold ab
      generalize (kd q).isEmpty = b1 at *
      generalize clo 0 q.2 = b2 at *
      generalize L.map D.int = LL at *
      generalize (kd q).map pD = kk at *
      generalize pD q = qd at *
      cases b1 <;> simp -dsimp -implicitDefEqProofs [g1, x1, x2, x3, x4]
    · simp -dsimp -implicitDefEqProofs
  · have hab : (List.range P.length).filter (abI P) = able P := rfl
    rw [hab]
    generalize hA : able P = AL at *
    have hl2 : ((AL.map fun (i : Nat) => D.int (i : Int)).length : Int) = AL.length := by simp
    simp -dsimp -implicitDefEqProofs [hl2, show (AL.length : Int) ≤ 1000000 ∧ (-1000000 : Int) ≤ AL.length by omega]
    refine for_has (prN (rI P) AL pd (.lst (P.map pD)) m) ?step ?done ⟨[], AL, [], none, none, _, rfl, by simp, rfl, rfl, rfl⟩
    case done =>
      rintro ρ m' ⟨us, rs, acc, x4, x5, x6, e1, e2, e3, rfl, rfl⟩
      have : rs = [] := by
        have := congrArg List.length e2
        simp [rngL] at this
        exact List.length_eq_zero_iff.mp this.symm
      subst this
      simp only [prs, List.append_nil] at e3
      subst Q0
      rw [← e3]
      refine ⟨rfl, ?_⟩
      have hv : view (m ++ [Cell.lst (acc.map prD)]) (.ref m.length) = .lst (acc.map prD) := by simp [view]
      have hgt : gTuple [.ref m.length] (m ++ [.lst (acc.map prD)]) = .ok (.tup (acc.map prD)) (m ++ [.lst (acc.map prD)]) := by
        unfold gTuple; simp [hv]
      have lv := lv acc
      generalize acc.map prD = AC at *
      simp -dsimp -implicitDefEqProofs [hgt, lv]
    case step =>
      rintro d r ρ m' ⟨us, rs, acc, x4, x5, x6, e1, e2, e3, rfl, rfl⟩
      refine ⟨rfl, _, rfl, ?_⟩
      cases rs with
      | nil => simp [rngL] at e2
      | cons a rs =>
        simp only [List.length_cons] at e2
        rw [rngL_succ] at e2
        cases e2
        have hAl3 : AL.length = us.length + 1 + rs.length := by rw [e1]; simp; omega
        have hpl := prs_len (rI P) AL
        have hal : acc.length ≤ AL.length * AL.length := by rw [← e3, List.length_append] at hpl; omega
        have hmm : AL.length * AL.length ≤ 999 * 999 := Nat.mul_le_mul (by omega) (by omega)
        have htot : acc.length + (rs.filter (rI P a)).length ≤ 999 * 999 := by
          have := congrArg List.length e3
          simp only [prs, List.length_append, List.length_map] at this
          omega
        simp -dsimp -implicitDefEqProofs [hl2, show ((AL.length : Int) ≤ 1000000 ∧ (-1000000 : Int) ≤ AL.length) ∧ (us.length : Int) + 1 ≤ 1000000 ∧ (-1000000 : Int) ≤ (us.length : Int) + 1 by omega]
        rw [show ((AL.length : Int) - ((us.length : Int) + 1)).toNat = rs.length by omega]
        refine for_has (prM (rI P) AL pd (.lst (P.map pD)) m us.length a rs acc) ?step2 ?done2 ⟨[], rs, _, _, rfl, by simp, rfl, by simp⟩
        case done2 =>
          rintro ρ m' ⟨vs, ws, x5, x6, f1, f2, rfl, rfl⟩
          have : ws = [] := by
            have := congrArg List.length f2
            simp [rngL] at this
            exact List.length_eq_zero_iff.mp this.symm
          subst this
          rw [List.append_nil] at f1
          subst f1
          refine ⟨rfl, ?_⟩
          simp -dsimp -implicitDefEqProofs
          exact ⟨us ++ [a], rs, _, _, _, _, by rw [e1]; simp, by simp, by rw [List.append_assoc]; exact e3, rfl, by simp⟩
        case step2 =>
          rintro d r ρ m' ⟨vs, ws, x5, x6, f1, f2, rfl, rfl⟩
          refine ⟨rfl, _, rfl, ?_⟩
          cases ws with
          | nil => simp [rngL] at f2
          | cons b ws =>
            simp only [List.length_cons] at f2
            rw [rngL_succ] at f2
            cases f2
            have ha : AL[us.length]? = some a := by rw [e1]; exact mid_get
            have hb : AL[us.length + 1 + vs.length]? = some b := by
              rw [e1, f1, List.getElem?_append_right (by omega), show us.length + 1 + vs.length - us.length = vs.length + 1 by omega, List.getElem?_cons_succ]
              exact mid_get
            obtain ⟨qa, a1, a2, a3, a4⟩ := hform a (List.mem_of_getElem? ha)
            obtain ⟨qb, b1, b2, b3, b4⟩ := hform b (List.mem_of_getElem? hb)
            have hr : rI P a b = eqc (eB qa.2) (eB qb.2) := by unfold rI; rw [a1, b1]
            have ea := eB_pl a2 a3
            have eb := eB_pl b2 b3
            let M := m ++ [Cell.lst ((acc ++ (vs.filter (rI P a)).map fun b => (a, b)).map prD)]
            have hM : M = m ++ [Cell.lst ((acc ++ (vs.filter (rI P a)).map fun b => (a, b)).map prD)] := rfl
            have hge := gEq_nb (a := eB qa.2) (b := eB qb.2) M ea.1 eb.1 (by omega) (by omega)
            rw [← hr] at hge
            have y1 := gIx_nat ha M
            have y2 := gIx_nat hb M
            have y3 := gIx_pt a1 M
            have y4 := gIx_pt b1 M
            have y5 := a4 M
            have y6 := b4 M
            have hvl : (vs.filter (rI P a)).length ≤ (rs.filter (rI P a)).length := by rw [f1, List.filter_append, List.length_append]; omega
            have hlen : ((acc ++ (vs.filter (rI P a)).map fun b => (a, b)).map prD).length < 1000000 := by simp only [List.length_map, List.length_append]; omega
            generalize hZ : (acc ++ (vs.filter (rI P a)).map fun b => (a, b)) = Z at *
            have hid : M[m.length]? = some (.lst (Z.map prD)) := by rw [hM]; simp
            rw [← hM]
            have hset : M.set m.length (.lst (Z.map prD ++ [.tup [.int (a : Int), .int (b : Int)]])) = m ++ [.lst ((Z ++ [(a, b)]).map prD)] := by rw [hM]; simp [prD]
            clear_value M
            generalize eB qa.2 = ea1 at *
            generalize eB qb.2 = eb1 at *
            generalize pD qa = qad at *
            generalize pD qb = qbd at *
            have hcast : ((us.length + 1 + vs.length : Nat) : Int) = (us.length : Int) + 1 + (vs.length : Int) := by omega
            rw [hcast] at y2 ⊢
            generalize hPD : P.map pD = PD at *
            generalize hAD : (AL.map fun (i : Nat) => D.int (i : Int)) = AD at *
            cases hrb : rI P a b with
            | true =>
              rw [hrb] at hge
              generalize hZm : Z.map prD = ZM at *
              simp -dsimp -implicitDefEqProofs [y1, y2, y3, y4, y5, y6, hge, hid, hset, hlen]
              subst hAD hPD hZm
              exact ⟨vs ++ [b], ws, _, _, by rw [f1]; simp, by simp; congr 1, rfl, by rw [List.filter_append]; simp [hrb, ← hZ]⟩
            | false =>
              rw [hrb] at hge
              simp -dsimp -implicitDefEqProofs [y1, y2, y3, y4, y5, y6, hge]
              subst hAD hPD
              exact ⟨vs ++ [b], ws, _, _, by rw [f1]; simp, by simp; congr 1, rfl, by rw [List.filter_append]; simp [hrb, hZ, hM]⟩
end K56

set_option maxRecDepth 100000
namespace K56
open PySem PySem.Spec PyProof.Rows L2 FL

/-! ### how many places, how many parts -/
mutual
theorem cnt3_le : ∀ t : Tr, wf t = true → cnt t + 1 ≤ 3 ^ t.dp
  | .back _ _, _ => by simp [cnt, Tr.dp]
  | .lf _ _, _ => by simp [cnt, Tr.dp]
  | .fn _ n e, h => by
    simp only [wf, Bool.and_eq_true, decide_eq_true_eq] at h
    have := cnt3_le e h.2
    have a5 : 1 ≤ 3 ^ e.dp := Nat.pow_pos (by omega)
    simp only [cnt, Tr.dp, Nat.pow_succ]; omega
  | .lt _ n es e, h => by
    simp only [wf, Bool.and_eq_true, decide_eq_true_eq] at h
    have h1 := cnt3_le e h.2
    have h2 := cnts3_le es h.1.2
    have a1 : 3 ^ e.dp ≤ 3 ^ max (Tr.dps es) e.dp := Nat.pow_le_pow_right (by omega) (by omega)
    have a2 : 3 ^ Tr.dps es ≤ 3 ^ max (Tr.dps es) e.dp := Nat.pow_le_pow_right (by omega) (by omega)
    have a5 : 1 ≤ 3 ^ max (Tr.dps es) e.dp := Nat.pow_pos (by omega)
    simp only [cnt, Tr.dp, Nat.pow_succ]
    have : es.length = 0 ∨ es.length = 1 ∨ es.length = 2 := by omega
    rcases this with q | q | q <;> rw [q] at h2 <;> omega
  | .iff es, h => by
    simp only [wf, Bool.and_eq_true, decide_eq_true_eq] at h
    have h2 := cnts3_le es h.2
    rw [h.1] at h2
    have a5 : 1 ≤ 3 ^ Tr.dps es := Nat.pow_pos (by omega)
    simp only [cnt, Tr.dp, Nat.pow_succ]; omega
  | .call e es, h => by
    simp only [wf, Bool.and_eq_true, decide_eq_true_eq] at h
    have h1 := cnt3_le e h.1.2
    have h2 := cnts3_le es h.2
    have a1 : 3 ^ e.dp ≤ 3 ^ max e.dp (Tr.dps es) := Nat.pow_le_pow_right (by omega) (by omega)
    have a2 : 3 ^ Tr.dps es ≤ 3 ^ max e.dp (Tr.dps es) := Nat.pow_le_pow_right (by omega) (by omega)
    have a5 : 1 ≤ 3 ^ max e.dp (Tr.dps es) := Nat.pow_pos (by omega)
    simp only [cnt, Tr.dp, Nat.pow_succ]
    have : es.length = 0 ∨ es.length = 1 ∨ es.length = 2 := by omega
    rcases this with q | q | q <;> rw [q] at h2 <;> omega
theorem cnts3_le : ∀ es : List Tr, wfs es = true → cnts es + es.length ≤ es.length * 3 ^ Tr.dps es
  | [], _ => by simp [cnts]
  | e :: es, h => by
    simp only [wfs, Bool.and_eq_true] at h
    have h1 := cnt3_le e h.1
    have h2 := cnts3_le es h.2
    have a1 : 3 ^ e.dp ≤ 3 ^ max e.dp (Tr.dps es) := Nat.pow_le_pow_right (by omega) (by omega)
    have a2 : 3 ^ Tr.dps es ≤ 3 ^ max e.dp (Tr.dps es) := Nat.pow_le_pow_right (by omega) (by omega)
    have a3 : es.length * 3 ^ Tr.dps es ≤ es.length * 3 ^ max e.dp (Tr.dps es) := Nat.mul_le_mul_left _ a2
    simp only [cnts, Tr.dps, List.length_cons, Nat.add_mul, Nat.one_mul]; omega
end
theorem sub_len3 : ∀ (k d : Nat) (p : Pt), wf p.2 = true → p.2.dp ≤ d → 2 * (sub k p).length + 1 ≤ 3 ^ (d + 1)
  | 0, d, p, _, _ => by
    have : 1 ≤ 3 ^ (d + 1) := Nat.pow_pos (by omega)
    simpa [sub] using this
  | k + 1, d, p, hw, h => by
    have hl := kd_len hw
    cases d with
    | zero =>
      have : kd p = [] := by
        cases e : kd p with
        | nil => rfl
        | cons q l =>
          have := kd_ok hw (q := q) (by rw [e]; simp)
          omega
      simp [sub, this]
    | succ d =>
      have hB : ∀ q ∈ kd p, (sub k q).length ≤ (3 ^ (d + 1) - 1) / 2 := fun q hq => by
        obtain ⟨h1, h2⟩ := kd_ok hw hq
        have := sub_len3 k d q h2 (by omega)
        omega
      have hf := flat_len hB
      have h3 : (kd p).length * ((3 ^ (d + 1) - 1) / 2) ≤ 3 * ((3 ^ (d + 1) - 1) / 2) := Nat.mul_le_mul_right _ hl
      have hp : 1 ≤ 3 ^ (d + 1) := Nat.pow_pos (by omega)
      have e : 3 ^ (d + 1 + 1) = 3 * 3 ^ (d + 1) := by rw [Nat.pow_succ]; omega
      rw [e]
      simp only [sub, List.length_cons]
      generalize 3 ^ (d + 1) = Z at *
      omega
def cs (l : List Pt) : Nat := (l.map fun q => cnt q.2).sum
theorem cs_app (a b : List Pt) : cs (a ++ b) = cs a + cs b := by simp [cs]
theorem cs_es (ts : Ts) (es : List Tr) : cs (es.map fun x => ((ts, x) : Pt)) = cnts es := by
  induction es with
  | nil => rfl
  | cons a l ih => simp only [cs, List.map_cons, List.sum_cons, cnts] at ih ⊢; omega
theorem kd_cnt (p : Pt) : (bnd p.2).length + cs (kd p) = cnt p.2 := by
  obtain ⟨ts, t⟩ := p
  cases t with
  | back i j => rfl
  | lf s xs => rfl
  | fn s n e => simp [bnd, kd, cs, cnt, nums]
  | lt s n es e =>
    have := cs_es ts es
    simp only [kd, cs_app, this, cnt, bnd]
    simp [cs, nums]; omega
  | iff es => simp only [kd, cs_es, cnt, bnd]; simp
  | call e es =>
    have h : kd (ts, .call e es) = [((ts, e) : Pt)] ++ es.map fun x => ((ts, x) : Pt) := rfl
    rw [h, cs_app, cs_es]
    simp [bnd, cs, cnt]
theorem bnds_cnt : ∀ (k : Nat) (p : Pt), (bnds (sub k p)).length ≤ cnt p.2
  | 0, p => by simp [sub, bnds]
  | k + 1, p => by
    have key : ∀ l : List Pt, (bnds (l.flatMap (sub k))).length ≤ cs l := by
      intro l
      induction l with
      | nil => simp [bnds]
      | cons q l ih =>
        have h1 := bnds_cnt k q
        simp only [bnds, cs, List.flatMap_cons, List.flatMap_append, List.length_append, List.map_cons, List.sum_cons] at ih h1 ⊢
        omega
    have h1 := key (kd p)
    have h2 := kd_cnt p
    simp only [sub, bnds, List.flatMap_cons, List.length_append] at h1 ⊢
    omega
theorem plc_len (k : Nat) (p : Pt) : (plc (sub k p)).length ≤ cnt p.2 := by
  have h1 := adL_len (bnds (sub k p)) []
  have h2 := bnds_cnt k p
  unfold plc
  simp at h1
  omega
/-! ### the sorted items -/
theorem dv_k {n : Nat} {K : List (Key × D)} (h : KI n K) : ∃ l : List (String × Int), K = l.map fun p => ((.inr (Str.ofString p.1) : Key), D.int p.2) := by
  have : ∀ L : List (Key × D), (∀ kv ∈ L, (∃ s, kv.1 = .inr (Str.ofString s)) ∧ ∃ i, kv.2 = .int i) → ∃ l : List (String × Int), L = l.map fun p => ((.inr (Str.ofString p.1) : Key), D.int p.2) := by
    intro L
    induction L with
    | nil => intro _; exact ⟨[], rfl⟩
    | cons kv L ih =>
      intro hL
      obtain ⟨⟨s, hs⟩, i, hi⟩ := hL kv (by simp)
      obtain ⟨l, hl⟩ := ih fun x hx => hL x (by simp [hx])
      exact ⟨(s, i) :: l, by rw [hl, List.map_cons]; congr 1; obtain ⟨k, v⟩ := kv; simp only at hs hi; rw [hs, hi]⟩
  exact this K h.k
/-- a dict whose items sort, and whose sorted items are alike -/
structure SI (K : List (Key × D)) : Prop where
  s : ∀ (d : D) (m : Me), view m d = .dct K → gSortIt d m = .ok (.lst ((K.map prrD).mergeSort leD)) m
  a : al (.tup ((K.map prrD).mergeSort leD)) = true
  d : dpD (.tup ((K.map prrD).mergeSort leD)) < 100
theorem SI.of {α : Type} (l : List α) (k : α → Key) (v : α → Int) (hk : ∀ x ∈ l, al (kyD (k x)) = true) (e : α → PyData) (he : ∀ x, e x = .tuple [encK (k x), .int (v x)]) (ha : PySem.W.AllAlike (l.map e)) (hl : l.length ≤ 100000) : SI (l.map fun x => (k x, D.int (v x))) := by
  have e0 : (l.map fun x => (k x, D.int (v x))).map prrD = l.map fun x => prrD (k x, .int (v x)) := by rw [List.map_map]; rfl
  have e1 : ∀ x, FL.enc (prrD (k x, .int (v x))) = e x := fun x => by rw [enc_pr (by simp [FL.py]), he]; simp [FL.enc, FL.py]
  have e2 : ((l.map fun x => (k x, D.int (v x))).map prrD).map FL.enc = l.map e := by
    rw [e0, List.map_map]; exact List.map_congr_left fun x _ => e1 x
  refine ⟨fun d m hv => ?_, ?_, ?_⟩
  · unfold gSortIt
    simp only [hv]
    rw [if_pos]
    refine ⟨fun x hx => ?_, ?_, by simp; omega⟩
    · obtain ⟨p, _, rfl⟩ := List.mem_map.mp hx
      simp [FL.py, FL.enc, noL]
    · rw [e2]; exact ha
  · rw [e0]
    simp only [al, Bool.and_eq_true, decide_eq_true_eq, List.length_mergeSort, List.length_map]
    refine ⟨alL_iff.mpr fun x hx => ?_, by omega⟩
    rw [List.mem_mergeSort] at hx
    obtain ⟨p, hp, rfl⟩ := List.mem_map.mp hx
    have := hk p hp
    simp [prrD, al, alL, this]
  · have : dpL (((l.map fun x => (k x, D.int (v x))).map prrD).mergeSort leD) ≤ 5 := dpL_le.mpr fun x hx => by
      rw [List.mem_mergeSort, e0] at hx
      obtain ⟨p, _, rfl⟩ := List.mem_map.mp hx
      have : dpD (kyD (k p)) ≤ 3 := by cases k p <;> simp [kyD, dpD]
      simp only [prrD, dpD, dpL]; omega
    simp only [dpD]; omega
theorem SI.k {n : Nat} {K : List (Key × D)} (h : KI n K) (hn : n ≤ 100000) : SI K := by
  have hl := h.l
  obtain ⟨l, rfl⟩ := dv_k h
  refine SI.of l (fun p => .inr (Str.ofString p.1)) (·.2) (fun x _ => by simp [kyD, al, strOk_ofs]) (fun p => .tuple [.str (Str.ofString p.1), .int p.2]) (fun x => rfl) (PySem.W.AllAlike.of fun b b' => by simp [PySem.W.alike, PySem.W.alikeAll]) (by simp at hl; omega)
theorem SI.t {P : List Int} {f : Int → Int} (hl : P.length ≤ 100000) : SI (tK P f) :=
  SI.of P (fun k => .inl k) f (fun x _ => by simp [kyD, al]) (fun p => .tuple [.int p, .int (f p)]) (fun x => rfl) (PySem.W.AllAlike.of fun b b' => by simp [PySem.W.alike, PySem.W.alikeAll]) hl
/-! ### the law's dicts -/
theorem two0 {m : Me} {a b : Cell} : (m ++ [a, b])[m.length]? = some a := by rw [List.getElem?_append_right (Nat.le_refl _)]; simp
theorem two1 {m : Me} {a b : Cell} : (m ++ [a, b])[m.length + 1]? = some b := by rw [List.getElem?_append_right (by omega)]; simp
theorem tws0 {m : Me} {a b c : Cell} : (m ++ [a, b]).set m.length c = m ++ [c, b] := by rw [List.set_append_right _ _ (Nat.le_refl _)]; simp
theorem tws1 {m : Me} {a b c : Cell} : (m ++ [a, b]).set (m.length + 1) c = m ++ [a, c] := by rw [List.set_append_right _ _ (by omega)]; simp
theorem eq_ref {q : Pt} (hw : wf q.2 = true) (hd : q.2.dp ≤ 6) (k : Int) (m : Me) : gEq (pD q) (.tup [.str (Str.ofString "ref"), .int k]) m = .ok (.bl (isRef k q)) m := by
  have hn := nb_pD hw hd
  rw [gEq_nb m hn.1 (by simp [nb, nbL]) (by omega) (by simp [dpD, dpL])]
  congr 2
  obtain ⟨ts, t⟩ := q
  have key : ∀ (s : String) (l : List D), s ≠ "ref" → eqc (.tup (.str (Str.ofString s) :: l)) (.tup [.str (Str.ofString "ref"), .int k]) = false := fun s l h => eqc_ne (by simp [h])
  cases t with
  | back i j =>
    simp only [isRef, pD, cor]
    by_cases e : ref ts i j = k
    · subst e; rw [eqc_self]; simp
    · rw [eqc_ne (by simpa using e)]; simp [e]
  | lf s xs =>
    simp only [wf, Bool.and_eq_true, decide_eq_true_eq] at hw
    exact key s xs (lfc hw.1.1.1.1.1).2.2.2.2.2.2
  | fn s n e => exact key _ _ (by decide)
  | lt s n es e => exact key _ _ (by decide)
  | iff es => exact key _ _ (by decide)
  | call e es => exact key _ _ (by decide)
noncomputable def rdB : MS := (sSeq (sDput (mVar 13) (mVar 14) (mArgs gLen (mCons (mComp (iSeq (mVar 5)) [18] (tgN 18) (mB (m2 gEq (mVar 18) (mTup (mCons (mC (.str ("ref" : Str))) (mCons (mVar 14) mNil))))) (mVar 18)) mNil))) sNext)
section
variable {L : List Pt} {a0 a1 a2 a3 a4 a6 a7 a8 a9 a10 a11 a12 a14 a15 a16 a17 a18 : Option D}
def IRd (L : List Pt) (P ks : List Int) (a0 a1 a2 a3 a4 a6 a7 a8 a9 a10 a11 a12 a15 a16 a17 a18 : Option D) (m : Me) (c : Cell) (rest : List D) (ρ : En) (m' : Me) : Prop :=
  ∃ (us rs : List Int) (x14 : Option D), ks = us ++ rs ∧ rest = rs.map .int ∧ ρ = [a0, a1, a2, a3, a4, some (.lst (L.map pD)), a6, a7, a8, a9, a10, a11, a12, some (.ref (m.length + 1)), x14, a15, a16, a17, a18] ∧ m' = m ++ [c, .dK (tK (adL P us) (cntR L))]
theorem rd_loop {P ks : List Int} {m : Me} {c : Cell} {Q : Fl → Prop} (hL : ∀ q ∈ L, wf q.2 = true ∧ q.2.dp ≤ 6) (hl : P.length + ks.length < 1000000)
    (hyes : ∀ x14, Q (.nx [a0, a1, a2, a3, a4, some (.lst (L.map pD)), a6, a7, a8, a9, a10, a11, a12, some (.ref (m.length + 1)), x14, a15, a16, a17, a18] (m ++ [c, .dK (tK (adL P ks) (cntR L))]))) :
    FHas Q (forF (tgN 14) rdB gdY (ks.map D.int) [a0, a1, a2, a3, a4, some (.lst (L.map pD)), a6, a7, a8, a9, a10, a11, a12, some (.ref (m.length + 1)), a14, a15, a16, a17, a18] (m ++ [c, .dK (tK P (cntR L))])) := by
  refine for_has (IRd L P ks a0 a1 a2 a3 a4 a6 a7 a8 a9 a10 a11 a12 a15 a16 a17 a18 m c) ?_ ?_ ⟨[], ks, a14, rfl, rfl, rfl, rfl⟩
  · rintro d rest ρ m' ⟨us, rs, x3, e1, e2, rfl, rfl⟩
    cases rs with
    | nil => simp at e2
    | cons k rs =>
      simp only [List.map_cons, List.cons.injEq] at e2
      obtain ⟨rfl, rfl⟩ := e2
      refine ⟨rfl, _, rfl, ?_⟩
      have fin : ∀ y3, IRd L P ks a0 a1 a2 a3 a4 a6 a7 a8 a9 a10 a11 a12 a15 a16 a17 a18 m c (rs.map .int) [a0, a1, a2, a3, a4, some (.lst (L.map pD)), a6, a7, a8, a9, a10, a11, a12, some (.ref (m.length + 1)), y3, a15, a16, a17, a18] (m ++ [c, .dK (tK (adI (adL P us) k) (cntR L))]) := fun y3 => ⟨us ++ [k], rs, y3, by rw [e1]; simp, rfl, rfl, by rw [adL_app]; rfl⟩
      have hlen : (tK (adL P us) (cntR L)).length < 1000000 := by
        rw [tK_len]
        have := adL_len us P
        have : us.length ≤ ks.length := by rw [e1]; simp
        omega
      have hg := tK_ad (adL P us) (cntR L) k
      rw [← hg] at fin
      have hcr : ∀ m, gLen [.lst ((L.filter (isRef k)).map pD)] m = .ok (.int (cntR L k)) m := fun m => by
        simp [cntR]
      have hput : dput (m ++ [c, .dK (tK (adL P us) (cntR L))]) (.ref (m.length + 1)) (.int k) (.int (cntR L k)) = some (m ++ [c, .dK (setK (tK (adL P us) (cntR L)) (.inl k) (.int (cntR L k)))]) := by
        unfold dput
        simp only [keyD, two1]
        rw [if_pos hlen, tws1]
      generalize setK (tK (adL P us) (cntR L)) (.inl k) (.int (cntR L k)) = K2 at *
      generalize tK (adL P us) (cntR L) = K1 at *
      generalize hM : m ++ [c, Cell.dK K1] = M at *
      generalize hM2 : m ++ [c, Cell.dK K2] = M2 at *
      unfold rdB
      simp -dsimp -implicitDefEqProofs
      refine comp_map (isRef k) pD (fun q hq => ?_) ?_
      · obtain ⟨h1, h2⟩ := hL q hq
        have := eq_ref h1 h2 k M
        generalize pD q = qd at *
        refine ⟨_, rfl, ?_, fun _ => ?_⟩
        · simp -dsimp -implicitDefEqProofs [this]
        · simp -dsimp -implicitDefEqProofs
      · have hcr := hcr M
        generalize (L.filter (isRef k)).map pD = LL at *
        generalize hQ0 : (kL _ _ : Fl → Prop) = Q0
        generalize cntR L k = ck at *
        simp -dsimp -implicitDefEqProofs [hcr, hput]
        subst Q0
        exact fin _
  · rintro ρ m' ⟨us, rs, x3, e1, e2, rfl, rfl⟩
    have : rs = [] := by simpa using e2.symm
    subst this
    rw [List.append_nil] at e1
    subst e1
    exact ⟨rfl, hyes _⟩
def IKr (L : List Pt) (a0 a1 a2 a3 a4 a7 a8 a9 a10 a11 a15 a16 a17 a18 : Option D) (m : Me) (rest : List D) (ρ : En) (m' : Me) : Prop :=
  ∃ (us rs : List Pt) (x6 x14 : Option D), L = us ++ rs ∧ rest = rs.map pD ∧ ρ = [a0, a1, a2, a3, a4, some (.lst (L.map pD)), x6, a7, a8, a9, a10, a11, some (.ref m.length), some (.ref (m.length + 1)), x14, a15, a16, a17, a18] ∧ m' = m ++ [.dK (kF us), .dK (tK (plc us) (cntR L))]
theorem kr_loop {m : Me} {Q : Fl → Prop} (hL : ∀ q ∈ L, wf q.2 = true ∧ q.2.dp ≤ 6) (hl : L.length < 100000)
    (hyes : ∀ x6 x14, Q (.nx [a0, a1, a2, a3, a4, some (.lst (L.map pD)), x6, a7, a8, a9, a10, a11, some (.ref m.length), some (.ref (m.length + 1)), x14, a15, a16, a17, a18] (m ++ [.dK (kF L), .dK (tK (plc L) (cntR L))]))) :
    FHas Q (forF (tgN 6) (sSeq (sDput (mVar 12) (m2 gIx (mVar 6) (mC (.int 0))) (m2 gAdd (m3 gDget2 (mVar 12) (m2 gIx (mVar 6) (mC (.int 0))) (mC (.int 0))) (mC (.int 1)))) (sSeq (sFor (iSeq (mIf (mB (m2 (gInN false) (m2 gIx (mVar 6) (mC (.int 0))) (mTup (mCons (mC (.str ("fn" : Str))) (mCons (mC (.str ("let" : Str))) mNil))))) (m2 gIx (mVar 6) (mC (.int 1))) (mTup mNil))) (tgN 14) rdB) sNext)) gdY (L.map pD) [a0, a1, a2, a3, a4, some (.lst (L.map pD)), a6, a7, a8, a9, a10, a11, some (.ref m.length), some (.ref (m.length + 1)), a14, a15, a16, a17, a18] (m ++ [.dK [], .dK []])) := by
  refine for_has (IKr L a0 a1 a2 a3 a4 a7 a8 a9 a10 a11 a15 a16 a17 a18 m) ?_ ?_ ⟨[], L, a6, a14, rfl, rfl, rfl, rfl⟩
  · rintro d rest ρ m' ⟨us, rs, x6, x14, e1, e2, rfl, rfl⟩
    cases rs with
    | nil => simp at e2
    | cons q rs =>
      simp only [List.map_cons, List.cons.injEq] at e2
      obtain ⟨rfl, rfl⟩ := e2
      refine ⟨rfl, _, rfl, ?_⟩
      have hqL := hL q (by rw [e1]; simp)
      have ht := tg_ix q
      have hb := isB_ok q hqL.1
      have hki := kF_ki us
      have hul : us.length < 100000 := by rw [e1] at hl; simp at hl; omega
      have g1 := hki.get2 (M := m ++ [.dK (kF us), .dK (tK (plc us) (cntR L))]) two0 (tgS q.2)
      have g2 := hki.put (M := m ++ [.dK (kF us), .dK (tK (plc us) (cntR L))]) (by omega) two0 (tgS q.2)
      rw [tws0, ← kF_app] at g2
      have hvw : view (m ++ [.dK (kF us), .dK (tK (plc us) (cntR L))]) (.ref m.length) = .dct (kF us) := view_ref_dK two0
      have hbn := bnd_len q hqL.1
      have hpl : (plc us).length ≤ 200000 := by
        have h1 := adL_len (bnds us) []
        have h2 := bnds_len us fun q hq => (hL q (by rw [e1]; simp [hq])).1
        unfold plc
        simp at h1
        omega
      have fin : ∀ y6 y14, IKr L a0 a1 a2 a3 a4 a7 a8 a9 a10 a11 a15 a16 a17 a18 m (rs.map pD) [a0, a1, a2, a3, a4, some (.lst (L.map pD)), y6, a7, a8, a9, a10, a11, some (.ref m.length), some (.ref (m.length + 1)), y14, a15, a16, a17, a18] (m ++ [.dK (kF (us ++ [q])), .dK (tK (adL (plc us) (bnd q.2)) (cntR L))]) := fun y6 y14 => ⟨us ++ [q], rs, y6, y14, by rw [e1]; simp, rfl, rfl, by unfold plc; rw [bnds_app, adL_app]⟩
      have hrd := fun (Q : Fl → Prop) a6 a14 h => rd_loop (L := L) (P := plc us) (ks := bnd q.2) (m := m) (c := .dK (kF (us ++ [q]))) (a0 := a0) (a1 := a1) (a2 := a2) (a3 := a3) (a4 := a4) (a6 := a6) (a7 := a7) (a8 := a8) (a9 := a9) (a10 := a10) (a11 := a11) (a12 := some (.ref m.length)) (a14 := a14) (a15 := a15) (a16 := a16) (a17 := a17) (a18 := a18) (Q := Q) hL (by omega) h
      generalize kF (us ++ [q]) = K2 at *
      generalize kc (kF us) (tgS q.2) = cc at *
      generalize kF us = K1 at *
      generalize hLL : L.map pD = LL at *
      cases hB : isB q.2 with
      | true =>
        rw [hB] at hb
        have hx := bnd_ix q hB
        generalize Str.ofString (tgS q.2) = tag at *
        generalize (bnd q.2).map D.int = BK at *
        generalize pD q = qd at *
        simp -dsimp -implicitDefEqProofs [ht, hvw, g1, g2, hb, hx]
        refine hrd _ _ _ fun y14 => ?_
        simp -dsimp -implicitDefEqProofs
        exact fin _ _
      | false =>
        rw [hB] at hb
        have hbe : bnd q.2 = [] := by
          cases hq2 : q.2 <;> first | rfl | (rw [hq2] at hB; simp [isB] at hB)
        rw [hbe] at fin
        have fin : ∀ y6 y14, IKr L a0 a1 a2 a3 a4 a7 a8 a9 a10 a11 a15 a16 a17 a18 m (rs.map pD) [a0, a1, a2, a3, a4, some (.lst LL), y6, a7, a8, a9, a10, a11, some (.ref m.length), some (.ref (m.length + 1)), y14, a15, a16, a17, a18] (m ++ [.dK K2, .dK (tK (plc us) (cntR L))]) := fin
        generalize Str.ofString (tgS q.2) = tag at *
        generalize pD q = qd at *
        simp -dsimp -implicitDefEqProofs [ht, hvw, g1, g2, hb]
        refine for_nil ?_
        simp -dsimp -implicitDefEqProofs
        exact fin _ _
  · rintro ρ m' ⟨us, rs, x6, x14, e1, e2, rfl, rfl⟩
    have : rs = [] := by simpa using e2.symm
    subst this
    rw [List.append_nil] at e1
    rw [← e1]
    exact ⟨rfl, hyes _ _⟩
end
end K56

set_option maxRecDepth 100000
namespace K56
open PySem PySem.Spec PyProof.Rows L2 FL

theorem isi_dct (K : List (Key × D)) (m : Me) : gIsi "dict" (.dct K) m = .ok (.bl true) m := by
  unfold gIsi
  have : (tyD m (.dct K)).bind (fun t => kitB t "dict") = some true := by
    show kitB "dict" "dict" = some true
    decide +kernel
  simp only [this]
theorem gTup_x (X : List D) (m : Me) : gTuple [.lst X] m = .ok (.tup X) m := rfl
/-! ### best -/
section
variable {a0 a1 a2 a3 a4 a5 a6 a7 a8 a9 a10 a11 a12 a15 a16 a17 a18 : Option D}
theorem ikeys_tK (P : List Int) (f : Int → Int) : ikeys (tK P f) = some P := by
  induction P with
  | nil => rfl
  | cons a P ih =>
    have : tK (a :: P) f = (.inl a, .int (f a)) :: tK P f := rfl
    rw [this]
    unfold ikeys
    rw [ih]; rfl
theorem sortDI_ok {P : List Int} {f : Int → Int} (hl : P.length < 64) {m : Me} {d : D} (hv : view m d = .dct (tK P f)) : gSortDI [d] m = .ok (.lst ((P.mergeSort leI).map .int)) m := by
  unfold gSortDI
  simp only [hv, ikeys_tK, hl, if_true]
theorem best_comp {P : List Int} {f : Int → Int} {m : Me} {c : Cell} {Q : Res (List D) → Prop} (hl : P.length < 64)
    (hyes : ∀ m', (m' = m ++ [c, .dK (tK P f)] ∨ m' = m ++ [c, .dL (tK P f)]) → Q (.ok ((bestL P f).map .int) m')) :
    RHas Q (compF (tgN 14) (mB (m2 gEq (mComp (iKey (mVar 13)) [17] (tgN 17) (mB (m2 gGt (m2 gDget (mVar 13) (mVar 17)) (m2 gDget (mVar 13) (mVar 14)))) (mVar 17)) (mLst mNil))) (mVar 14) gdY [a0, a1, a2, a3, a4, a5, a6, a7, a8, a9, a10, a11, a12, some (.ref (m.length + 1)), none, a15, a16, a17, a18] ((P.mergeSort leI).map D.int) (m ++ [c, .dK (tK P f)])) := by
  let pb : Int → Bool := fun k => P.all fun j => decide (f j ≤ f k)
  refine comp_has (fun rest ys m' => ∃ us rs : List Int, P.mergeSort leI = us ++ rs ∧ rest = rs.map .int ∧ ys = (us.filter pb).map .int ∧ (m' = m ++ [c, .dK (tK P f)] ∨ m' = m ++ [c, .dL (tK P f)])) ?_ ?_ ⟨[], _, rfl, rfl, rfl, .inl rfl⟩
  · rintro d r ys m' ⟨us, rs, e1, e2, rfl, hm⟩
    cases rs with
    | nil => simp at e2
    | cons k rs =>
      simp only [List.map_cons, List.cons.injEq] at e2
      obtain ⟨rfl, rfl⟩ := e2
      refine ⟨rfl, _, rfl, ?_⟩
      have hk : k ∈ P := by rw [← List.mem_mergeSort (le := leI), e1]; simp
      have has : asItK (.ref (m.length + 1)) m' = .ok (P.map .int, gdY) (m ++ [c, .dL (tK P f)]) := by
        unfold asItK
        rcases hm with rfl | rfl
        · simp only [two1]
          rw [if_pos (by rw [tK_len]; omega), keys_tK, tws1]
        · simp only [two1]
          rw [if_pos (by rw [tK_len]; omega), keys_tK]
      have hvw : view (m ++ [c, .dL (tK P f)]) (.ref (m.length + 1)) = .dct (tK P f) := by simp only [view, two1]
      have hg : ∀ x ∈ P, gDget (.ref (m.length + 1)) (.int x) (m ++ [c, .dL (tK P f)]) = .ok (.int (f x)) (m ++ [c, .dL (tK P f)]) := fun x hx => by
        have := tK_get P f x
        rw [if_pos hx] at this
        unfold gDget look
        simp only [hvw, keyD, Option.map_some, this]
      have hgk := hg k hk
      have hen : (P.filter fun j => decide (f j > f k)).isEmpty = pb k := by
        simp only [pb]
        cases e : P.all fun j => decide (f j ≤ f k) with
        | true =>
          have : P.filter (fun j => decide (f j > f k)) = [] := List.filter_eq_nil_iff.mpr fun j hj => by
            have := List.all_eq_true.mp e j hj
            simp only [decide_eq_true_eq] at this ⊢
            omega
          rw [this]; rfl
        | false =>
          obtain ⟨j, hj, h2⟩ := List.all_eq_false.mp e
          have : j ∈ P.filter fun j => decide (f j > f k) := List.mem_filter.mpr ⟨hj, by simp only [decide_eq_true_eq] at h2 ⊢; omega⟩
          cases q : P.filter fun j => decide (f j > f k) with
          | nil => rw [q] at this; cases this
          | cons y l => rfl
      have fin : ∀ ys', ys' = ((us ++ [k]).filter pb).map D.int → ∃ us' rs' : List Int, P.mergeSort leI = us' ++ rs' ∧ rs.map D.int = rs'.map .int ∧ ys' = (us'.filter pb).map .int := fun ys' h => ⟨us ++ [k], rs, by rw [e1]; simp, rfl, h⟩
      have ge := gEq_lnil (xs := (P.filter fun j => decide (f j > f k)).map D.int) (m ++ [c, .dL (tK P f)]) (nbL_iff.mpr fun x hx => by obtain ⟨y, _, rfl⟩ := List.mem_map.mp hx; rfl) (dpL_le.mpr fun x hx => by obtain ⟨y, _, rfl⟩ := List.mem_map.mp hx; simp [dpD])
      rw [List.isEmpty_map, hen] at ge
      have hcb : ∀ x ∈ P, decide (f x > f k) = decide (f k < f x) := fun x _ => rfl
      generalize tK P f = T at *
      generalize hM2 : m ++ [c, Cell.dL T] = M2 at *
      generalize hQ : (kC _ _ _ : Res Bool → Prop) = Q1
      simp -dsimp -implicitDefEqProofs [iKey, has]
      refine comp_map (fun j => decide (f j > f k)) D.int (fun x hx => ?_) ?_
      · have := hg x hx
        refine ⟨_, rfl, ?_, fun _ => ?_⟩
        · simp -dsimp -implicitDefEqProofs [this, hgk]
        · simp -dsimp -implicitDefEqProofs
      · generalize (P.filter fun j => decide (f j > f k)).map D.int = LL at *
        subst Q1
        cases hb : pb k with
        | true =>
          rw [hb] at ge
          simp -dsimp -implicitDefEqProofs [ge]
          exact fin _ (by simp [hb])
        | false =>
          rw [hb] at ge
          simp -dsimp -implicitDefEqProofs [ge]
          exact fin _ (by simp [hb])
  · rintro ys m' ⟨us, rs, e1, e2, rfl, hm⟩
    have : rs = [] := by simpa using e2.symm
    subst this
    rw [List.append_nil] at e1
    exact ⟨rfl, by rw [← e1]; exact hyes m' hm⟩
end
/-! ### the law's parts -/
theorem nmd_pl6 {t : Tr} (h : wf t = true) (hd : t.dp ≤ 6) : nb (nmd 0 t) = true ∧ dpD (nmd 0 t) ≤ 24 := by
  have := nmd_pl t 0 h
  exact ⟨this.1, Nat.le_trans this.2 (by omega)⟩
theorem rI_nmd {L : List Pt} (hL : ∀ q ∈ L, wf q.2 = true ∧ q.2.dp ≤ 6) {i j : Nat} {a b : Pt} (ha : L[i]? = some a) (hb : L[j]? = some b) (ca : ab a = true) (cb : ab b = true) : eqc (nmd 0 a.2) (nmd 0 b.2) = rI L i j := by
  unfold rI
  rw [ha, hb]
  unfold ab at ca cb
  rw [Bool.and_eq_true] at ca cb
  have := nmd_inj a.2 b.2 0 (hL a (List.mem_of_getElem? ha)).1 (hL b (List.mem_of_getElem? hb)).1 ca.2 cb.2
  exact Bool.eq_iff_iff.mpr (eqc_iff.trans (this.trans eqc_iff.symm))
theorem gIx_nm {L : List Pt} {i : Nat} {q : Pt} (h : L[i]? = some q) (m : Me) : gIx (.lst (L.map fun q => nmd 0 q.2)) (.int (i : Int)) m = .ok (nmd 0 q.2) m := by
  unfold gIx; simp only [view_lst']
  rw [atI_nat (v := nmd 0 q.2) (by rw [List.getElem?_map, h]; rfl)]
section
variable {a0 a1 a2 a3 a4 a6 a7 a9 a12 a13 a14 a15 a16 a18 : Option D}
def IPs (R : Nat → Nat → Bool) (A : List Nat) (EV NM AD : D) (a0 a1 a2 a3 a4 a6 a7 a12 a13 a14 a15 a16 a18 : Option D) (m : Me) (rest : List D) (ρ : En) (m' : Me) : Prop :=
  ∃ (us rs : List Nat) (x11 x17 : Option D), A = us ++ rs ∧ rest = rs.map (fun (i : Nat) => D.int (i : Int)) ∧ ρ = [a0, a1, a2, a3, a4, some EV, a6, a7, some NM, some AD, some (.lst ((us.flatMap fun i => (A.filter fun j => decide (i < j) && R i j).map fun j => (i, j)).map prD)), x11, a12, a13, a14, a15, a16, x17, a18] ∧ m' = m
theorem pairs_loop {L : List Pt} {m : Me} {a11 a17 : Option D} {Q : Fl → Prop} (hL : ∀ q ∈ L, wf q.2 = true ∧ q.2.dp ≤ 6) (hl : L.length ≤ 999)
    (hyes : ∀ x11 x17, Q (.nx [a0, a1, a2, a3, a4, some (.lst (L.map pD)), a6, a7, some (.lst (L.map fun q => nmd 0 q.2)), some (.lst ((able L).map fun (i : Nat) => D.int (i : Int))), some (.lst ((prs (rI L) (able L)).map prD)), x11, a12, a13, a14, a15, a16, x17, a18] m)) :
    FHas Q (forF (tgN 11) (sSeq (sSet 10 (m2 gAdd (mVar 10) (mComp (iSeq (mVar 9)) [17] (tgN 17) (mAnd (mB (m2 gLt (mVar 11) (mVar 17))) (mB (m2 gEq (m2 gIx (mVar 8) (mVar 11)) (m2 gIx (mVar 8) (mVar 17))))) (mTup (mCons (mVar 11) (mCons (mVar 17) mNil)))))) sNext) gdY ((able L).map fun (i : Nat) => D.int (i : Int)) [a0, a1, a2, a3, a4, some (.lst (L.map pD)), a6, a7, some (.lst (L.map fun q => nmd 0 q.2)), some (.lst ((able L).map fun (i : Nat) => D.int (i : Int))), some (.lst []), a11, a12, a13, a14, a15, a16, a17, a18] m) := by
  have hasc := able_asc L
  have hal := able_len L
  have hmem : ∀ i ∈ able L, ∃ q, L[i]? = some q ∧ ab q = true := fun i hi => able_mem hi
  rw [prs_asc _ _ hasc] at hyes
  generalize able L = A at *
  refine for_has (IPs (rI L) A (.lst (L.map pD)) (.lst (L.map fun q => nmd 0 q.2)) (.lst (A.map fun (i : Nat) => D.int (i : Int))) a0 a1 a2 a3 a4 a6 a7 a12 a13 a14 a15 a16 a18 m) ?_ ?_ ⟨[], A, a11, a17, rfl, rfl, rfl, rfl⟩
  · rintro d rest ρ m' ⟨us, rs, x11, x17, e1, e2, rfl, rfl⟩
    cases rs with
    | nil => simp at e2
    | cons i rs =>
      simp only [List.map_cons, List.cons.injEq] at e2
      obtain ⟨rfl, rfl⟩ := e2
      refine ⟨rfl, _, rfl, ?_⟩
      obtain ⟨qa, h1, h2⟩ := hmem i (by rw [e1]; simp)
      have g1 := gIx_nm h1 m'
      have na := nmd_pl6 (hL qa (List.mem_of_getElem? h1)).1 (hL qa (List.mem_of_getElem? h1)).2
      have hlen : ∀ us' : List Nat, us'.length ≤ A.length → (us'.flatMap fun i => (A.filter fun j => decide (i < j) && rI L i j).map fun j => (i, j)).length ≤ us'.length * 999 := by
        intro us'
        induction us' with
        | nil => intro _; simp
        | cons x us' ih =>
          intro hu
          have := ih (by simp at hu; omega)
          have h3 := List.length_filter_le (fun j => decide (x < j) && rI L x j) A
          simp only [List.flatMap_cons, List.length_append, List.length_map, List.length_cons, Nat.add_mul, Nat.one_mul]
          omega
      have hul : us.length ≤ 999 := by have := congrArg List.length e1; simp at this; omega
      have hl1 := hlen us (by have := congrArg List.length e1; simp at this; omega)
      have hl2 := List.length_filter_le (fun j => decide (i < j) && rI L i j) A
      have fin : ∀ y11 y17, IPs (rI L) A (.lst (L.map pD)) (.lst (L.map fun q => nmd 0 q.2)) (.lst (A.map fun (i : Nat) => D.int (i : Int))) a0 a1 a2 a3 a4 a6 a7 a12 a13 a14 a15 a16 a18 m' (rs.map fun (i : Nat) => D.int (i : Int)) [a0, a1, a2, a3, a4, some (.lst (L.map pD)), a6, a7, some (.lst (L.map fun q => nmd 0 q.2)), some (.lst (A.map fun (i : Nat) => D.int (i : Int))), some (.lst ((us.flatMap fun i => (A.filter fun j => decide (i < j) && rI L i j).map fun j => (i, j)).map prD ++ (A.filter fun j => decide (i < j) && rI L i j).map fun j => prD (i, j))), y11, a12, a13, a14, a15, a16, y17, a18] m' := fun y11 y17 => ⟨us ++ [i], rs, y11, y17, by rw [e1]; simp, rfl, by simp [List.flatMap_append], rfl⟩
      have hadd : gAdd (.lst ((us.flatMap fun i => (A.filter fun j => decide (i < j) && rI L i j).map fun j => (i, j)).map prD)) (.lst ((A.filter fun j => decide (i < j) && rI L i j).map fun j => prD (i, j))) m' = .ok (.lst ((us.flatMap fun i => (A.filter fun j => decide (i < j) && rI L i j).map fun j => (i, j)).map prD ++ (A.filter fun j => decide (i < j) && rI L i j).map fun j => prD (i, j))) m' := by
        rw [gAdd_lst, if_pos]
        simp only [List.length_map]
        omega
      have hin : ∀ j ∈ A, gIx (.lst (L.map fun q => nmd 0 q.2)) (.int (j : Int)) m' = .ok (nmd 0 (L.getD j ([], .lf "" [])).2) m' ∧ gEq (nmd 0 qa.2) (nmd 0 (L.getD j ([], .lf "" [])).2) m' = .ok (.bl (rI L i j)) m' := fun j hj => by
        obtain ⟨qb, h3, h4⟩ := hmem j hj
        have hgd : L.getD j ([], .lf "" []) = qb := by rw [List.getD_eq_getElem?_getD, h3]; rfl
        have nbb := nmd_pl6 (hL qb (List.mem_of_getElem? h3)).1 (hL qb (List.mem_of_getElem? h3)).2
        rw [hgd]
        refine ⟨gIx_nm h3 m', ?_⟩
        rw [gEq_nb m' na.1 nbb.1 (by omega) (by omega), rI_nmd hL h1 h3 h2 h4]
      generalize (us.flatMap fun i => (A.filter fun j => decide (i < j) && rI L i j).map fun j => (i, j)).map prD = acc at *
      generalize hNM : L.map (fun q => nmd 0 q.2) = NM at *
      generalize hPD : L.map pD = PD at *
      generalize nmd 0 qa.2 = na1 at *
      generalize hQ0 : (kL _ _ : Fl → Prop) = Q0
      simp -dsimp -implicitDefEqProofs
      refine comp_map (fun j => decide (i < j) && rI L i j) (fun j => prD (i, j)) (fun j hj => ?_) ?_
      · obtain ⟨h3, h4⟩ := hin j hj
        generalize nmd 0 (L.getD j ([], .lf "" [])).2 = nj at *
        refine ⟨_, rfl, ?_, fun _ => ?_⟩
        · by_cases hij : i < j
          · simp -dsimp -implicitDefEqProofs [g1, h3, h4, hij, show (i : Int) < (j : Int) by omega]
          · simp -dsimp -implicitDefEqProofs [hij, show ¬ (i : Int) < (j : Int) by omega]
        · simp -dsimp -implicitDefEqProofs [prD]
      · generalize (A.filter fun j => decide (i < j) && rI L i j).map (fun j => prD (i, j)) = new at *
        simp -dsimp -implicitDefEqProofs [-gAdd_lst, hadd]
        subst Q0
        exact fin _ _
  · rintro ρ m' ⟨us, rs, x11, x17, e1, e2, rfl, rfl⟩
    have : rs = [] := by simpa using e2.symm
    subst this
    rw [List.append_nil] at e1
    subst e1
    exact ⟨rfl, hyes _ _⟩
theorem able_comp {L : List Pt} {m : Me} {ρ : En} {n : Nat} {Q : Res (List D) → Prop} (hL : ∀ q ∈ L, wf q.2 = true ∧ q.2.dp ≤ 6) (hn : 30 ≤ n) (h5 : ρ[5]? = some (some (.lst (L.map pD)))) (h8 : ρ[8]? = some (some (.lst (L.map fun q => nmd 0 q.2)))) (h11 : 11 < ρ.length)
    (hyes : Q (.ok ((able L).map fun (i : Nat) => D.int (i : Int)) m)) :
    RHas Q (compF (tgN 11) (mAnd (mB (m2 gNe (mCall (G.fns n 17) (mCons (m2 gIx (mVar 5) (mVar 11)) mNil)) (mTup mNil))) (mNot (mB (mCall (G.fns n 21) (mCons (m2 gIx (mVar 8) (mVar 11)) mNil))))) (mVar 11) gdY ρ (rngL 0 L.length) m) := by
  rw [rngL_map]
  obtain ⟨n, rfl⟩ : ∃ n', n = n' + 1 := ⟨n - 1, by omega⟩
  refine comp_map (abI L) (fun k : Nat => D.int (k : Int)) (fun i hi => ?_) hyes
  have hi := List.mem_range.mp hi
  have e := List.getElem?_eq_getElem hi
  obtain ⟨w1, w2⟩ := hL _ (List.getElem_mem hi)
  have g1 := gIx_pt e m
  have g2 := gIx_nm e m
  have hk := kids_ok n L[i] w1 m
  have hp := nmd_pl6 w1 w2
  have hf := hf_ok (n + 1) (nmd 0 L[i].2) (by omega) hp.1 (by omega) m
  rw [hf_nmd _ _ w1] at hf
  have hg := gNe_tnil (xs := (kd L[i]).map pD) m (nbL_iff.mpr fun x hx => by
      obtain ⟨q, hq, rfl⟩ := List.mem_map.mp hx
      have := kd_ok w1 hq
      exact (nb_pD this.2 (by omega)).1) (dpL_le.mpr fun x hx => by
      obtain ⟨q, hq, rfl⟩ := List.mem_map.mp hx
      have := kd_ok w1 hq
      have := (nb_pD this.2 (by omega)).2
      omega)
  rw [List.isEmpty_map] at hg
  have hab : abI L i = (!(kd L[i]).isEmpty && clo 0 L[i].2) := by unfold abI; rw [e]; rfl
  rw [hab]
  have v5 : ∀ d, (ρ.set 11 (some d))[5]? = some (some (.lst (L.map pD))) := fun d => by rw [List.getElem?_set_ne (by decide)]; exact h5
  have v8 : ∀ d, (ρ.set 11 (some d))[8]? = some (some (.lst (L.map fun q => nmd 0 q.2))) := fun d => by rw [List.getElem?_set_ne (by decide)]; exact h8
  have v11 : ∀ d, (ρ.set 11 (some d))[11]? = some (some d) := fun d => List.getElem?_set_self h11
  generalize (kd L[i]).isEmpty = b1 at *
  generalize clo 0 L[i].2 = b2 at *
  generalize (kd L[i]).map pD = kk at *
  generalize nmd 0 L[i].2 = nm at *
  generalize pD L[i] = qd at *
  generalize hNM : L.map (fun q => nmd 0 q.2) = NM at *
  generalize hPD : L.map pD = PD at *
  refine ⟨_, rfl, ?_, fun _ => ?_⟩
  · have v5 := v5 (.int (i : Int))
    have v8 := v8 (.int (i : Int))
    have v11 := v11 (.int (i : Int))
    generalize ρ.set 11 (some (.int (i : Int))) = ρ' at *
    cases b1 <;> simp -dsimp -implicitDefEqProofs [v5, v8, v11, g1, g2, hk, hf, hg]
  · have v11 := v11 (.int (i : Int))
    simp -dsimp -implicitDefEqProofs [v11]
end
end K56

set_option maxRecDepth 100000
namespace K56
open PySem PySem.Spec PyProof.Rows L2 FL

theorem fns22 : G.fns 230 22 = runDef 19 1 (G.b22 (G.fns 229)) := rfl
theorem fns11 : G.fns 229 11 = runDef 8 2 (bDraws (G.fns 228)) := rfl
theorem al_ok (d : D) (h : al d = true) (hd : dpD d < 229) (m : Me) : G.fns 229 14 [d, d] m = .ok (.bl true) m := alike_has (A := fun n => G.fns n 14) (fun n => rfl) 229 d h hd m
def IL (ns ds : List Int) (rest : List D) (ρ : En) (m' : Me) : Prop := ∃ x2 x3 x4 x5 x6 x7 x8 x9 x10 x11 x12 x13 x14 x15 x16 x17 x18 : Option D, ρ = [some (.scr ns), some (.ref 0), x2, x3, x4, x5, x6, x7, x8, x9, x10, x11, x12, x13, x14, x15, x16, x17, x18] ∧ Wt 0 ds [] m'
theorem pc_flat (s : Nat) : FlatM [PC s] := FlatM.one fun n => by simp [PC, cloC, cloK, cloP, FL.clo]
theorem ex0 : ExOk [] := ⟨by simp, by simp, fun _ => rfl⟩
theorem app_set {m : Me} {c c' : Cell} : (m ++ [c]).set m.length c' = m ++ [c'] := by simp
theorem app_get {m : Me} {c : Cell} : (m ++ [c])[m.length]? = some c := by simp
mutual
theorem num_cnt : ∀ (e : Tr) (s : Nat), cnt (num s e) = cnt e
  | .back _ _, _ => rfl
  | .lf _ _, _ => rfl
  | .fn _ n e, s => by simp only [num, cnt, num_cnt e]
  | .lt _ n es e, s => by simp only [num, cnt, num_cnt e, numL_cnt es]
  | .iff es, s => by simp only [num, cnt, numL_cnt es]
  | .call e es, s => by simp only [num, cnt, num_cnt e, numL_cnt es]
theorem numL_cnt : ∀ (es : List Tr) (s : Nat), cnts (numL s es) = cnts es
  | [], _ => rfl
  | e :: es, s => by simp only [numL, cnts, num_cnt e, numL_cnt es]
end
/-- the drawn form -/
structure TOk (t : Tr) : Prop where
  w : wf t = true
  s : sco [] t = true
  d : t.dp ≤ 4
  c : cnt t ≤ 60
theorem TOk.one {t : Tr} (h1 : wf t = true) (h2 : sco [] t = true) (h3 : t.dp ≤ 3) : TOk t := ⟨h1, h2, by omega, by
  have := cnt3_le t h1
  have h : 3 ^ t.dp ≤ 3 ^ 3 := Nat.pow_le_pow_right (by omega) h3
  omega⟩
theorem TOk.two {t u : Tr} (h1 : wf t = true) (h2 : sco [] t = true) (h3 : t.dp ≤ 3) (g1 : wf u = true) (g2 : sco [] u = true) (g3 : u.dp ≤ 2) : TOk (.call t [u, t]) := ⟨by simp [wf, wfs, h1, g1], by simp [sco, scos, h2, g2], by simp only [Tr.dp, Tr.dps]; omega, by
  have a1 := cnt3_le t h1
  have a2 := cnt3_le u g1
  have a3 : 3 ^ t.dp ≤ 3 ^ 3 := Nat.pow_le_pow_right (by omega) h3
  have a4 : 3 ^ u.dp ≤ 3 ^ 2 := Nat.pow_le_pow_right (by omega) g3
  simp only [cnt, cnts]; omega⟩
theorem kc_flat {L : List Pt} {P : List Int} {f : Int → Int} (c : Cell) (hc : c = .dK (tK P f) ∨ c = .dL (tK P f)) : FlatM [.dK (kF L), c] := fun x hx n => by
  rcases List.mem_cons.mp hx with rfl | hx
  · exact (kF_ki L).clo n
  · rw [List.mem_singleton.mp hx]
    rcases hc with rfl | rfl
    · exact tK_clo _ _ _
    · exact tK_clo _ _ _
theorem holds (ns : List Int) (h : ns.length ≤ 63) : ∃ m', G.fns 230 22 [.scr ns] [] = .ok (.bl true) m' := by
  obtain ⟨ds, e1⟩ := draws_ok (G.fns 228) h (many := 700) (by decide) (by decide) []
  rw [← fns11] at e1
  suffices H : RHas (OkR fun d _ => d = .bl true) (G.fns 230 22 [.scr ns] []) by
    obtain ⟨d, m, e, rfl⟩ := H.ex; exact ⟨m, e⟩
  rw [fns22]
  refine has_def' [some (.scr ns), none, none, none, none, none, none, none, none, none, none, none, none, none, none, none, none, none, none] ?_
  unfold G.b22
  have ai : ∀ (i : Int) m, G.fns 229 14 [.int i, .int i] m = .ok (.bl true) m := fun i m => al_ok (.int i) rfl (by simp [dpD]) m
  have an : ∀ m, G.fns 229 14 [.non, .non] m = .ok (.bl true) m := fun m => al_ok .non rfl (by simp [dpD]) m
  simp -dsimp -implicitDefEqProofs [e1, keyD, setK]
  refine for_has (IL ns ds) ?step ?done ⟨none, none, none, none, none, none, none, none, none, none, none, none, none, none, none, none, none, rfl, ⟨0, Int.le_refl _, rfl⟩, FlatM.one fun n => clo_wx ex0 n, ex0⟩
  case done =>
    rintro ρ m ⟨x2, x3, x4, x5, x6, x7, x8, x9, x10, x11, x12, x13, x14, x15, x16, x17, x18, rfl, W⟩
    refine ⟨rfl, ?_⟩
    have hw : wf (.lf "num" [.int 1]) = true := by simp [wf, lfW, nbL, nb, dpL, dpD, alL, al, hfs, hf]
    have hr := refs_ok 10 216 ([], .lf "num" [.int 1]) m hw (by simp [Tr.dp]) (by simp [Tr.dp])
    have hm := most_ok (n := 228) (P := plc (sub 10 ([], .lf "num" [.int 1]))) (f := cntR (sub 10 ([], .lf "num" [.int 1]))) (m := m) (by decide) hr
    have hp : pD ([], .lf "num" [.int 1]) = .tup [.str (Str.ofString "num"), .int 1] := rfl
    have hmr : mrD (plc (sub 10 ([], .lf "num" [.int 1]))) (cntR (sub 10 ([], .lf "num" [.int 1]))) = .non := rfl
    rw [hp, hmr] at hm
    have hm : G.fns 229 9 [.tup [.str (Str.ofString "num"), .int 1]] m = .ok .non m := hm
    simp -dsimp -implicitDefEqProofs [hm, an]
    rw [leave_pl W.f (Nat.zero_le _) fun n => rfl]
    exact ⟨_, _, rfl, rfl⟩
  case step =>
    rintro d r ρ m ⟨x2, x3, x4, x5, x6, x7, x8, x9, x10, x11, x12, x13, x14, x15, x16, x17, x18, rfl, W⟩
    refine ⟨rfl, _, rfl, ?_⟩
    generalize hQ0 : (kL _ _ : Fl → Prop) = Q0
    simp -dsimp -implicitDefEqProofs [-sIf_h, -sIf_e]
    refine (form_ok 228 3 [] m (by decide) (by decide) (by simp) W).ok fun d1 m1 ⟨⟨t, hd, t1, t2, t3⟩, v1⟩ => ?_
    subst hd
    have W1 := W.ev v1
    simp -dsimp -implicitDefEqProofs [-sIf_h, -sIf_e]
    refine FHas.mono (Q := fun r => ∃ T m2, r = .nx [some (.scr ns), some (.ref 0), some d, some (eB T), x4, x5, x6, x7, x8, x9, x10, x11, x12, x13, x14, x15, x16, x17, x18] m2 ∧ TOk T ∧ Wt 0 ds [] m2) ?_ (fun r ⟨T, m2, e, oT, W2⟩ => ?_)
    · simp -dsimp -implicitDefEqProofs
      refine (next_has W1 (fns12 228) (by decide)).ok fun d2 m2 ⟨s, hs, hd, v2⟩ => ?_
      subst hd
      have W2 := W1.ev v2
      by_cases h0 : s = 0
      · subst h0
        simp -dsimp -implicitDefEqProofs
        refine (form_ok 228 2 [] m2 (by decide) (by decide) (by simp) W2).ok fun d3 m3 q => ?_
        obtain ⟨⟨u, hd, u1, u2, u3⟩, v3⟩ := q
        subst hd
        simp -dsimp -implicitDefEqProofs
        exact ⟨.call t [u, t], m3, ⟨rfl, rfl⟩, TOk.two t1 t2 t3 u1 u2 u3, W2.ev v3⟩
      · simp -dsimp -implicitDefEqProofs [h0]
        exact ⟨t, m2, ⟨rfl, rfl⟩, TOk.one t1 t2 t3, W2⟩
    subst e
    clear W1 v1 t1 t2 t3 W
    simp -dsimp -implicitDefEqProofs [keyD]
    refine (next_has W2 (fns12 228) (by decide)).ok fun d3 m3 ⟨s, hs, hd, v3⟩ => ?_
    subst hd
    have W3 := W2.ev v3
    have hPC : Cell.dK (setK [] (.inr ("next" : Str)) (.int (s : Int))) = PC s := by simp [setK, PC]
    have hcore : G.fns 229 16 [eB T, .lst [], .ref m3.length] (m3 ++ [PC s]) = .ok (cor [] (num s T)) (m3 ++ [PC (s + cnt T)]) := by
      have := core_ok 228 T [] s m3.length (m3 ++ [PC s]) (by have := oT.d; omega) oT.w oT.s (by have := oT.d; simp; omega) (by have := oT.c; omega) app_get
      rw [app_set] at this; exact this
    obtain ⟨u, hu⟩ : ∃ u, num s T = u := ⟨_, rfl⟩
    have uw : wf u = true := by rw [← hu, num_wf]; exact oT.w
    have ug : good [] u = true := by rw [← hu]; exact num_good T [] s oT.s (fun p hp => nomatch hp)
    have ud : u.dp ≤ 4 := by rw [← hu, num_dp]; exact oT.d
    have uc : Pk s (s + 60) ([], u) := ⟨uw, ug, List.Pairwise.nil, by rw [← hu]; exact num_rg T s (Nat.le_refl _) (by have := oT.c; omega), fun q hq => (nomatch hq), by simp; omega⟩
    have ucnt : (plc (sub 10 ([], u))).length ≤ 60 := by
      -- as many places as the form's
      have h1 := plc_len 10 ([], u)
      have h2 : cnt u = cnt T := by rw [← hu]; exact num_cnt T s
      have := oT.c
      simp only at h1
      omega
    rw [hu] at hcore
    have hP : pD ([], u) = cor [] u := rfl
    have W4 := W3.app (pc_flat (s + cnt T))
    simp -dsimp -implicitDefEqProofs [hPC, hcore]
    generalize m3 ++ [PC (s + cnt T)] = M at *
    have hsub := Pk.sub 10 ([], u) uc
    have hLw : ∀ q ∈ sub 10 ([], u), wf q.2 = true ∧ q.2.dp ≤ 4 := fun q hq => by
      have := sub_wf 10 ([], u) uw q hq
      simp only at this
      exact ⟨this.1, by omega⟩
    have hlen : (sub 10 ([], u)).length ≤ 121 := by
      have := sub_len3 10 4 ([], u) uw ud
      have e : 3 ^ (4 + 1) = 243 := by decide
      omega
    have hAok : Aok 10 (sub 10 ([], u)) := ⟨by omega, fun q hq => by
      have h1 := hsub q hq
      obtain ⟨h2, h3⟩ := hLw q hq
      exact ⟨h2, h1.g, h1.c, by omega, open_ok (by omega) 10 q h1 (by omega)⟩⟩
    have hev := fun m => every_ok 10 218 ([], u) m uw (by simp; omega) (by simp; omega)
    have hkin := fun m => kinds_ok 10 217 ([], u) m uw (by simp; omega) (by simp; omega)
    have href := fun m => refs_ok 10 217 ([], u) m uw (by simp; omega) (by simp; omega)
    have href1 := fun m => refs_ok 10 216 ([], u) m uw (by simp; omega) (by simp; omega)
    have hdeep := fun m => deep_ok 10 218 ([], u) m uw (by simp; omega)
    have hldeep := fun m => ldeep_ok 10 218 ([], u) m uw (by simp; omega)
    have hall := fun m => all_ok 10 217 ([], u) m uw (by simp; omega) (by simp; omega)
    have halk := fun m => alike_ok (n := 228) hall (by omega) hAok m
    have hnam : ∀ q ∈ sub 10 ([], u), ∀ m, G.fns 229 20 [pD q, .lst []] m = .ok (nmd 0 q.2) m := fun q hq m => by
      have h1 := hsub q hq
      obtain ⟨h2, h3⟩ := hLw q hq
      exact named_ok 228 q.2 [] q.1 (by omega) h2 h1.g h1.c (by simp; omega) m
    have hLw6 : ∀ q ∈ sub 10 ([], u), wf q.2 = true ∧ q.2.dp ≤ 6 := fun q hq => by
      obtain ⟨h2, h3⟩ := hLw q hq
      exact ⟨h2, by omega⟩
    have hSK := SI.k (kF_ki (sub 10 ([], u))) (by omega)
    have hST := SI.t (P := plc (sub 10 ([], u))) (f := cntR (sub 10 ([], u))) (by omega)
    have hbest := bestL_ok (plc (sub 10 ([], u))) (cntR (sub 10 ([], u)))
    have hmost := fun m => most_ok (n := 228) (P := plc (sub 10 ([], u))) (f := cntR (sub 10 ([], u))) (m := m) (by omega) (href1 m)
    have hprs := prs_len (rI (sub 10 ([], u))) (able (sub 10 ([], u)))
    have hable := able_len (sub 10 ([], u))
    simp only [hP] at hev hkin href hdeep hldeep halk hmost
    have hev : ∀ m, G.fns 229 18 [cor [] u] m = .ok (.lst ((sub 10 ([], u)).map pD)) m := hev
    have hkin : ∀ m, G.fns 229 6 [cor [] u] m = .ok (.dct (kF (sub 10 ([], u)))) m := hkin
    have href : ∀ m, G.fns 229 8 [cor [] u] m = .ok (.dct (tK (plc (sub 10 ([], u))) (cntR (sub 10 ([], u))))) m := href
    have hdeep : ∀ m, G.fns 229 7 [cor [] u] m = .ok (.int ((u.dp + 1 : Nat) : Int)) m := hdeep
    have hldeep : ∀ m, G.fns 229 19 [cor [] u] m = .ok (.int ((u.dp + 1 : Nat) : Int)) m := hldeep
    have halk : ∀ m, G.fns 229 10 [cor [] u] m = .ok (.tup ((prs (rI (sub 10 ([], u))) (able (sub 10 ([], u)))).map prD)) m := halk
    have hmost : ∀ m, G.fns 229 9 [cor [] u] m = .ok (mrD (plc (sub 10 ([], u))) (cntR (sub 10 ([], u)))) m := hmost
    clear hall href1 hAok uc hsub hLw
    generalize sub 10 ([], u) = L at *
    generalize cor [] u = CU at *
    generalize ((u.dp + 1 : Nat) : Int) = du at *
    have aK := al_ok _ hSK.a (by have := hSK.d; omega)
    have aT := al_ok _ hST.a (by have := hST.d; omega)
    have aP := al_ok (.tup ((prs (rI L) (able L)).map prD)) (by
      simp only [al, Bool.and_eq_true, decide_eq_true_eq, List.length_map]
      have : (able L).length * (able L).length ≤ 121 * 121 := Nat.mul_le_mul (by omega) (by omega)
      exact ⟨alL_iff.mpr fun x hx => by obtain ⟨y, _, rfl⟩ := List.mem_map.mp hx; rfl, by omega⟩) (by
      have : dpL ((prs (rI L) (able L)).map prD) ≤ 3 := dpL_le.mpr fun x hx => by obtain ⟨y, _, rfl⟩ := List.mem_map.mp hx; simp [prD, dpD, dpL]
      simp only [dpD]; omega)
    simp -dsimp -implicitDefEqProofs [hev]
    refine kr_loop hLw6 (by omega) fun x6 x14 => ?_
    have hKe : view (M ++ [.dK (kF L), .dK (tK (plc L) (cntR L))]) (.dct (kF L)) = .dct (kF L) := rfl
    have hKr : view (M ++ [.dK (kF L), .dK (tK (plc L) (cntR L))]) (.ref M.length) = .dct (kF L) := view_ref_dK two0
    have hTe : view (M ++ [.dK (kF L), .dK (tK (plc L) (cntR L))]) (.dct (tK (plc L) (cntR L))) = .dct (tK (plc L) (cntR L)) := rfl
    have hTr : view (M ++ [.dK (kF L), .dK (tK (plc L) (cntR L))]) (.ref (M.length + 1)) = .dct (tK (plc L) (cntR L)) := view_ref_dK two1
    have s1 := hSK.s _ _ hKe
    have s2 := hSK.s _ _ hKr
    have s3 := hST.s _ _ hTe
    have s4 := hST.s _ _ hTr
    have s5 := sortDI_ok (by omega) hTr
    have hfl := fun c hc => W4.app (kc_flat (L := L) (P := plc L) (f := cntR L) c hc)
    have hbc := fun (Q : Res (List D) → Prop) a0 a1 a2 a3 a4 a5 a6 a7 a8 a9 a10 a11 a12 a15 a16 a17 a18 hy => best_comp (P := plc L) (f := cntR L) (m := M) (c := .dK (kF L)) (Q := Q) (a0 := a0) (a1 := a1) (a2 := a2) (a3 := a3) (a4 := a4) (a5 := a5) (a6 := a6) (a7 := a7) (a8 := a8) (a9 := a9) (a10 := a10) (a11 := a11) (a12 := a12) (a15 := a15) (a16 := a16) (a17 := a17) (a18 := a18) (by omega) hy
    generalize ((kF L).map prrD).mergeSort leD = SK at *
    generalize ((tK (plc L) (cntR L)).map prrD).mergeSort leD = ST at *
    generalize hMM : M ++ [.dK (kF L), .dK (tK (plc L) (cntR L))] = MM at *
    simp -dsimp -implicitDefEqProofs [hkin, href, isi_dct, s1, s2, s3, s4, s5, gTup_x, aK, aT, hdeep, hldeep, ai]
    refine hbc _ _ _ _ _ _ _ _ _ _ _ _ _ _ _ _ _ _ fun m' hm' => ?_
    have W5 : Wt 0 ds [] m' := by
      rcases hm' with rfl | rfl
      · rw [← hMM]; exact hfl _ (.inl rfl)
      · exact hfl _ (.inr rfl)
    clear hbc s1 s2 s3 s4 s5 hfl hm' hKe hKr hTe hTr hkin href W4
    have hmr : ∀ m, G.fns 229 14 [mrD (plc L) (cntR L), match (bestL (plc L) (cntR L)).map D.int with | [] => .non | b :: _ => b] m = .ok (.bl true) m := fun m => by
      rcases hbest with ⟨h1, h2⟩ | ⟨b, r, h1, h2⟩
      · rw [h2, h1]; exact an m
      · rw [h1, h2]; exact ai b m
    have hgn := gNe_lnil (xs := (bestL (plc L) (cntR L)).map D.int) m' (nbL_iff.mpr fun x hx => by obtain ⟨y, _, rfl⟩ := List.mem_map.mp hx; rfl) (dpL_le.mpr fun x hx => by obtain ⟨y, _, rfl⟩ := List.mem_map.mp hx; simp [dpD])
    generalize (bestL (plc L) (cntR L)).map D.int = BL at *
    generalize mrD (plc L) (cntR L) = MR at *
    have hll : (L.length : Int) ≤ 1000000 ∧ (-1000000 : Int) ≤ L.length := by omega
    have hmr' := hmr m'
    simp -dsimp -implicitDefEqProofs [hmost, -mIf_h, -mIf_e]
    refine RHas.ok (P := fun d m'' => m'' = m' ∧ G.fns 229 14 [MR, d] m' = .ok (.bl true) m') ?_ fun d m'' ⟨hm, hd⟩ => ?_
    · cases BL with
      | nil => simp -dsimp -implicitDefEqProofs [hgn]; exact ⟨_, _, rfl, rfl, hmr'⟩
      | cons b r => simp -dsimp -implicitDefEqProofs [hgn]; exact ⟨_, _, rfl, rfl, hmr'⟩
    subst hm
    simp -dsimp -implicitDefEqProofs [hd]
    refine comp_all (fun q => nmd 0 q.2) (fun q hq => ?_) ?_
    · have := hnam q hq m''
      generalize pD q = qd at *
      generalize nmd 0 q.2 = nd at *
      exact ⟨_, rfl, rfl, by simp -dsimp -implicitDefEqProofs [this]⟩
    simp -dsimp -implicitDefEqProofs [hll]
    refine able_comp hLw6 (by decide) rfl rfl (by simp) ?_
    simp -dsimp -implicitDefEqProofs
    refine pairs_loop hLw6 (by omega) fun x11 x17 => ?_
    simp -dsimp -implicitDefEqProofs [halk, gTup_x, aP]
    subst Q0
    exact ⟨_, _, _, _, _, _, _, _, _, _, _, _, _, _, _, _, _, rfl, W5⟩
end K56
theorem Law.holds (ns : List Int) (h : ns.length ≤ 63) : ∃ m', G.fns 230 22 [.scr ns] [] = .ok (.bl true) m' := K56.holds ns h

open PySem PySem.W PyProof.Rows
set_option maxRecDepth 100000 in
set_option maxHeartbeats 0 in
theorem PySem.Challenge.cw_namestay_k56_what_stands_in_cores_holds : PySem.Challenge.rw_namestay_k56_what_stands_in_cores.Holds := by
  w_on; o_law; k_head; (case hw => w_witness2)
  k_fill
  refine FL.walk_fn (l := PySem.Challenge.rw_namestay_k56_what_stands_in_cores) (x := "script") (F0 := G.fns 230 22) rfl rfl (fun w h Y => PySem.W.kIn_of Y) ?F ?L
  case L => exact fun ns h => Law.holds ns h
  case F =>
    intro w mg fa h KX GN hmg
    refine' G.all_mk KX GN hmg ?A0 ?l0 ?c0 ?k0 ?A1 ?l1 ?c1 ?k1 ?A2 ?l2 ?c2 ?k2 ?A3 ?l3 ?c3 ?k3 ?A4 ?l4 ?c4 ?k4 ?A5 ?l5 ?c5 ?k5 ?A6 ?l6 ?c6 ?k6 ?A7 ?l7 ?c7 ?k7 ?A8 ?l8 ?c8 ?k8 ?A9 ?l9 ?c9 ?k9 ?A10 ?l10 ?c10 ?k10 ?A11 ?l11 ?c11 ?k11 ?A12 ?l12 ?c12 ?k12 ?A13 ?l13 ?c13 ?k13 ?A14 ?l14 ?c14 ?k14 ?A15 ?l15 ?c15 ?k15 ?A16 ?l16 ?c16 ?k16 ?A17 ?l17 ?c17 ?k17 ?A18 ?l18 ?c18 ?k18 ?A19 ?l19 ?c19 ?k19 ?A20 ?l20 ?c20 ?k20 ?A21 ?l21 ?c21 ?k21 ?A22 ?l22 ?c22 ?k22 ?z_list ?z_tuple ?z_sorted ?z_set ?z_len ?z_range ?z_max ?z_min ?z_int ?z_abs ?z_isinstance ?z_str ?z_bool ?z_dict
    (case A0 => k_is)
    (case l0 => k_is)
    (case c0 => k_is)
    (case k0 => k_is)
    (case A1 => k_is)
    (case l1 => k_is)
    (case c1 => k_is)
    (case k1 => k_is)
    (case A2 => k_is)
    (case l2 => k_is)
    (case c2 => k_is)
    (case k2 => k_is)
    (case A3 => k_is)
    (case l3 => k_is)
    (case c3 => k_is)
    (case k3 => k_is)
    (case A4 => k_is)
    (case l4 => k_is)
    (case c4 => k_is)
    (case k4 => k_is)
    (case A5 => k_is)
    (case l5 => k_is)
    (case c5 => k_is)
    (case k5 => k_is)
    (case A6 => k_is)
    (case l6 => k_is)
    (case c6 => k_is)
    (case k6 => k_is)
    (case A7 => k_is)
    (case l7 => k_is)
    (case c7 => k_is)
    (case k7 => k_is)
    (case A8 => k_is)
    (case l8 => k_is)
    (case c8 => k_is)
    (case k8 => k_is)
    (case A9 => k_is)
    (case l9 => k_is)
    (case c9 => k_is)
    (case k9 => k_is)
    (case A10 => k_is)
    (case l10 => k_is)
    (case c10 => k_is)
    (case k10 => k_is)
    (case A11 => k_is)
    (case l11 => k_is)
    (case c11 => k_is)
    (case k11 => k_is)
    (case A12 => k_is)
    (case l12 => k_is)
    (case c12 => k_is)
    (case k12 => k_is)
    (case A13 => k_is)
    (case l13 => k_is)
    (case c13 => k_is)
    (case k13 => k_is)
    (case A14 => k_is)
    (case l14 => k_is)
    (case c14 => k_is)
    (case k14 => k_is)
    (case A15 => k_is)
    (case l15 => k_is)
    (case c15 => k_is)
    (case k15 => k_is)
    (case A16 => k_is)
    (case l16 => k_is)
    (case c16 => k_is)
    (case k16 => k_is)
    (case A17 => k_is)
    (case l17 => k_is)
    (case c17 => k_is)
    (case k17 => k_is)
    (case A18 => k_is)
    (case l18 => k_is)
    (case c18 => k_is)
    (case k18 => k_is)
    (case A19 => k_is)
    (case l19 => k_is)
    (case c19 => k_is)
    (case k19 => k_is)
    (case A20 => k_is)
    (case l20 => k_is)
    (case c20 => k_is)
    (case k20 => k_is)
    (case A21 => k_is)
    (case l21 => k_is)
    (case c21 => k_is)
    (case k21 => k_is)
    (case A22 => k_is)
    (case l22 => k_is)
    (case c22 => k_is)
    (case k22 => k_is)
    (case z_list => k_is)
    (case z_tuple => k_is)
    (case z_sorted => k_is)
    (case z_set => k_is)
    (case z_len => k_is)
    (case z_range => k_is)
    (case z_max => k_is)
    (case z_min => k_is)
    (case z_int => k_is)
    (case z_abs => k_is)
    (case z_isinstance => k_is)
    (case z_str => k_is)
    (case z_bool => k_is)
    (case z_dict => k_is)
