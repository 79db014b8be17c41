import PyProof.Rows.All
import Wide.All
import OpenK.AllK
import Wide.FinOn
import HandS.ForMost
import HandS.Wide
import HandS.EndBits
import HandS.IsInst
import HandS.Exc
import HandS.TryOnly
import HandS.ExcOwn
import HandS.TupAny
import HandS.More
import HandS.Remove
import HandS.Set
import HandS.SetFor
import HandS.Strs
import KE.SortData
import HandS.Conv
import PyProof.MaxThree
import KE.GoesMore
import HandS.DictTup
import HandS.ListItems
import HandS.SetKeys
import HandS.TupSets
import HandS.Sort
import HandS.TupMul
import HandS.Iter
import HandS.CallLocal
import HandS.SortOrd
import KE.DataMinMax
import HandS.ExcInit
import HandS.ExcField
import HandS.ExcIs
import HandS.WordsExc
import HandS.CallSlots
import KE.KExcIs
import HandS.TupLe
import HandS.Text
import HandS.RaiseMore
import HandS.Style
import PySem.Challenge.RW_namestay_k53_sums_in_signs
set_option Elab.async false
set_option linter.all false
set_option maxRecDepth 100000
set_option maxRecDepth 100000
/-! FL: a functional layer over the hand layer: what code computes, as a Lean function over plain data and a plain store. -/
namespace FL
open PySem L2

/-- plain data; ref i: the i-th thing of the store -/
inductive D where
  | non | bl (b : Bool) | int (i : Int) | str (x : Str)
  | tup (xs : List D) | lst (xs : List D) | dct (kvs : List (Key × D)) | ref (i : Nat)
  | scr (ns : List Int)
  /-- the def of that name -/
  | fn (x : Str)

/-- a thing of the store, which may change -/
inductive Cell where
  | lst (xs : List D) | dK (kvs : List (Key × D)) | dT (kvs : List (List Key × D)) | ins (C : Addr) (fs : List (Str × D))
  /-- a dict that is only read from now on -/
  | dL (kvs : List (Key × D))

abbrev Me := List Cell
abbrev En := List (Option D)

/-- where the store's things lie (l), and addresses that no value has (h) -/
structure Mu where
  l : List Addr
  h : List Addr
def Mu.add (μ : Mu) (p : Addr) : Mu := ⟨μ.l ++ [p], μ.h⟩

/-- what may be shared as a value -/
def IsDat : HO → Prop
  | .lst _ => True
  | .tup _ => True
  | _ => False
/-- how a dict that stood as a value stands later: as it was, or locked for good -/
def Dk (h : List Addr) (H' : Hp) (a : Addr) (kvs : List (Key × V)) : Prop := H' a = some (.dK kvs) ∨ (a ∉ h ∧ ∃ o, H' a = some (.frz o (.dK kvs)))
/-- what a thing of the store is -/
def MutL : HO → Prop
  | .frz _ (.dK _) => True
  | u => Mut (some u)

/-- a plain object: no dict on it, no slots -/
def PlO (o : Obj) : Prop := o.dict = none ∧ o.slots = #[]
/-- a tuple on which no dict hangs -/
def TupN (K : PySem.W.Frag) (H : Hp) (a : Addr) (xs : List V) : Prop := (∃ o : Obj, H a = some (.frz o (.tup xs)) ∧ PlO o) ∨
  ∃ (o : Obj) (its : Array Value) (n : Nat), K.lookup a = some o ∧ o.cls = .type "tuple" ∧ o.data = .seq its n ∧ its.size ≤ sizeLine ∧ Vals xs its.toList ∧ PlO o
theorem TupN.sq {K : PySem.W.Frag} {H : Hp} {a : Addr} {xs : List V} (h : TupN K H a xs) : SqT K H a xs := by
  rcases h with ⟨o, h, _⟩ | ⟨o, its, n, h1, h2, h3, h4, h5, _⟩
  · exact .inl (.inr ⟨o, h⟩)
  · exact .inr ⟨o, its, n, h1, h2, h3, h4, h5⟩
section
variable (K : PySem.W.Frag) (H : Hp) (μ : Mu)
mutual
def RV : D → V → Prop
  | .non, v => v = .non
  | .bl b, v => v = .bl b
  | .int i, v => v = .int i
  | .str x, v => v = .str x
  | .tup ds, v => ∃ a vs, v = .ref a ∧ TupN K H a vs ∧ vs.length ≤ sizeLine ∧ RVs ds vs
  | .lst ds, v => ∃ a vs, v = .ref a ∧ (a ∉ μ.l ∧ a ∉ μ.h) ∧ H a = some (.lst vs) ∧ vs.length ≤ sizeLine ∧ RVs ds vs
  | .dct kvs, v => ∃ a ps, v = .ref a ∧ (a ∉ μ.l ∧ a ∉ μ.h) ∧ Rd H a (.dK ps) ∧ RVk kvs ps
  | .ref i, v => ∃ a, v = .ref a ∧ μ.l[i]? = some a
  | .fn x, v => ∃ a, v = .ref a ∧ PySem.W.nsIn K mainGlobals x = some (some (Value.ref a))
  | .scr ns, v => ∃ a, v = .ref a ∧ (((a ∉ μ.l ∧ a ∉ μ.h) ∧ Rd H a (.lst (ns.map V.int))) ∨ SqL K (fun _ => none) a (ns.map V.int))
def RVs : List D → List V → Prop
  | [], vs => vs = []
  | d :: ds, vs => ∃ v r, vs = v :: r ∧ RV d v ∧ RVs ds r
def RVk : List (Key × D) → List (Key × V) → Prop
  | [], ps => ps = []
  | p :: r, ps => ∃ v q, ps = (p.1, v) :: q ∧ RVp p v ∧ RVk r q
def RVp : Key × D → V → Prop
  | (_, d), v => RV d v
end
def RC : Cell → Addr → Prop
  | .lst ds, a => ∃ vs, H a = some (.lst vs) ∧ vs.length ≤ sizeLine ∧ RVs K H μ ds vs
  | .dK kvs, a => ∃ ps, H a = some (.dK ps) ∧ RVk K H μ kvs ps
  | .dT kvs, a => ∃ ps, H a = some (.dT ps) ∧ Paired (fun (p : List Key × D) (q : List Key × V) => p.1 = q.1 ∧ RV K H μ p.2 q.2) kvs ps
  | .ins C fs, a => ∃ dx fs', H a = some (.ins C dx fs') ∧ Paired (fun (p : Str × D) (q : Str × V) => p.1 = q.1 ∧ RV K H μ p.2 q.2) fs fs'
  | .dL kvs, a => ∃ ps o, H a = some (.frz o (.dK ps)) ∧ RVk K H μ kvs ps
/-- the heap holds the store -/
structure RH (m : Me) : Prop where
  len : μ.l.length = m.length
  nd : μ.l.Nodup
  at' : ∀ (i : Nat) (c : Cell), m[i]? = some c → ∃ a, μ.l[i]? = some a ∧ RC K H μ c a
  hid : ∀ a, a ∈ μ.h → H a ≠ none
  sep : ∀ a, a ∈ μ.l → a ∉ μ.h
/-- the slots hold the names' values -/
def RS (ρ : En) (σ : St) : Prop := ρ.length = σ.length ∧ ∀ (i : Nat) (d : D), ρ[i]? = some (some d) → ∃ v, σ[i]? = some (some v) ∧ RV K H μ d v
end

/-- the heap went on: what stood as a value stands -/
structure Ext (K : PySem.W.Frag) (H : Hp) (μ : Mu) (H' : Hp) (μ' : Mu) : Prop where
  pre : ∃ l, μ'.l = μ.l ++ l
  hid : μ'.h = μ.h
  tup : ∀ a xs, TupN K H a xs → TupN K H' a xs
  dat : ∀ a u, a ∉ μ.l → IsDat u → H a = some u → H' a = some u ∧ a ∉ μ'.l
  frz : ∀ a o u, a ∉ μ.l → H a = some (.frz o u) → H' a = some (.frz o u) ∧ a ∉ μ'.l
  dct : ∀ a kvs, a ∉ μ.l → H a = some (.dK kvs) → Dk μ.h H' a kvs ∧ a ∉ μ'.l
  fz : ∀ a o u, H a = some (.frz o u) → H' a = some (.frz o u)
  xd : ∀ a fs, H a = some (.xd fs) → H' a = some (.xd fs)

section
variable {K : PySem.W.Frag} {H H' H'' : Hp} {μ μ' μ'' : Mu}
theorem Ext.refl : Ext K H μ H μ := ⟨⟨[], by simp⟩, rfl, fun _ _ h => h, fun _ _ n _ h => ⟨h, n⟩, fun _ _ _ n h => ⟨h, n⟩, fun _ _ n h => ⟨.inl h, n⟩, fun _ _ _ h => h, fun _ _ h => h⟩
theorem Ext.trans (a : Ext K H μ H' μ') (b : Ext K H' μ' H'' μ'') : Ext K H μ H'' μ'' := by
  refine ⟨?_, b.hid.trans a.hid, fun x xs h => b.tup x xs (a.tup x xs h), fun x u n d h => ?_, fun x o u n h => ?_, fun x kvs n h => ?_, fun x o u h => b.fz x o u (a.fz x o u h), fun x fs h => b.xd x fs (a.xd x fs h)⟩
  · obtain ⟨l, e⟩ := a.pre
    obtain ⟨l', e'⟩ := b.pre
    exact ⟨l ++ l', by rw [e', e]; simp⟩
  · obtain ⟨h1, n1⟩ := a.dat x u n d h
    exact b.dat x u n1 d h1
  · obtain ⟨h1, n1⟩ := a.frz x o u n h
    exact b.frz x o u n1 h1
  · obtain ⟨h1 | ⟨nh, o, h1⟩, n1⟩ := a.dct x kvs n h
    · obtain ⟨h2, n2⟩ := b.dct x kvs n1 h1
      rw [a.hid] at h2
      exact ⟨h2, n2⟩
    · obtain ⟨h2, n2⟩ := b.frz x o _ n1 h1
      exact ⟨.inr ⟨nh, o, h2⟩, n2⟩
theorem Ext.get (e : Ext K H μ H' μ') {i : Nat} {a : Addr} (h : μ.l[i]? = some a) : μ'.l[i]? = some a := by
  obtain ⟨l, e⟩ := e.pre
  rw [e, List.getElem?_append_left (List.getElem?_eq_some_iff.mp h).1]; exact h
theorem Ext.rd (e : Ext K H μ H' μ') {a : Addr} (n : a ∉ μ.l ∧ a ∉ μ.h) {u : HO} (d : IsDat u) (h : Rd H a u) : Rd H' a u ∧ (a ∉ μ'.l ∧ a ∉ μ'.h) := by
  rcases h with h | ⟨o, h⟩
  · obtain ⟨h1, n1⟩ := e.dat a u n.1 d h
    exact ⟨.inl h1, n1, by rw [e.hid]; exact n.2⟩
  · obtain ⟨h1, n1⟩ := e.frz a o u n.1 h
    exact ⟨.inr ⟨o, h1⟩, n1, by rw [e.hid]; exact n.2⟩
theorem Dk.rd {h : List Addr} {a : Addr} {kvs : List (Key × V)} (q : Dk h H' a kvs) : Rd H' a (.dK kvs) := by
  rcases q with q | ⟨_, o, q⟩
  · exact .inl q
  · exact .inr ⟨o, q⟩
theorem Ext.rdK (e : Ext K H μ H' μ') {a : Addr} (n : a ∉ μ.l ∧ a ∉ μ.h) {kvs : List (Key × V)} (h : Rd H a (.dK kvs)) : Rd H' a (.dK kvs) ∧ (a ∉ μ'.l ∧ a ∉ μ'.h) := by
  rcases h with h | ⟨o, h⟩
  · obtain ⟨h1, n1⟩ := e.dct a kvs n.1 h
    exact ⟨h1.rd, n1, by rw [e.hid]; exact n.2⟩
  · obtain ⟨h1, n1⟩ := e.frz a o _ n.1 h
    exact ⟨.inr ⟨o, h1⟩, n1, by rw [e.hid]; exact n.2⟩
/-- what stood as a value stands, in another heap and beside other addresses -/
structure Tr (K : PySem.W.Frag) (H : Hp) (μ : Mu) (H' : Hp) (μ' : Mu) : Prop where
  get : ∀ (i : Nat) (a : Addr), μ.l[i]? = some a → μ'.l[i]? = some a
  tup : ∀ a xs, TupN K H a xs → TupN K H' a xs
  dat : ∀ a u, a ∉ μ.l ∧ a ∉ μ.h → IsDat u → H a = some u → H' a = some u ∧ (a ∉ μ'.l ∧ a ∉ μ'.h)
  frz : ∀ a o u, a ∉ μ.l ∧ a ∉ μ.h → H a = some (.frz o u) → H' a = some (.frz o u) ∧ (a ∉ μ'.l ∧ a ∉ μ'.h)
  dct : ∀ a kvs, a ∉ μ.l ∧ a ∉ μ.h → H a = some (.dK kvs) → Rd H' a (.dK kvs) ∧ (a ∉ μ'.l ∧ a ∉ μ'.h)
  fz : ∀ a o u, H a = some (.frz o u) → H' a = some (.frz o u)
theorem Tr.rdK (x : Tr K H μ H' μ') {a : Addr} {kvs : List (Key × V)} (n : a ∉ μ.l ∧ a ∉ μ.h) (h : Rd H a (.dK kvs)) : Rd H' a (.dK kvs) ∧ (a ∉ μ'.l ∧ a ∉ μ'.h) := by
  rcases h with h | ⟨o, h⟩
  · exact x.dct a kvs n h
  · obtain ⟨h1, n1⟩ := x.frz a o _ n h
    exact ⟨.inr ⟨o, h1⟩, n1⟩
theorem Tr.rd (x : Tr K H μ H' μ') {a : Addr} {u : HO} (n : a ∉ μ.l ∧ a ∉ μ.h) (d : IsDat u) (h : Rd H a u) : Rd H' a u ∧ (a ∉ μ'.l ∧ a ∉ μ'.h) := by
  rcases h with h | ⟨o, h⟩
  · obtain ⟨h1, n1⟩ := x.dat a u n d h
    exact ⟨.inl h1, n1⟩
  · obtain ⟨h1, n1⟩ := x.frz a o u n h
    exact ⟨.inr ⟨o, h1⟩, n1⟩
theorem Tr.trans (x : Tr K H μ H' μ') (y : Tr K H' μ' H'' μ'') : Tr K H μ H'' μ'' := ⟨fun i a h => y.get i a (x.get i a h), fun a xs h => y.tup a xs (x.tup a xs h), fun a u n d h =>
  let ⟨h1, n1⟩ := x.dat a u n d h
  y.dat a u n1 d h1, fun a o u n h =>
  let ⟨h1, n1⟩ := x.frz a o u n h
  y.frz a o u n1 h1, fun a kvs n h =>
  let ⟨h1, n1⟩ := x.dct a kvs n h
  y.rdK n1 h1, fun a o u h => y.fz a o u (x.fz a o u h)⟩
theorem Ext.tr (e : Ext K H μ H' μ') : Tr K H μ H' μ' := ⟨fun _ _ h => e.get h, e.tup, fun a u n d h => let ⟨h1, n1⟩ := e.dat a u n.1 d h; ⟨h1, n1, by rw [e.hid]; exact n.2⟩, fun a o u n h => let ⟨h1, n1⟩ := e.frz a o u n.1 h; ⟨h1, n1, by rw [e.hid]; exact n.2⟩, fun a kvs n h => e.rdK n (.inl h), e.fz⟩
mutual
theorem RV.map (e : Tr K H μ H' μ') : ∀ (d : D) (v : V), RV K H μ d v → RV K H' μ' d v
  | .non, _, h => by simpa [RV] using h
  | .bl _, _, h => by simpa [RV] using h
  | .int _, _, h => by simpa [RV] using h
  | .str _, _, h => by simpa [RV] using h
  | .tup ds, v, h => by
    simp only [RV] at h ⊢
    obtain ⟨a, vs, rfl, hs, hz, hr⟩ := h
    exact ⟨a, vs, rfl, e.tup a vs hs, hz, RVs.map e ds vs hr⟩
  | .lst ds, v, h => by
    simp only [RV] at h ⊢
    obtain ⟨a, vs, rfl, hn, hs, hz, hr⟩ := h
    obtain ⟨h1, n1⟩ := e.dat a (.lst vs) hn trivial hs
    exact ⟨a, vs, rfl, n1, h1, hz, RVs.map e ds vs hr⟩
  | .dct kvs, v, h => by
    simp only [RV] at h ⊢
    obtain ⟨a, vs, rfl, hn, hs, hr⟩ := h
    obtain ⟨h1, n1⟩ := e.rdK hn hs
    exact ⟨a, vs, rfl, n1, h1, RVk.map e kvs vs hr⟩
  | .ref i, v, h => by
    simp only [RV] at h ⊢
    obtain ⟨a, rfl, hs⟩ := h
    exact ⟨a, rfl, e.get i a hs⟩
  | .fn a, v, h => by simpa [RV] using h
  | .scr ns, v, h => by
    simp only [RV] at h ⊢
    obtain ⟨a, rfl, ⟨hn, hs⟩ | hs⟩ := h
    · obtain ⟨h1, n1⟩ := e.rd hn (u := .lst (ns.map V.int)) trivial hs
      exact ⟨a, rfl, .inl ⟨n1, h1⟩⟩
    · exact ⟨a, rfl, .inr hs⟩
theorem RVs.map (e : Tr K H μ H' μ') : ∀ (ds : List D) (vs : List V), RVs K H μ ds vs → RVs K H' μ' ds vs
  | [], vs, h => by simpa [RVs] using h
  | d :: ds, vs, h => by
    simp only [RVs] at h ⊢
    obtain ⟨v, r, rfl, h1, h2⟩ := h
    exact ⟨v, r, rfl, RV.map e d v h1, RVs.map e ds r h2⟩
theorem RVk.map (e : Tr K H μ H' μ') : ∀ (ds : List (Key × D)) (vs : List (Key × V)), RVk K H μ ds vs → RVk K H' μ' ds vs
  | [], vs, h => by simpa [RVk] using h
  | p :: ds, vs, h => by
    simp only [RVk] at h ⊢
    obtain ⟨v, r, rfl, h1, h2⟩ := h
    exact ⟨v, r, rfl, RVp.map e p v h1, RVk.map e ds r h2⟩
theorem RVp.map (e : Tr K H μ H' μ') : ∀ (p : Key × D) (v : V), RVp K H μ p v → RVp K H' μ' p v
  | (_, d), v, h => by
    simp only [RVp] at h ⊢
    exact RV.map e d v h
end
theorem RV.ext (e : Ext K H μ H' μ') (d : D) (v : V) (h : RV K H μ d v) : RV K H' μ' d v := RV.map e.tr d v h
theorem RVs.ext (e : Ext K H μ H' μ') (d : List D) (v : List V) (h : RVs K H μ d v) : RVs K H' μ' d v := RVs.map e.tr d v h
theorem RVk.ext (e : Ext K H μ H' μ') (d : List (Key × D)) (v : List (Key × V)) (h : RVk K H μ d v) : RVk K H' μ' d v := RVk.map e.tr d v h
theorem RS.map {ρ : En} {σ : St} (h : RS K H μ ρ σ) (e : Tr K H μ H' μ') : RS K H' μ' ρ σ := ⟨h.1, fun i d q => by
  obtain ⟨v, h1, h2⟩ := h.2 i d q
  exact ⟨v, h1, RV.map e d v h2⟩⟩
theorem RS.ext {ρ : En} {σ : St} (h : RS K H μ ρ σ) (e : Ext K H μ H' μ') : RS K H' μ' ρ σ := h.map e.tr
theorem RS.set {ρ : En} {σ : St} {d : D} {v : V} (h : RS K H μ ρ σ) (r : RV K H μ d v) (i : Nat) : RS K H μ (ρ.set i (some d)) (σ.set i (some v)) := by
  refine ⟨by rw [List.length_set, List.length_set]; exact h.1, fun j e q => ?_⟩
  by_cases hj : i = j
  · subst hj
    by_cases hl : i < ρ.length
    · rw [List.getElem?_set_self hl] at q
      cases q
      exact ⟨v, List.getElem?_set_self (by rw [← h.1]; exact hl), r⟩
    · rw [List.getElem?_eq_none (by rw [List.length_set]; omega)] at q
      cases q
  · rw [List.getElem?_set_ne hj] at q ⊢
    exact h.2 j e q
theorem RVs.length : ∀ {ds : List D} {vs : List V}, RVs K H μ ds vs → ds.length = vs.length
  | [], vs, h => by simp only [RVs] at h; subst h; rfl
  | d :: ds, vs, h => by
    simp only [RVs] at h
    obtain ⟨v, r, rfl, _, h2⟩ := h
    simp [RVs.length h2]
theorem RVs.get : ∀ {ds : List D} {vs : List V} {i : Nat} {d : D}, RVs K H μ ds vs → ds[i]? = some d → ∃ v, vs[i]? = some v ∧ RV K H μ d v
  | [], _, _, _, _, e => by simp at e
  | d :: ds, vs, 0, x, h, e => by
    simp only [RVs] at h
    obtain ⟨v, r, rfl, h1, _⟩ := h
    simp at e; subst e
    exact ⟨v, rfl, h1⟩
  | d :: ds, vs, i + 1, x, h, e => by
    simp only [RVs] at h
    obtain ⟨v, r, rfl, _, h2⟩ := h
    obtain ⟨u, q1, q2⟩ := RVs.get (i := i) h2 (by simpa using e)
    exact ⟨u, by simpa using q1, q2⟩
theorem RVs.get' : ∀ {ds : List D} {vs : List V} {i : Nat} {v : V}, RVs K H μ ds vs → vs[i]? = some v → ∃ d, ds[i]? = some d ∧ RV K H μ d v := by
  intro ds vs i v h e
  have hl := h.length
  have hi : i < ds.length := by rw [hl]; exact (List.getElem?_eq_some_iff.mp e).1
  obtain ⟨u, q1, q2⟩ := h.get (List.getElem?_eq_getElem hi)
  rw [e] at q1; cases q1
  exact ⟨_, List.getElem?_eq_getElem hi, q2⟩
theorem RVs.append : ∀ {ds es : List D} {vs us : List V}, RVs K H μ ds vs → RVs K H μ es us → RVs K H μ (ds ++ es) (vs ++ us)
  | [], _, vs, _, h, g => by simp only [RVs] at h; subst h; simpa using g
  | d :: ds, es, vs, us, h, g => by
    simp only [RVs] at h
    obtain ⟨v, r, rfl, h1, h2⟩ := h
    simp only [List.cons_append, RVs]
    exact ⟨v, r ++ us, rfl, h1, RVs.append h2 g⟩
theorem RVs.take : ∀ {ds : List D} {vs : List V} (n : Nat), RVs K H μ ds vs → RVs K H μ (ds.take n) (vs.take n)
  | ds, vs, 0, _ => by simp [RVs]
  | [], vs, n + 1, h => by simp only [RVs] at h; subst h; simp [RVs]
  | d :: ds, vs, n + 1, h => by
    simp only [RVs] at h
    obtain ⟨v, r, rfl, h1, h2⟩ := h
    simp only [List.take_succ_cons, RVs]
    exact ⟨v, _, rfl, h1, RVs.take n h2⟩
theorem RVs.drop : ∀ {ds : List D} {vs : List V} (n : Nat), RVs K H μ ds vs → RVs K H μ (ds.drop n) (vs.drop n)
  | ds, vs, 0, h => by simpa using h
  | [], vs, n + 1, h => by simp only [RVs] at h; subst h; simp [RVs]
  | d :: ds, vs, n + 1, h => by
    simp only [RVs] at h
    obtain ⟨v, r, rfl, h1, h2⟩ := h
    simpa using RVs.drop n h2
theorem RVs.one {d : D} {v : V} (h : RV K H μ d v) : RVs K H μ [d] [v] := by simp only [RVs]; exact ⟨v, [], rfl, h, rfl⟩
theorem RC.map {c : Cell} {a : Addr} (h : RC K H μ c a) (e : Tr K H μ H' μ') (s : H' a = H a) : RC K H' μ' c a := by
  cases c with
  | lst ds => obtain ⟨vs, h1, h2, h3⟩ := h; exact ⟨vs, s.trans h1, h2, RVs.map e _ _ h3⟩
  | dK kvs => obtain ⟨vs, h1, h2⟩ := h; exact ⟨vs, s.trans h1, RVk.map e _ _ h2⟩
  | dT kvs => obtain ⟨vs, h1, h2⟩ := h; exact ⟨vs, s.trans h1, L2.Paired.mapP h2 fun p q z => ⟨z.1, RV.map e _ _ z.2⟩⟩
  | ins C fs => obtain ⟨dx, vs, h1, h2⟩ := h; exact ⟨dx, vs, s.trans h1, L2.Paired.mapP h2 fun p q z => ⟨z.1, RV.map e _ _ z.2⟩⟩
  | dL kvs => obtain ⟨vs, o, h1, h2⟩ := h; exact ⟨vs, o, s.trans h1, RVk.map e _ _ h2⟩
theorem RC.ext {c : Cell} {a : Addr} (h : RC K H μ c a) (e : Ext K H μ H' μ') (s : H' a = H a) : RC K H' μ' c a := h.map e.tr s
theorem RC.some {c : Cell} {a : Addr} (h : RC K H μ c a) : ∃ o, H a = some o ∧ MutL o := by
  cases c with
  | lst ds => obtain ⟨vs, h1, _⟩ := h; exact ⟨_, h1, trivial⟩
  | dK kvs => obtain ⟨vs, h1, _⟩ := h; exact ⟨_, h1, trivial⟩
  | dT kvs => obtain ⟨vs, h1, _⟩ := h; exact ⟨_, h1, trivial⟩
  | ins C fs => obtain ⟨dx, vs, h1, _⟩ := h; exact ⟨_, h1, trivial⟩
  | dL kvs => obtain ⟨vs, o, h1, _⟩ := h; exact ⟨_, h1, trivial⟩
theorem upd_some {H : Hp} {p a : Addr} {o : HO} (h : H a ≠ none) : upd H p o a ≠ none := by
  unfold upd; split
  · exact fun z => nomatch z
  · exact h
theorem RH.mem {m : Me} (h : RH K H μ m) {a : Addr} (ha : a ∈ μ.l) : ∃ o, H a = some o ∧ MutL o := by
  obtain ⟨i, hi, rfl⟩ := List.getElem_of_mem ha
  have hm : i < m.length := by rw [← h.len]; exact hi
  obtain ⟨a', e, c⟩ := h.at' i _ (List.getElem?_eq_getElem hm)
  rw [List.getElem?_eq_getElem hi] at e; cases e
  exact c.some
/-- a new object that is a value -/
theorem Ext.new {m : Me} (h : RH K H μ m) {p : Addr} {o : HO} (n : H p = none) : Ext K H μ (upd H p o) μ := by
  have key : ∀ {a u}, H a = some u → upd H p o a = some u := fun {a u} q => by rw [upd_ne (ne_of_none q n)]; exact q
  refine ⟨⟨[], by simp⟩, rfl, fun a xs q => ?_, fun a u na _ q => ⟨key q, na⟩, fun a o u na q => ⟨key q, na⟩, fun a kvs na q => ⟨.inl (key q), na⟩, fun a o u q => key q, fun a fs q => key q⟩
  rcases q with ⟨o', q, hd⟩ | q
  · exact .inl ⟨o', key q, hd⟩
  · exact .inr q
theorem RH.new {m : Me} (h : RH K H μ m) {p : Addr} {o : HO} (n : H p = none) : RH K (upd H p o) μ m := by
  refine ⟨h.len, h.nd, fun i c q => ?_, fun a z => upd_some (h.hid a z), h.sep⟩
  obtain ⟨a, e, r⟩ := h.at' i c q
  obtain ⟨u, hu, _⟩ := r.some
  exact ⟨a, e, r.ext (Ext.new h n) (upd_ne (ne_of_none hu n))⟩
theorem RH.notin {m : Me} (h : RH K H μ m) {p : Addr} (n : H p = none) : p ∉ μ.l := fun hp => by
  obtain ⟨o, e, _⟩ := h.mem hp
  rw [n] at e; cases e
/-- a new thing of the store -/
theorem Ext.cell {m : Me} (h : RH K H μ m) {p : Addr} {o : HO} (n : H p = none) : Ext K H μ (upd H p o) (μ.add p) := by
  have key : ∀ {a u}, H a = some u → upd H p o a = some u := fun {a u} q => by rw [upd_ne (ne_of_none q n)]; exact q
  have nin : ∀ {a u}, a ∉ μ.l → H a = some u → a ∉ (μ.add p).l := fun {a u} na q z => by
    rcases List.mem_append.mp z with z | z
    · exact na z
    · exact ne_of_none q n (by simpa using z)
  refine ⟨⟨[p], rfl⟩, rfl, fun a xs q => ?_, fun a u na _ q => ⟨key q, nin na q⟩, fun a o u na q => ⟨key q, nin na q⟩, fun a kvs na q => ⟨.inl (key q), nin na q⟩, fun a o u q => key q, fun a fs q => key q⟩
  rcases q with ⟨o', q, hd⟩ | q
  · exact .inl ⟨o', key q, hd⟩
  · exact .inr q
theorem RH.cell {m : Me} (h : RH K H μ m) {p : Addr} {o : HO} {c : Cell} (n : H p = none) (r : RC K (upd H p o) (μ.add p) c p) : RH K (upd H p o) (μ.add p) (m ++ [c]) := by
  refine ⟨by simp [Mu.add, h.len], ?_, fun i c' q => ?_, fun a z => upd_some (h.hid a z), fun a z y => by
    rcases List.mem_append.mp z with z | z
    · exact h.sep a z y
    · rw [List.mem_singleton.mp z] at y; exact h.hid p y n⟩
  · refine List.nodup_append.mpr ⟨h.nd, by simp, fun a ha b hb z => ?_⟩
    have : b = p := by simpa using hb
    subst this; subst z
    exact h.notin n ha
  · by_cases hi : i < m.length
    · rw [List.getElem?_append_left hi] at q
      obtain ⟨a, e, rc⟩ := h.at' i c' q
      obtain ⟨u, hu, _⟩ := rc.some
      exact ⟨a, (Ext.cell (o := o) h n).get e, rc.ext (Ext.cell h n) (upd_ne (ne_of_none hu n))⟩
    · have hi' : i = m.length := by
        have := (List.getElem?_eq_some_iff.mp q).1
        simp at this; omega
      subst hi'
      simp at q; subst q
      exact ⟨p, by simp [Mu.add, ← h.len], r⟩
/-- a thing of the store changes -/
theorem Ext.wr {m : Me} (h : RH K H μ m) {i : Nat} {a : Addr} {o : HO} (e : μ.l[i]? = some a) (nf : ∀ o u, H a ≠ some (.frz o u) := by intro o u z; simp_all) : Ext K H μ (upd H a o) μ := by
  have ha : a ∈ μ.l := List.mem_of_getElem? e
  obtain ⟨u0, hu0, mu⟩ := h.mem ha
  have kp : ∀ {b : Addr} {u : HO}, b ∉ μ.l → H b = some u → upd H a o b = some u := fun {b u} nb q => by
    rw [upd_ne (fun z : b = a => nb (by rw [z]; exact ha))]; exact q
  refine ⟨⟨[], by simp⟩, rfl, fun b xs q => ?_, fun b u nb _ q => ⟨kp nb q, nb⟩, fun b o u nb q => ⟨kp nb q, nb⟩, fun b kvs nb q => ⟨.inl (kp nb q), nb⟩, fun b o u q => by rw [upd_ne (fun z : b = a => nf o u (by rw [← z]; exact q))]; exact q, fun b fs q => by rw [upd_ne (ne_of q hu0 fun z => by subst z; exact mu)]; exact q⟩
  rcases q with ⟨o', q, hd⟩ | q
  · exact .inl ⟨o', by rw [upd_ne (ne_of q hu0 fun z => by subst z; exact mu)]; exact q, hd⟩
  · exact .inr q
theorem RH.wr {m : Me} (h : RH K H μ m) {i : Nat} {a : Addr} {o : HO} {c : Cell} (e : μ.l[i]? = some a) (r : RC K (upd H a o) μ c a) (nf : ∀ o u, H a ≠ some (.frz o u) := by intro o u z; simp_all) : RH K (upd H a o) μ (m.set i c) := by
  refine ⟨by rw [List.length_set]; exact h.len, h.nd, fun j c' q => ?_, fun a z => upd_some (h.hid a z), h.sep⟩
  by_cases hj : i = j
  · subst hj
    have hi : i < m.length := by rw [← h.len]; exact (List.getElem?_eq_some_iff.mp e).1
    rw [List.getElem?_set_self hi] at q; cases q
    exact ⟨a, e, r⟩
  · rw [List.getElem?_set_ne hj] at q
    obtain ⟨b, eb, rc⟩ := h.at' j c' q
    refine ⟨b, eb, rc.ext (Ext.wr h e nf) (upd_ne fun z => hj ?_)⟩
    subst z
    obtain ⟨h1, h1'⟩ := List.getElem?_eq_some_iff.mp e
    obtain ⟨h2, h2'⟩ := List.getElem?_eq_some_iff.mp eb
    exact (List.getElem_inj h.nd).mp (h1'.trans h2'.symm)
/-! ### hidden addresses -/
theorem Tr.unhide {l h h' : List Addr} (w : ∀ a, a ∈ h' → a ∈ h) : Tr K H ⟨l, h⟩ H ⟨l, h'⟩ := ⟨fun _ _ q => q, fun _ _ q => q, fun a u n _ q => ⟨q, n.1, fun z => n.2 (w a z)⟩, fun a o u n q => ⟨q, n.1, fun z => n.2 (w a z)⟩, fun a kvs n q => ⟨.inl q, n.1, fun z => n.2 (w a z)⟩, fun _ _ _ q => q⟩
theorem RC.unhide {l h h' : List Addr} (w : ∀ a, a ∈ h' → a ∈ h) {c : Cell} {a : Addr} (q : RC K H ⟨l, h⟩ c a) : RC K H ⟨l, h'⟩ c a := q.map (.unhide w) rfl
theorem RH.unhide {l h h' : List Addr} (w : ∀ a, a ∈ h' → a ∈ h) {m : Me} (q : RH K H ⟨l, h⟩ m) : RH K H ⟨l, h'⟩ m :=
  ⟨q.len, q.nd, fun i c e => by obtain ⟨a, h1, h2⟩ := q.at' i c e; exact ⟨a, h1, h2.unhide w⟩, fun a z => q.hid a (w a z), fun a z y => q.sep a z (w a y)⟩
/-- a new object beside which the values stand -/
theorem Tr.hide {m : Me} (h : RH K H μ m) {p : Addr} {o : HO} (n : H p = none) : Tr K H μ (upd H p o) ⟨μ.l, p :: μ.h⟩ := by
  have nh : ∀ {a u}, a ∉ μ.h → H a = some u → a ∉ p :: μ.h := fun {a u} na q z => by
    rcases List.mem_cons.mp z with z | z
    · rw [z, n] at q; cases q
    · exact na z
  refine ⟨fun _ _ q => q, (Ext.new h n).tup, fun a u na d q => ?_, fun a o' u na q => ?_, fun a kvs na q => ?_, (Ext.new h n).fz⟩
  · obtain ⟨h1, n1⟩ := (Ext.new (o := o) h n).dat a u na.1 d q
    exact ⟨h1, n1, nh na.2 q⟩
  · obtain ⟨h1, n1⟩ := (Ext.new (o := o) h n).frz a o' u na.1 q
    exact ⟨h1, n1, nh na.2 q⟩
  · obtain ⟨h1, n1⟩ := (Ext.new (o := o) h n).dct a kvs na.1 q
    exact ⟨h1.rd, n1, nh na.2 q⟩
theorem RH.hide {m : Me} (h : RH K H μ m) {p : Addr} {o : HO} (n : H p = none) : RH K (upd H p o) ⟨μ.l, p :: μ.h⟩ m := by
  refine ⟨h.len, h.nd, fun i c q => ?_, fun a z => ?_, fun a z y => by
    rcases List.mem_cons.mp y with y | y
    · rw [y] at z; exact h.notin n z
    · exact h.sep a z y⟩
  · obtain ⟨a, e, r⟩ := h.at' i c q
    obtain ⟨u, hu, _⟩ := r.some
    exact ⟨a, e, r.map (Tr.hide h n) (upd_ne (ne_of_none hu n))⟩
  · rcases List.mem_cons.mp z with z | z
    · subst z; rw [upd_same]; exact fun w => nomatch w
    · exact upd_some (h.hid a z)
/-- a list that stands beside the values grows -/
theorem Tr.grow {p : Addr} {xs ys : List V} (hp : p ∈ μ.h) (e : H p = some (.lst xs)) : Tr K H μ (upd H p (.lst ys)) μ := by
  have kp : ∀ {a : Addr} {u : HO}, a ∉ μ.h → H a = some u → upd H p (.lst ys) a = some u := fun {a u} n q => by
    rw [upd_ne (fun z : a = p => n (by rw [z]; exact hp))]; exact q
  refine ⟨fun _ _ q => q, fun a vs q => ?_, fun a u n _ q => ⟨kp n.2 q, n⟩, fun a o u n q => ⟨kp n.2 q, n⟩, fun a kvs n q => ⟨.inl (kp n.2 q), n⟩, fun a o u q => by rw [upd_ne (ne_of q e fun z => nomatch z)]; exact q⟩
  rcases q with ⟨o', q, hd⟩ | q
  · exact .inl ⟨o', by rw [upd_ne (ne_of q e fun z => nomatch z)]; exact q, hd⟩
  · exact .inr q
theorem RH.grow {m : Me} (h : RH K H μ m) {p : Addr} {xs ys : List V} (hp : p ∈ μ.h) (hl : p ∉ μ.l) (e : H p = some (.lst xs)) : RH K (upd H p (.lst ys)) μ m := by
  refine ⟨h.len, h.nd, fun i c q => ?_, fun a z => upd_some (h.hid a z), h.sep⟩
  obtain ⟨a, e', r⟩ := h.at' i c q
  exact ⟨a, e', r.map (Tr.grow hp e) (upd_ne fun z => hl (by rw [← z]; exact List.mem_of_getElem? e'))⟩
theorem Ext.reh {l l' h k : List Addr} (x : Ext K H ⟨l, h⟩ H' ⟨l', h⟩) (w : ∀ a, a ∈ k → a ∈ h) : Ext K H ⟨l, k⟩ H' ⟨l', k⟩ := ⟨x.pre, rfl, x.tup, x.dat, x.frz, fun a kvs n q => let ⟨h1, n1⟩ := x.dct a kvs n q; ⟨h1.imp id fun z => ⟨fun y => z.1 (w a y), z.2⟩, n1⟩, x.fz, x.xd⟩
/-- .. as seen from where it did not stand -/
theorem Ext.grow {H0 : Hp} {μ0 : Mu} {p : Addr} {xs ys : List V} (x : Ext K H0 μ0 H μ) (n : H0 p = none) (e : H p = some (.lst xs)) : Ext K H0 μ0 (upd H p (.lst ys)) μ := by
  refine ⟨x.pre, x.hid, fun a vs q => ?_, fun a u na d q => ?_, fun a o u na q => ?_, fun a kvs na q => ?_, fun a o u q => by rw [upd_ne (ne_of_none q n)]; exact x.fz a o u q, fun a fs q => by rw [upd_ne (ne_of_none q n)]; exact x.xd a fs q⟩
  · rcases x.tup a vs q with ⟨o', q, hd⟩ | q
    · exact .inl ⟨o', by rw [upd_ne (ne_of q e fun z => nomatch z)]; exact q, hd⟩
    · exact .inr q
  · obtain ⟨h1, h2⟩ := x.dat a u na d q
    exact ⟨by rw [upd_ne (ne_of_none q n)]; exact h1, h2⟩
  · obtain ⟨h1, h2⟩ := x.frz a o u na q
    exact ⟨by rw [upd_ne (ne_of_none q n)]; exact h1, h2⟩
  · obtain ⟨h1, h2⟩ := x.dct a kvs na q
    refine ⟨?_, h2⟩
    unfold Dk
    rw [upd_ne (ne_of_none q n)]; exact h1
end

/-! ### new tuples, their object known -/
section
variable {X : Cx} {es : List Expr} {t : TA} {pos : Pos}
def tTupN (t : TA) : TE := fun σ H Q => t σ H fun xs H1 => xs.length ≤ sizeLine ∧ ∀ p (o : Obj), PlO o → H1 p = none → Q (.ref p) (upd H1 p (.frz o (.tup xs)))
theorem pe_tupN {x1} (h : PA X es t) : PE X (.Tuple es x1 pos) (tTupN t) := by
  refine ⟨fun pins s σ H Q I hq => ?_⟩
  refine wpAny_Tuple_spliced (thn (h.run pos pins s σ H _ I hq) fun us s1 ⟨xs, H1, I1, r, z, q⟩ => ⟨by rw [← r.length]; exact z, ?_⟩)
  have hf : H1 s1.heap.objs.size = none := I1.hok.fresh (Nat.le_refl _)
  refine ⟨.ref s1.heap.objs.size, upd H1 s1.heap.objs.size (.frz { cls := .type "tuple", data := .seq us.toArray } (.tup xs)), I1.laid (t' := s1.toks) (fun b u e => Heap.get?_push_of_some _ e) (Nat.le_refl _) ?ok, rfl, q _ _ ⟨rfl, rfl⟩ hf⟩
  case ok => exact ⟨Heap.get?_push_size _ rfl, z, us, r, ⟨_, Heap.get?_push_size _ rfl, rfl, _, rfl⟩⟩
def rTupOfN (K : PySem.W.Frag) : List V → Hp → VK → Prop := fun xs H Q => ∃ p ys, xs = [.ref p] ∧ ((SqL K H p ys ∧ ∀ l (o : Obj), PlO o → H l = none → Q (.ref l) (upd H l (.frz o (.tup ys)))) ∨ (SqT K H p ys ∧ Q (.ref p) H))
theorem call_tuple_ofN : CallR X (.type "tuple") (rTupOfN X.K) := by
  intro pins s σ H xs us Q I r h
  obtain ⟨p, ys, rfl, h⟩ := h
  obtain ⟨u, rfl, rx⟩ := vals1 r
  cases rx
  rcases h with ⟨hq, q⟩ | ⟨hq, q⟩
  · obtain ⟨its, r', pl, hz⟩ := I.list hq
    have hlen := r'.length
    refine call_tuple_list pl.isList (fun h' kp => ?_) (by simp only [List.size_toArray] <;> omega)
    have I1 : Inv X pins σ H { s with heap := h' } := I.kept (t' := s.toks) kp
    have I2 : Inv X pins σ (upd H h'.objs.size (.frz { cls := .type "tuple", data := .seq its.toArray } (.tup ys))) { s with heap := h'.push { cls := .type "tuple", data := .seq its.toArray } } :=
      I1.laid (t' := s.toks) (fun b o e => Heap.get?_push_of_some _ e) (Nat.le_refl _) (show ObjOk X.prog X.w _ _ _ (.frz _ (.tup ys)) from ⟨Heap.get?_push_size _ rfl, hz, its, r', PyProof.Rows.IsTup.new _ _⟩)
    exact ⟨.ref h'.objs.size, _, I2, rfl, q _ _ ⟨rfl, rfl⟩ (I1.hok.fresh (Nat.le_refl _))⟩
  · obtain ⟨its, r', pl, hz⟩ := I.tuple hq
    exact call_tuple_same pl ⟨.ref p, H, I, rfl, q⟩
def rCatN (K : PySem.W.Frag) : R2 := fun x y H Q => ∃ a b xs ys, x = .ref a ∧ y = .ref b ∧ SqT K H a xs ∧ SqT K H b ys ∧ xs ≠ [] ∧ xs.length + ys.length ≤ sizeLine ∧
  (ys = [] → Q (.ref a) H) ∧ (ys ≠ [] → ∀ p (o : Obj), PlO o → H p = none → Q (.ref p) (upd H p (.frz o (.tup (xs ++ ys)))))
theorem op_catN : OpR X (binaryOp .Add) (rCatN X.K) := by
  intro pins s σ H x y v u Q I rx ry h
  obtain ⟨a, b, xs, ys, rfl, rfl, ha, hb, hx, hz, q1, q2⟩ := h
  cases rx
  cases ry
  obtain ⟨its, r1, p1, _⟩ := I.tuple ha
  obtain ⟨its2, r2, p2, _⟩ := I.tuple hb
  refine HT.cat_tup p1 p2 (fun z => hx (r1.nil_iff.mp z)) (fun z => ⟨.ref a, H, I, rfl, q1 (r2.nil_iff.mp z)⟩) (fun z => ?_) (by rw [← r1.length, ← r2.length]; exact hz)
  refine ⟨.ref s.heap.objs.size, _, I.laid (t' := s.toks) (o := .frz { cls := .type "tuple", data := .seq (its ++ its2).toArray } (.tup (xs ++ ys))) (fun b ob q => Heap.get?_push_of_some _ q) (Nat.le_refl _) ?ok, rfl, q2 (fun w => z (r2.nil_iff.mpr w)) _ _ ⟨rfl, rfl⟩ (I.hok.fresh (Nat.le_refl _))⟩
  case ok => exact ⟨Heap.get?_push_size _ rfl, by rw [List.length_append]; exact hz, _, r1.append r2, PyProof.Rows.IsTup.new _ _⟩
def rSlN (K : PySem.W.Frag) : V → Option Int → Option Int → Hp → VK → Prop := fun x lo hi H Q => ∃ a xs, x = .ref a ∧ SqT K H a xs ∧
  (HT.sIx xs.length 0 lo = 0 ∧ HT.sIx xs.length xs.length hi = xs.length → Q (.ref a) H) ∧ (¬ (HT.sIx xs.length 0 lo = 0 ∧ HT.sIx xs.length xs.length hi = xs.length) → ∀ p (o : Obj), PlO o → H p = none → Q (.ref p) (upd H p (.frz o (.tup (cutV xs lo hi)))))
theorem sl_tupN : SlR X (rSlN X.K) := by
  intro pins s σ H x v vl vu lo hi sl Q I rx hs pl pu h
  obtain ⟨a, xs, rfl, hx, q1, q2⟩ := h
  cases rx
  obtain ⟨its, r, ht, hz⟩ := I.tuple hx
  have hlen : its.toArray.size = xs.length := by rw [List.size_toArray]; exact r.length.symm
  refine ⟨"tuple", _, PyProof.Rows.slot_tuple_getitem.lookup, ht.typeIs, ?_⟩
  by_cases hw : HT.sIx xs.length 0 lo = 0 ∧ HT.sIx xs.length xs.length hi = xs.length
  · exact getItem_tuple_whole ht hs pl pu (by rw [hlen]; exact hw) ⟨.ref a, H, I, rfl, q1 hw⟩
  · refine HT.getItem_tuple_cut ht hs pl pu (by rw [hlen]; exact hw) ?_ (by rw [hlen]; exact hz)
    rw [hlen]
    refine ⟨.ref s.heap.objs.size, _, I.laid (t' := s.toks) (o := .frz { cls := .type "tuple", data := .seq ((its.drop (HT.sIx xs.length 0 lo)).take (HT.sIx xs.length xs.length hi - HT.sIx xs.length 0 lo)).toArray } (.tup (cutV xs lo hi))) (fun b ob q => Heap.get?_push_of_some _ q) (Nat.le_refl _) ?ok, rfl, q2 hw _ _ ⟨rfl, rfl⟩ (I.hok.fresh (Nat.le_refl _))⟩
    case ok => exact ⟨Heap.get?_push_size _ rfl, Nat.le_trans (cutV_length xs lo hi) hz, _, (r.drop (HT.sIx xs.length 0 lo)).take (HT.sIx xs.length xs.length hi - HT.sIx xs.length 0 lo), PyProof.Rows.IsTup.new _ _⟩
end
end FL

set_option maxRecDepth 100000
namespace FL
open PySem L2

/-! ### results -/
structure Exn where
  cls : Value
  fs : List (Str × D)
inductive Res (α : Type) where
  | no | exc (x : Exn) (m : Me) | ok (a : α) (m : Me)
def Res.bind {α β : Type} (r : Res α) (f : α → Me → Res β) : Res β := match r with
  | .no => .no
  | .exc x m => .exc x m
  | .ok a m => f a m
@[simp] theorem Res.bind_ok {α β : Type} {a : α} {m : Me} {f : α → Me → Res β} : (Res.ok a m).bind f = f a m := rfl
@[simp] theorem Res.bind_no {α β : Type} {f : α → Me → Res β} : (Res.no : Res α).bind f = .no := rfl
@[simp] theorem Res.bind_exc {α β : Type} {x : Exn} {m : Me} {f : α → Me → Res β} : (Res.exc x m : Res α).bind f = .exc x m := rfl
/-- what a block comes to -/
inductive Fl where
  | no | exc (x : Exn) (ρ : En) (m : Me) | nx (ρ : En) (m : Me) | rt (d : D) (m : Me) | bk (ρ : En) (m : Me) | ct (ρ : En) (m : Me)

abbrev ME := En → Me → Res D
abbrev MT := En → Me → Res Bool
abbrev MA := En → Me → Res (List D)
abbrev MS := En → Me → Fl

section
variable (K : PySem.W.Frag)
/-- an exception as it is told -/
def RX (H : Hp) (μ : Mu) (x : Exn) (c : Value) (d : Option Addr) : Prop :=
  c = x.cls ∧ match d with
    | none => x.fs = []
    | some a => ∃ fs', H a = some (.xd fs') ∧ Paired (fun (p : Str × D) (q : Str × V) => p.1 = q.1 ∧ RV K H μ p.2 q.2) x.fs fs'
/-- what is wanted holds of a result -/
def Ok {α β : Type} (Ex : XK) (H : Hp) (μ : Mu) (R : Hp → Mu → α → β → Prop) (Q : β → Hp → Prop) : Res α → Prop
  | .no => False
  | .exc x m' => ∀ H' μ' c d, Ext K H μ H' μ' → RH K H' μ' m' → RX K H' μ' x c d → Ex c d H'
  | .ok a m' => ∀ v H' μ', Ext K H μ H' μ' → RH K H' μ' m' → R H' μ' a v → Q v H'
def OkS (W : WX) (H : Hp) (μ : Mu) (D : Ends) : Fl → Prop
  | .no => False
  | .exc x ρ m' => ∀ σ' H' μ' c d, Ext K H μ H' μ' → RH K H' μ' m' → RS K H' μ' ρ σ' → RX K H' μ' x c d → W c d σ' H'
  | .nx ρ m' => ∀ σ' H' μ', Ext K H μ H' μ' → RH K H' μ' m' → RS K H' μ' ρ σ' → D.nx σ' H'
  | .bk ρ m' => ∀ σ' H' μ', Ext K H μ H' μ' → RH K H' μ' m' → RS K H' μ' ρ σ' → D.bk σ' H'
  | .ct ρ m' => ∀ σ' H' μ', Ext K H μ H' μ' → RH K H' μ' m' → RS K H' μ' ρ σ' → D.ct σ' H'
  | .rt d m' => ∀ v H' μ', Ext K H μ H' μ' → RH K H' μ' m' → RV K H' μ' d v → D.rt v H'
abbrev RVv : Hp → Mu → D → V → Prop := fun H μ d v => RV K H μ d v
abbrev RVB : Hp → Mu → Bool → Bool → Prop := fun _ _ a b => a = b
abbrev RVn (n : Nat) : Hp → Mu → List D → List V → Prop := fun H μ ds vs => RVs K H μ ds vs ∧ ds.length = n
/-- the wish of a function's result -/
def tR {α β : Type} (W : WX) (R : Hp → Mu → α → β → Prop) (f : En → Me → Res α) : St → Hp → (β → Hp → Prop) → Prop :=
  fun σ H Q => ∃ μ ρ m, RH K H μ m ∧ RS K H μ ρ σ ∧ Ok K (fun c d H' => W c d σ H') H μ R Q (f ρ m)
def tS (W : WX) (f : MS) : TS := fun D σ H => ∃ μ ρ m, RH K H μ m ∧ RS K H μ ρ σ ∧ OkS K W H μ D (f ρ m)
end
abbrev PD (X : Cx) (W : WX) (e : Expr) (f : ME) : Prop := PE X e (tR X.K W (RVv X.K) f)
abbrev PDT (X : Cx) (W : WX) (e : Expr) (f : MT) : Prop := PT X e (tR X.K W RVB f)
abbrev PDA (X : Cx) (W : WX) (n : Nat) (es : List Expr) (f : MA) : Prop := PA X es (tR X.K W (RVn X.K n) f)
abbrev PDS (X : Cx) (W : WX) (st : Stmt) (f : MS) : Prop := PS X st (tS X.K W f)
abbrev PDB (X : Cx) (W : WX) (sts : List Stmt) (f : MS) : Prop := PSs X sts (tS X.K W f)

section
variable {K : PySem.W.Frag} {H H' H1 : Hp} {μ μ' μ1 : Mu} {W : WX} {Ex : XK} {m : Me} {ρ : En} {σ : St}
theorem Ok.ext {α β : Type} {R : Hp → Mu → α → β → Prop} {Q : β → Hp → Prop} {r : Res α} (h : Ok K Ex H μ R Q r) (e : Ext K H μ H1 μ1) : Ok K Ex H1 μ1 R Q r := by
  cases r with
  | no => exact h
  | exc x m' => exact fun H' μ' c d e' => h H' μ' c d (e.trans e')
  | ok a m' => exact fun v H' μ' e' => h v H' μ' (e.trans e')
theorem OkS.ext {D : Ends} {r : Fl} (h : OkS K W H μ D r) (e : Ext K H μ H1 μ1) : OkS K W H1 μ1 D r := by
  cases r with
  | no => exact h
  | exc x ρ m' => exact fun σ' H' μ' c d e' => h σ' H' μ' c d (e.trans e')
  | nx ρ m' => exact fun σ' H' μ' e' => h σ' H' μ' (e.trans e')
  | bk ρ m' => exact fun σ' H' μ' e' => h σ' H' μ' (e.trans e')
  | ct ρ m' => exact fun σ' H' μ' e' => h σ' H' μ' (e.trans e')
  | rt d m' => exact fun v H' μ' e' => h v H' μ' (e.trans e')
theorem OkS.ends {D D' : Ends} {r : Fl} (h : OkS K W H μ D r) (n : ∀ ρ m, r ≠ .nx ρ m) (e1 : D'.rt = D.rt) (e2 : D'.bk = D.bk) (e3 : D'.ct = D.ct) : OkS K W H μ D' r := by
  cases r with
  | nx ρ m' => exact absurd rfl (n ρ m')
  | no => exact h
  | exc x ρ m' => exact h
  | bk ρ m' => simpa only [OkS, e2] using h
  | ct ρ m' => simpa only [OkS, e3] using h
  | rt d m' => simpa only [OkS, e1] using h
/-- one thing after another -/
theorem seqR {α β γ δ : Type} {R : Hp → Mu → α → β → Prop} {R' : Hp → Mu → γ → δ → Prop} {Q : δ → Hp → Prop} {Q1 : β → Hp → Prop} {f : En → Me → Res α} {g : α → Me → Res γ}
    (q : Ok K (fun c d H' => W c d σ H') H μ R' Q ((f ρ m).bind g)) (hH : RH K H μ m) (hS : RS K H μ ρ σ)
    (h : ∀ a m1 v H1 μ1, Ext K H μ H1 μ1 → RH K H1 μ1 m1 → R H1 μ1 a v → RS K H1 μ1 ρ σ → Ok K (fun c d H' => W c d σ H') H1 μ1 R' Q (g a m1) → Q1 v H1) : tR K W R f σ H Q1 := by
  refine ⟨μ, ρ, m, hH, hS, ?_⟩
  cases e : f ρ m with
  | no => rw [e] at q; exact q
  | exc x m' => rw [e] at q; exact q
  | ok a m1 => rw [e] at q; exact fun v H1 μ1 x hH1 r => h a m1 v H1 μ1 x hH1 r (hS.ext x) (q.ext x)
/-- .. in a statement -/
def bindS {α : Type} (r : Res α) (ρ : En) (g : α → Me → Fl) : Fl := match r with
  | .no => .no
  | .exc x m => .exc x ρ m
  | .ok a m => g a m
@[simp] theorem bindS_ok {α : Type} {a : α} {m : Me} {ρ : En} {g : α → Me → Fl} : bindS (.ok a m) ρ g = g a m := rfl
@[simp] theorem bindS_no {α : Type} {ρ : En} {g : α → Me → Fl} : bindS .no ρ g = .no := rfl
@[simp] theorem bindS_exc {α : Type} {x : Exn} {m : Me} {ρ : En} {g : α → Me → Fl} : bindS (.exc x m) ρ g = .exc x ρ m := rfl
theorem seqS {α β : Type} {R : Hp → Mu → α → β → Prop} {D : Ends} {Q1 : β → Hp → Prop} {f : En → Me → Res α} {g : α → Me → Fl}
    (q : OkS K W H μ D (bindS (f ρ m) ρ g)) (hH : RH K H μ m) (hS : RS K H μ ρ σ)
    (h : ∀ a m1 v H1 μ1, Ext K H μ H1 μ1 → RH K H1 μ1 m1 → R H1 μ1 a v → RS K H1 μ1 ρ σ → OkS K W H1 μ1 D (g a m1) → Q1 v H1) : tR K W R f σ H Q1 := by
  refine ⟨μ, ρ, m, hH, hS, ?_⟩
  cases e : f ρ m with
  | no => rw [e] at q; exact q
  | exc x m' => rw [e] at q; exact fun H' μ' c d x hH' r => q σ H' μ' c d x hH' (hS.ext x) r
  | ok a m1 => rw [e] at q; exact fun v H1 μ1 x hH1 r => h a m1 v H1 μ1 x hH1 r (hS.ext x) (q.ext x)
end

section
variable {X : Cx} {W : WX} {e a b : Expr} {es : List Expr} {pos : Pos} {f g fa fb : ME}
theorem _root_.L2.PE.imp {t t' : TE} (h : PE X e t) (w : ∀ σ H Q, t' σ H Q → t σ H Q) : PE X e t' := ⟨fun pins s σ H Q I q => h.run pins s σ H Q I (w σ H Q q)⟩
theorem _root_.L2.PT.imp {t t' : TT} (h : PT X e t) (w : ∀ σ H Q, t' σ H Q → t σ H Q) : PT X e t' := ⟨fun pins s σ H Q I q => h.run pins s σ H Q I (w σ H Q q)⟩
theorem _root_.L2.PA.imp {t t' : TA} (h : PA X es t) (w : ∀ σ H Q, t' σ H Q → t σ H Q) : PA X es t' := ⟨fun pos pins s σ H Q I q => h.run pos pins s σ H Q I (w σ H Q q)⟩
theorem _root_.L2.PS.imp {st : Stmt} {t t' : TS} (h : PS X st t) (w : ∀ D σ H, t' D σ H → t D σ H) : PS X st t' := ⟨fun pins s σ H D I q => h.run pins s σ H D I (w D σ H q)⟩
theorem _root_.L2.PSs.imp {st : List Stmt} {t t' : TS} (h : PSs X st t) (w : ∀ D σ H, t' D σ H → t D σ H) : PSs X st t' := ⟨fun pins s σ H D I q => h.run pins s σ H D I (w D σ H q)⟩

/-! ### names, constants -/
def mVar (i : Nat) : ME := fun ρ m => match ρ[i]? with
  | some (some d) => .ok d m
  | _ => .no
theorem pd_var (i : Nat) {x : Str} (hN : X.N[i]? = some x := by rfl) (hv : Vis X.env.scope x := by first | exact Or.inl rfl | exact Or.inr (Or.inl rfl) | exact Or.inr (Or.inr rfl)) (hd : (x == ("__debug__" : Str)) = false := by decide)
    (hcd : (x == ("__classdict__" : Str)) = false := by decide) : PD X W (.Name x pos) (mVar i) :=
  (pe_var (i := i) hN hv hd hcd).imp fun σ H Q ⟨μ, ρ, m, hH, hS, q⟩ => by
    unfold mVar at q
    cases e : ρ[i]? with
    | none => simp only [e] at q; exact q.elim
    | some o =>
      cases o with
      | none => simp only [e] at q; exact q.elim
      | some d =>
        simp only [e] at q
        obtain ⟨v, h1, h2⟩ := hS.2 i d e
        exact ⟨v, h1, q v H μ .refl hH h2⟩
def mC (d : D) : ME := fun _ m => .ok d m
theorem pd_const {v : V} {d : D} (h : PE X e (tC v)) (r : ∀ H μ, RV X.K H μ d v) : PD X W e (mC d) := h.imp fun σ H Q ⟨μ, ρ, m, hH, hS, q⟩ => q v H μ .refl hH (r H μ)
theorem pd_int {i j} : PD X W (.Constant (.int i) j pos) (mC (.int i)) := pd_const pe_int fun _ _ => by simp [RV]
theorem pd_bl {i j} : PD X W (.Constant (.bool i) j pos) (mC (.bl i)) := pd_const pe_bl fun _ _ => by simp [RV]
theorem pd_non {j} : PD X W (.Constant .none j pos) (mC .non) := pd_const pe_non fun _ _ => by simp [RV]
theorem pd_str {x j} : PD X W (.Constant (.str x) j pos) (mC (.str x)) := pd_const pe_str fun _ _ => by simp [RV]

/-! ### argument lists, displays -/
def mNil : MA := fun _ m => .ok [] m
def mCons (f : ME) (g : MA) : MA := fun ρ m => (f ρ m).bind fun d m => (g ρ m).bind fun ds m => .ok (d :: ds) m
theorem pda_nil : PDA X W 0 [] mNil := PA.imp pa_nil fun σ H Q ⟨μ, ρ, m, hH, hS, q⟩ => q [] H μ .refl hH ⟨by simp [RVs], rfl⟩
theorem pda_cons {n : Nat} {f : ME} {g : MA} (he : PD X W e f) (hr : PDA X W n es g) (hs : starEach (e :: es) X.env = (false, eval e X.env) :: starEach es X.env := by rfl) : PDA X W (n + 1) (e :: es) (mCons f g) :=
  PA.imp (pa_cons he hr hs) fun σ H Q ⟨μ, ρ, m, hH, hS, q⟩ => by
    refine seqR q hH hS fun d m1 v H1 μ1 e1 hH1 r1 hS1 q1 => ?_
    refine seqR q1 hH1 hS1 fun ds m2 vs H2 μ2 e2 hH2 r2 hS2 q2 => ?_
    exact q2 (v :: vs) H2 μ2 .refl hH2 ⟨by simp only [RVs]; exact ⟨v, vs, rfl, RV.ext e2 d v r1, r2.1⟩, by simp [r2.2]⟩
def mTup (f : MA) : ME := fun ρ m => (f ρ m).bind fun ds m => .ok (.tup ds) m
def mLst (f : MA) : ME := fun ρ m => (f ρ m).bind fun ds m => .ok (.lst ds) m
def mNew (f : MA) : ME := fun ρ m => (f ρ m).bind fun ds m => .ok (.ref m.length) (m ++ [.lst ds])
theorem le_line {n : Nat} (h : n ≤ 1000) : n ≤ sizeLine := Nat.le_of_lt (small1000 h)
theorem pd_tup {x1} {n : Nat} {f : MA} (h : PDA X W n es f) (hn : n ≤ 1000 := by decide) : PD X W (.Tuple es x1 pos) (mTup f) :=
  (pe_tupN h).imp fun σ H Q ⟨μ, ρ, m, hH, hS, q⟩ => by
    refine seqR q hH hS fun ds m1 vs H1 μ1 e1 hH1 r1 hS1 q1 => ?_
    have hl := r1.1.length
    have hz : vs.length ≤ sizeLine := by rw [← hl, r1.2]; exact le_line hn
    refine ⟨hz, fun p o hd hp => ?_⟩
    have ex := Ext.new (o := .frz o (.tup vs)) hH1 hp
    refine q1 _ _ μ1 ex (hH1.new hp) ?_
    simp only [RV]
    exact ⟨p, vs, rfl, .inl ⟨o, upd_same, hd⟩, hz, RVs.ext ex _ _ r1.1⟩
theorem pd_lst {n : Nat} {f : MA} (h : PDA X W n es f) (hn : n ≤ 1000 := by decide) : PD X W (.List es pos) (mLst f) :=
  (pe_lst h).imp fun σ H Q ⟨μ, ρ, m, hH, hS, q⟩ => by
    refine seqR q hH hS fun ds m1 vs H1 μ1 e1 hH1 r1 hS1 q1 => ?_
    have hl := r1.1.length
    have hz : vs.length ≤ sizeLine := by rw [← hl, r1.2]; exact le_line hn
    refine ⟨hz, fun p hp => ?_⟩
    have ex := Ext.new (o := .lst vs) hH1 hp
    refine q1 _ _ μ1 ex (hH1.new hp) ?_
    simp only [RV]
    exact ⟨p, vs, rfl, ⟨hH1.notin hp, fun z => hH1.hid _ z hp⟩, upd_same, hz, RVs.ext ex _ _ r1.1⟩
/-- a list that will change -/
theorem pd_new {n : Nat} {f : MA} (h : PDA X W n es f) (hn : n ≤ 1000 := by decide) : PD X W (.List es pos) (mNew f) :=
  (pe_lst h).imp fun σ H Q ⟨μ, ρ, m, hH, hS, q⟩ => by
    refine seqR q hH hS fun ds m1 vs H1 μ1 e1 hH1 r1 hS1 q1 => ?_
    have hl := r1.1.length
    have hz : vs.length ≤ sizeLine := by rw [← hl, r1.2]; exact le_line hn
    refine ⟨hz, fun p hp => ?_⟩
    have ex := Ext.cell (o := .lst vs) hH1 hp
    refine q1 _ _ (μ1.add p) ex (hH1.cell hp ⟨vs, upd_same, hz, RVs.ext ex _ _ r1.1⟩) ?_
    simp only [RV]
    exact ⟨p, rfl, by simp [Mu.add, ← hH1.len]⟩
/-- {} that will change -/
def mNewK : ME := fun _ m => .ok (.ref m.length) (m ++ [.dK []])
def mNewT : ME := fun _ m => .ok (.ref m.length) (m ++ [.dT []])
theorem pd_newK : PD X W (.Dict [] [] pos) mNewK := pe_dnewK.imp fun σ H Q ⟨μ, ρ, m, hH, hS, q⟩ p hp => by
  refine q _ _ (μ.add p) (Ext.cell hH hp) (hH.cell hp ⟨[], upd_same, by simp [RVk]⟩) ?_
  simp only [RV]
  exact ⟨p, rfl, by simp [Mu.add, ← hH.len]⟩
theorem pd_newT : PD X W (.Dict [] [] pos) mNewT := pe_dnewT.imp fun σ H Q ⟨μ, ρ, m, hH, hS, q⟩ p hp => by
  refine q _ _ (μ.add p) (Ext.cell hH hp) (hH.cell hp ⟨[], upd_same, .nil⟩) ?_
  simp only [RV]
  exact ⟨p, rfl, by simp [Mu.add, ← hH.len]⟩

/-! ### operators -/
def m1 (g : D → Me → Res D) (fa : ME) : ME := fun ρ m => (fa ρ m).bind g
def m2 (g : D → D → Me → Res D) (fa fb : ME) : ME := fun ρ m => (fa ρ m).bind fun d m => (fb ρ m).bind fun d' m => g d d' m
/-- a rule over values and a function over data -/
def G2 (K : PySem.W.Frag) (r : R2) (g : D → D → Me → Res D) : Prop := ∀ (Ex : XK) (H : Hp) (μ : Mu) (m : Me) (d d' : D) (x y : V) (Q : VK), RH K H μ m → RV K H μ d x → RV K H μ d' y → Ok K Ex H μ (RVv K) Q (g d d' m) → r x y H Q
def G1 (K : PySem.W.Frag) (r : V → Hp → VK → Prop) (g : D → Me → Res D) : Prop := ∀ (Ex : XK) (H : Hp) (μ : Mu) (m : Me) (d : D) (x : V) (Q : VK), RH K H μ m → RV K H μ d x → Ok K Ex H μ (RVv K) Q (g d m) → r x H Q
theorem seq2 {r : R2} {g : D → D → Me → Res D} (hg : G2 X.K r g) {σ : St} {H : Hp} {Q : VK} (h : tR X.K W (RVv X.K) (m2 g fa fb) σ H Q) : tOp r (tR X.K W (RVv X.K) fa) (tR X.K W (RVv X.K) fb) σ H Q := by
  obtain ⟨μ, ρ, m, hH, hS, q⟩ := h
  refine seqR q hH hS fun d m1 v H1 μ1 e1 hH1 r1 hS1 q1 => ?_
  refine seqR q1 hH1 hS1 fun d' m2 v' H2 μ2 e2 hH2 r2 hS2 q2 => ?_
  exact hg _ H2 μ2 m2 d d' v v' Q hH2 (RV.ext e2 d v r1) r2 q2
theorem pd_op {op : Operator} {r : R2} {g : D → D → Me → Res D} (ho : OpR X (binaryOp op) r) (hg : G2 X.K r g) (ha : PD X W a fa) (hb : PD X W b fb) : PD X W (.BinOp a op b pos) (m2 g fa fb) :=
  (pe_op ho ha hb).imp fun σ H Q h => seq2 hg h
theorem pd_un {op : UnaryOp} {r : V → Hp → VK → Prop} {g : D → Me → Res D} (ho : UnR X (unaryOp op) r) (hg : G1 X.K r g) (ha : PD X W a fa) : PD X W (.UnaryOp op a pos) (m1 g fa) :=
  (pe_un ho ha).imp fun σ H Q ⟨μ, ρ, m, hH, hS, q⟩ => seqR q hH hS fun d m1 v H1 μ1 e1 hH1 r1 hS1 q1 => hg _ H1 μ1 m1 d v Q hH1 r1 q1
theorem pd_cmp {op : CmpOp} {r : R2} {g : D → D → Me → Res D} (ho : OpR X (compareOp op) r) (hg : G2 X.K r g) (ha : PD X W a fa) (hb : PD X W b fb) (hm : behindInMarks op b = false) : PD X W (.Compare a [op] [b] pos) (m2 g fa fb) :=
  (pe_cmpR ho ha hb hm).imp fun σ H Q h => seq2 hg h
theorem pd_ix {r : R2} {g : D → D → Me → Res D} (ho : IxR X r) (hg : G2 X.K r g) (ha : PD X W a fa) (hb : PD X W b fb) (hs : PlainIx b := by exact fun _ _ => rfl) : PD X W (.Subscript a b pos) (m2 g fa fb) :=
  (pe_ix ho ha hb hs).imp fun σ H Q h => seq2 hg h

/-! ### tests -/
def asB (d : D) (m : Me) : Res Bool := match d with
  | .bl b => .ok b m
  | _ => .no
def mB (f : ME) : MT := fun ρ m => (f ρ m).bind asB
theorem okB {K : PySem.W.Frag} {Ex : XK} {H : Hp} {μ : Mu} {m : Me} {d : D} {v : V} {Q : Bool → Hp → Prop} (hH : RH K H μ m) (r : RV K H μ d v) (q : Ok K Ex H μ RVB Q (asB d m)) : ∃ c, v = .bl c ∧ Q c H := by
  cases d with
  | bl b => simp only [RV] at r; exact ⟨b, r, q b H μ .refl hH rfl⟩
  | _ => exact q.elim
/-- an expression that gives a truth, as a test -/
theorem pdt_val (h : PD X W e f) (he : ∀ whole, isTrue e X.env whole = (do let v ← whole; standAt e.pos; holding [v] (truthy v)) := by intro _; rfl) : PDT X W e (mB f) :=
  (pt_val h he).imp fun σ H Q ⟨μ, ρ, m, hH, hS, q⟩ => seqR q hH hS fun d m1 v H1 μ1 e1 hH1 r1 hS1 q1 => okB hH1 r1 q1
theorem pdt_cmp {op : CmpOp} {r : R2} {g : D → D → Me → Res D} (ho : OpR X (compareOp op) r) (hg : G2 X.K r g) (ha : PD X W a fa) (hb : PD X W b fb) (hm : behindInMarks op b = false) : PDT X W (.Compare a [op] [b] pos) (mB (m2 g fa fb)) :=
  (pt_cmpR ho ha hb hm).imp fun σ H Q ⟨μ, ρ, m, hH, hS, q⟩ => by
    refine seq2 hg ?_
    exact seqR q hH hS fun d m1 v H1 μ1 e1 hH1 r1 hS1 q1 => okB hH1 r1 q1
def mAnd (f g : MT) : MT := fun ρ m => (f ρ m).bind fun b m => if b = true then g ρ m else .ok false m
def mOr (f g : MT) : MT := fun ρ m => (f ρ m).bind fun b m => if b = true then .ok true m else g ρ m
def mNot (f : MT) : MT := fun ρ m => (f ρ m).bind fun b m => .ok (!b) m
abbrev PDW (X : Cx) (W : WX) (e : Expr) (f : MT) : Prop := PW X e (tR X.K W RVB f)
theorem _root_.L2.PW.imp {t t' : TT} (h : PW X e t) (w : ∀ σ H Q, t' σ H Q → t σ H Q) : PW X e t' := ⟨fun wh pins s σ H Q I q => h.run wh pins s σ H Q I (w σ H Q q)⟩
theorem pdw_and1 {f : MT} (h : PDT X W a f) : PDW X W (.BoolOp .And [a] pos) f := pw_and1 h
theorem pdw_or1 {f : MT} (h : PDT X W a f) : PDW X W (.BoolOp .Or [a] pos) f := pw_or1 h
theorem pdw_and {f g : MT} {rest : List Expr} (ha : PDT X W a f) (hb : PDW X W (.BoolOp .And (b :: rest) pos) g) : PDW X W (.BoolOp .And (a :: b :: rest) pos) (mAnd f g) :=
  PW.imp (pw_and ha hb) fun σ H Q ⟨μ, ρ, m, hH, hS, q⟩ => seqR q hH hS fun d m1 v H1 μ1 e1 hH1 r1 hS1 q1 => by
    subst r1
    cases d with
    | true => exact ⟨μ1, ρ, m1, hH1, hS1, q1⟩
    | false => exact q1 false H1 μ1 .refl hH1 rfl
theorem pdw_or {f g : MT} {rest : List Expr} (ha : PDT X W a f) (hb : PDW X W (.BoolOp .Or (b :: rest) pos) g) : PDW X W (.BoolOp .Or (a :: b :: rest) pos) (mOr f g) :=
  PW.imp (pw_or ha hb) fun σ H Q ⟨μ, ρ, m, hH, hS, q⟩ => seqR q hH hS fun d m1 v H1 μ1 e1 hH1 r1 hS1 q1 => by
    subst r1
    cases d with
    | false => exact ⟨μ1, ρ, m1, hH1, hS1, q1⟩
    | true => exact q1 true H1 μ1 .refl hH1 rfl
theorem pdt_w {f : MT} (h : PDW X W e f) : PDT X W e f := PW.pt h
theorem pdt_not {f : MT} (ha : PDT X W a f) : PDT X W (.UnaryOp .Not a pos) (mNot f) :=
  (pt_not ha).imp fun σ H Q ⟨μ, ρ, m, hH, hS, q⟩ => seqR q hH hS fun d m1 v H1 μ1 e1 hH1 r1 hS1 q1 => by subst r1; exact q1 (!d) H1 μ1 .refl hH1 rfl
/-- truths as values: and, or, not; the last part may be any value -/
def mAndV (f g : ME) : ME := fun ρ m => (f ρ m).bind fun d m => match d with
  | .bl true => g ρ m
  | .bl false => .ok (.bl false) m
  | _ => .no
def mOrV (f g : ME) : ME := fun ρ m => (f ρ m).bind fun d m => match d with
  | .bl true => .ok (.bl true) m
  | .bl false => g ρ m
  | _ => .no
def mNotV (f : ME) : ME := fun ρ m => (f ρ m).bind fun d m => match d with
  | .bl b => .ok (.bl (!b)) m
  | _ => .no
theorem pd_one {op} (h : PD X W a f) : PD X W (.BoolOp op [a] pos) f := pe_one h
theorem pd_and {rest : List Expr} (ha : PD X W a f) (hb : PD X W (.BoolOp .And (b :: rest) pos) g) : PD X W (.BoolOp .And (a :: b :: rest) pos) (mAndV f g) :=
  (pe_and ha hb).imp fun σ H Q ⟨μ, ρ, m, hH, hS, q⟩ => seqR q hH hS fun d m1 v H1 μ1 e1 hH1 r1 hS1 q1 => by
    cases d with
    | bl b =>
      simp only [RVv, RV] at r1
      cases b with
      | true => exact ⟨true, r1, by rw [if_pos rfl]; exact ⟨μ1, ρ, m1, hH1, hS1, q1⟩⟩
      | false => exact ⟨false, r1, by rw [if_neg Bool.false_ne_true]; exact q1 _ H1 μ1 .refl hH1 (by simp [RV])⟩
    | _ => exact q1.elim
theorem pd_or {rest : List Expr} (ha : PD X W a f) (hb : PD X W (.BoolOp .Or (b :: rest) pos) g) : PD X W (.BoolOp .Or (a :: b :: rest) pos) (mOrV f g) :=
  (pe_or ha hb).imp fun σ H Q ⟨μ, ρ, m, hH, hS, q⟩ => seqR q hH hS fun d m1 v H1 μ1 e1 hH1 r1 hS1 q1 => by
    cases d with
    | bl b =>
      simp only [RVv, RV] at r1
      cases b with
      | false => exact ⟨false, r1, by rw [if_neg Bool.false_ne_true]; exact ⟨μ1, ρ, m1, hH1, hS1, q1⟩⟩
      | true => exact ⟨true, r1, by rw [if_pos rfl]; exact q1 _ H1 μ1 .refl hH1 (by simp [RV])⟩
    | _ => exact q1.elim
theorem pd_not (ha : PD X W a f) : PD X W (.UnaryOp .Not a pos) (mNotV f) :=
  (pe_not ha).imp fun σ H Q ⟨μ, ρ, m, hH, hS, q⟩ => seqR q hH hS fun d m1 v H1 μ1 e1 hH1 r1 hS1 q1 => by
    cases d with
    | bl b => simp only [RVv, RV] at r1; exact ⟨b, r1, q1 _ H1 μ1 .refl hH1 (by simp [RV])⟩
    | _ => exact q1.elim
def mIf (c : MT) (f g : ME) : ME := fun ρ m => (c ρ m).bind fun b m => if b = true then f ρ m else g ρ m
theorem pd_if {c : Expr} {fc : MT} (hc : PDT X W c fc) (ha : PD X W a f) (hb : PD X W b g) : PD X W (.IfExp c a b pos) (mIf fc f g) :=
  (pe_ifExp hc ha hb).imp fun σ H Q ⟨μ, ρ, m, hH, hS, q⟩ => seqR q hH hS fun d m1 v H1 μ1 e1 hH1 r1 hS1 q1 => by
    subst r1
    cases d with
    | true => rw [if_pos rfl]; exact ⟨μ1, ρ, m1, hH1, hS1, q1⟩
    | false => rw [if_neg Bool.false_ne_true]; exact ⟨μ1, ρ, m1, hH1, hS1, q1⟩

/-! ### blocks -/
section
variable {st : Stmt} {sts rest : List Stmt} {f' g' : MS}
def sNext : MS := fun ρ m => .nx ρ m
def sSeq (f g : MS) : MS := fun ρ m => match f ρ m with
  | .nx ρ m => g ρ m
  | r => r
theorem pdb_nil : PDB X W [] sNext := PSs.imp pss_nil fun D σ H ⟨μ, ρ, m, hH, hS, q⟩ => q σ H μ .refl hH hS
theorem pdb_cons {f g : MS} (h1 : PDS X W st f) (h2 : PDB X W rest g) : PDB X W (st :: rest) (sSeq f g) :=
  PSs.imp (pss_cons h1 h2) fun D σ H ⟨μ, ρ, m, hH, hS, q⟩ => by
    refine ⟨μ, ρ, m, hH, hS, ?_⟩
    unfold sSeq at q
    cases e : f ρ m with
    | nx ρ1 m1 => rw [e] at q; exact fun σ' H' μ' e1 hH1 hS1 => ⟨μ', ρ1, m1, hH1, hS1, q.ext e1⟩
    | no => rw [e] at q; exact q
    | exc x ρ1 m1 => rw [e] at q; exact q
    | rt d m1 => rw [e] at q; exact q
    | bk ρ1 m1 => rw [e] at q; exact q
    | ct ρ1 m1 => rw [e] at q; exact q
theorem pdb_one {f : MS} (h : PDS X W st f) : PDB X W [st] (sSeq f sNext) := pdb_cons h pdb_nil
def sSet (i : Nat) (f : ME) : MS := fun ρ m => bindS (f ρ m) ρ fun d m => .nx (ρ.set i (some d)) m
theorem pds_set (i : Nat) {x : Str} {e : Expr} {f : ME} {pos' : Pos} (hN : X.N.Nodup) (he : PD X W e f) (hi : X.N[i]? = some x := by rfl) (hx : Loc X.env.scope x := by first | exact .inl rfl | exact .inr rfl) (hs : swapsWith e (some (.Name x pos')) pos.line X.env = pure false := by rfl)
    (hf : X.fn x = true ∨ X.env.scope.names.lookup x = some .local := by first | exact .inl rfl | exact .inr rfl | assumption) : PDS X W (.Assign [.Name x pos'] e pos) (sSet i f) :=
  PS.imp (ps_set hN hi hx he hs hf) fun D σ H ⟨μ, ρ, m, hH, hS, q⟩ => seqS q hH hS fun d m1 v H1 μ1 e1 hH1 r1 hS1 q1 => q1 _ H1 μ1 .refl hH1 (hS1.set r1 i)
def sRet (f : ME) : MS := fun ρ m => bindS (f ρ m) ρ fun d m => .rt d m
theorem pds_ret {f : ME} (he : PD X W e f) : PDS X W (.Return (some e) pos) (sRet f) :=
  PS.imp (ps_ret he) fun D σ H ⟨μ, ρ, m, hH, hS, q⟩ => seqS q hH hS fun d m1 v H1 μ1 e1 hH1 r1 hS1 q1 => q1 v H1 μ1 .refl hH1 r1
def sRetN : MS := fun _ m => .rt .non m
theorem pds_retN : PDS X W (.Return none pos) sRetN := PS.imp ps_retN fun D σ H ⟨μ, ρ, m, hH, hS, q⟩ => q _ H μ .refl hH (by simp [RV])
def sDo (f : ME) : MS := fun ρ m => bindS (f ρ m) ρ fun _ m => .nx ρ m
theorem pds_expr {f : ME} (he : PD X W e f) (hs : swapsWith e none pos.line X.env = pure false := by rfl) : PDS X W (.Expr e pos) (sDo f) :=
  PS.imp (ps_expr he hs) fun D σ H ⟨μ, ρ, m, hH, hS, q⟩ => seqS q hH hS fun d m1 v H1 μ1 e1 hH1 r1 hS1 q1 => q1 σ H1 μ1 .refl hH1 hS1
def sIf (c : MT) (f g : MS) : MS := fun ρ m => bindS (c ρ m) ρ fun b m => if b = true then f ρ m else g ρ m
theorem pds_if {c : Expr} {fc : MT} {body orelse : List Stmt} {f g : MS} (hc : PDT X W c fc) (h1 : PDB X W body f) (h2 : PDB X W orelse g) : PDS X W (.If c body orelse pos) (sIf fc f g) :=
  PS.imp (ps_if hc h1 h2) fun D σ H ⟨μ, ρ, m, hH, hS, q⟩ => seqS q hH hS fun d m1 v H1 μ1 e1 hH1 r1 hS1 q1 => by
    subst r1
    cases d with
    | true => rw [if_pos rfl]; exact ⟨μ1, ρ, m1, hH1, hS1, q1⟩
    | false => rw [if_neg Bool.false_ne_true]; exact ⟨μ1, ρ, m1, hH1, hS1, q1⟩
def sBk : MS := fun ρ m => .bk ρ m
def sCt : MS := fun ρ m => .ct ρ m
theorem pds_break : PDS X W (.Break pos) sBk := PS.imp ps_break fun D σ H ⟨μ, ρ, m, hH, hS, q⟩ => q σ H μ .refl hH hS
theorem pds_cont : PDS X W (.Continue pos) sCt := PS.imp ps_continue fun D σ H ⟨μ, ρ, m, hH, hS, q⟩ => q σ H μ .refl hH hS
theorem pds_pass : PDS X W (.Pass pos) sNext := PS.imp ps_pass fun D σ H ⟨μ, ρ, m, hH, hS, q⟩ => q σ H μ .refl hH hS
end
end
end FL

set_option maxRecDepth 100000
namespace FL
open PySem L2

/-! ### what is walked -/
/-- an iterator that gives these data as long as the heap goes on and the guard holds -/
def Goes1 (K : PySem.W.Frag) (J : It) (H0 : Hp) (μ0 : Mu) (ds : List D) (gd : Me → Bool) : Prop :=
  ∀ H μ m, Tr K H0 μ0 H μ → RH K H μ m → gd m = true →
    (∀ i d, ds[i]? = some d → J.go i H ∧ ∀ x H', J.yld i H x H' → Ext K H μ H' μ ∧ RH K H' μ m ∧ RV K H' μ d x) ∧ J.stop ds.length H
abbrev RIt (K : PySem.W.Frag) : Hp → Mu → List D × (Me → Bool) → It → Prop := fun H μ p J => p.1.length ≤ sizeLine ∧ Goes1 K J H μ p.1 p.2
abbrev MI := En → Me → Res (List D × (Me → Bool))
abbrev PDI (X : Cx) (W : WX) (tg e : Expr) (f : MI) : Prop := PI X tg e (tR X.K W (RIt X.K) f)
section
variable {X : Cx} {W : WX} {tg e a b : Expr} {es : List Expr} {p pos : Pos}
theorem _root_.L2.PI.imp {t t' : TI} (h : PI X tg e t) (w : ∀ σ H R, t' σ H R → t σ H R) : PI X tg e t' := ⟨fun pins s σ H R I q => h.run pins s σ H R I (w σ H R q)⟩
/-- a list or a tuple -/
theorem pi_seq {te : TE} (he : PE X e te) : PI X tg e (fun σ H R => te σ H fun x H1 => (∃ a, x = .ref a ∧ (∃ xs, SqL X.K H1 a xs) ∧ R (Itl X.K a) H1) ∨ ∃ a, x = .ref a ∧ (∃ xs, SqT X.K H1 a xs) ∧ R (Itt X.K a) H1) := by
  constructor
  intro pins s σ H R I h
  refine thn (he.run pins s σ H _ I h) ?_
  rintro v s1 ⟨x, H1, I1, r1, ⟨a, rfl, ⟨xs, hq⟩, q⟩ | ⟨a, rfl, ⟨xs, hq⟩, q⟩⟩
  all_goals cases r1
  · obtain ⟨its, _, pl, _⟩ := I1.list hq
    refine wpAny_pyIter_list pl.isList ⟨_, [s1.heap.objs.size], _, _, H1, rfl, ?_, turn_list a _, ?_, ?_, q⟩
    · exact I1.kept (t' := s1.toks) fun b o z => Heap.get?_push_of_some _ z
    · exact ⟨_, Heap.get?_push_size _ rfl, rfl, rfl⟩
    · intro b hb
      rw [List.mem_singleton.mp hb]
      exact I1.fpOk (Nat.le_refl _) (I1.hok.fresh (Nat.le_refl _))
  · obtain ⟨its, _, pl, _⟩ := I1.tuple hq
    refine wpAny_pyIter_tuple (show s1.heap.IsTuple a its.toArray from pl) ⟨_, [s1.heap.objs.size], _, _, H1, rfl, ?_, turn_tuple a _, ?_, ?_, q⟩
    · exact I1.kept (t' := s1.toks) fun b o z => Heap.get?_push_of_some _ z
    · exact ⟨_, Heap.get?_push_size _ rfl, rfl, rfl⟩
    · intro b hb
      rw [List.mem_singleton.mp hb]
      exact I1.fpOk (Nat.le_refl _) (I1.hok.fresh (Nat.le_refl _))
def gdY : Me → Bool := fun _ => true
noncomputable def gdL (i : Nat) (ds : List D) : Me → Bool := fun m => @decide (m[i]? = some (.lst ds)) (Classical.propDecidable _)
/-- the items of a sequence -/
noncomputable def asIt (d : D) (m : Me) : Res (List D × (Me → Bool)) := match d with
  | .tup ds => .ok (ds, gdY) m
  | .lst ds => .ok (ds, gdY) m
  | .ref i => match m[i]? with
    | some (.lst ds) => .ok (ds, gdL i ds) m
    | _ => .no
  | _ => .no
noncomputable def iSeq (f : ME) : MI := fun ρ m => (f ρ m).bind asIt
theorem SqL.ext {K : PySem.W.Frag} {H H' : Hp} {μ μ' : Mu} (x : Tr K H μ H' μ') {a : Addr} {vs : List V} (n : a ∉ μ.l ∧ a ∉ μ.h) (h : H a = some (.lst vs)) : SqL K H' a vs := .of (x.dat a (.lst vs) n trivial h).1
theorem goes_list {K : PySem.W.Frag} {H : Hp} {μ : Mu} {a : Addr} {vs : List V} {ds : List D} (n : a ∉ μ.l ∧ a ∉ μ.h) (h : H a = some (.lst vs)) (r : RVs K H μ ds vs) : Goes1 K (Itl K a) H μ ds gdY := by
  intro H1 μ1 m x hH _
  have hs := SqL.ext x n h
  have r1 := RVs.map x _ _ r
  refine ⟨fun i d e => ?_, vs, hs, by rw [r1.length]; exact Nat.le_refl _⟩
  obtain ⟨v, h1, h2⟩ := r1.get e
  refine ⟨⟨vs, v, hs, h1⟩, ?_⟩
  rintro y H' ⟨rfl, hy⟩
  have hy' := hy vs hs
  rw [h1] at hy'; cases hy'
  exact ⟨.refl, hH, h2⟩
theorem goes_tup {K : PySem.W.Frag} {H : Hp} {μ : Mu} {a : Addr} {vs : List V} {ds : List D} (h : TupN K H a vs) (r : RVs K H μ ds vs) : Goes1 K (Itt K a) H μ ds gdY := by
  intro H1 μ1 m x hH _
  have hs := (x.tup a vs h).sq
  have r1 := RVs.map x _ _ r
  refine ⟨fun i d e => ?_, vs, hs, by rw [r1.length]; exact Nat.le_refl _⟩
  obtain ⟨v, h1, h2⟩ := r1.get e
  refine ⟨⟨vs, v, hs, h1⟩, ?_⟩
  rintro y H' ⟨rfl, hy⟩
  have hy' := hy vs hs
  rw [h1] at hy'; cases hy'
  exact ⟨.refl, hH, h2⟩
theorem goes_cell {K : PySem.W.Frag} {H : Hp} {μ : Mu} {a : Addr} {i : Nat} {ds : List D} (ha : μ.l[i]? = some a) : Goes1 K (Itl K a) H μ ds (gdL i ds) := by
  intro H1 μ1 m x hH g
  have g' : m[i]? = some (.lst ds) := @of_decide_eq_true _ (Classical.propDecidable _) g
  obtain ⟨a', e, vs, h1, hz, r1⟩ := hH.at' i _ g'
  rw [x.get i a ha] at e; cases e
  have hs : SqL K H1 a vs := .of h1
  refine ⟨fun j d e => ?_, vs, hs, by rw [r1.length]; exact Nat.le_refl _⟩
  obtain ⟨v, h3, h2⟩ := r1.get e
  refine ⟨⟨vs, v, hs, h3⟩, ?_⟩
  rintro y H' ⟨rfl, hy⟩
  have hy' := hy vs hs
  rw [h3] at hy'; cases hy'
  exact ⟨.refl, hH, h2⟩
theorem pdi_seq {f : ME} (he : PD X W e f) : PDI X W tg e (iSeq f) :=
  PI.imp (pi_seq he) fun σ H R ⟨μ, ρ, m, hH, hS, q⟩ => seqR q hH hS fun d m1 v H1 μ1 e1 hH1 r1 hS1 q1 => by
    cases d with
    | tup ds =>
      simp only [RVv, RV] at r1
      obtain ⟨a, vs, rfl, hs, hz, hr⟩ := r1
      exact .inr ⟨a, rfl, ⟨vs, hs.sq⟩, q1 _ H1 μ1 .refl hH1 ⟨by rw [hr.length]; exact hz, goes_tup hs hr⟩⟩
    | lst ds =>
      simp only [RVv, RV] at r1
      obtain ⟨a, vs, rfl, hn, hs, hz, hr⟩ := r1
      exact .inl ⟨a, rfl, ⟨vs, .of hs⟩, q1 _ H1 μ1 .refl hH1 ⟨by rw [hr.length]; exact hz, goes_list hn hs hr⟩⟩
    | ref i =>
      simp only [RVv, RV] at r1
      obtain ⟨a, rfl, ha⟩ := r1
      unfold asIt at q1
      cases e : m1[i]? with
      | none => simp only [e] at q1; exact q1.elim
      | some c =>
        cases c with
        | lst ds =>
          simp only [e] at q1
          obtain ⟨a', e', vs, h1, hz, r2⟩ := hH1.at' i _ e
          rw [ha] at e'; cases e'
          exact .inl ⟨a, rfl, ⟨vs, .of h1⟩, q1 _ H1 μ1 .refl hH1 ⟨by rw [r2.length]; exact hz, goes_cell ha⟩⟩
        | _ => simp only [e] at q1; exact q1.elim
    | _ => exact q1.elim
/-- ranges of at most a million -/
def rngL (i : Int) (n : Nat) : List D := (List.range n).map fun (k : Nat) => .int (i + k)
theorem goes_rng {K : PySem.W.Frag} {H : Hp} {μ : Mu} {i : Int} {n : Nat} : Goes1 K (Itr i n) H μ (rngL i n) gdY := by
  intro H1 μ1 m x hH _
  refine ⟨fun j d e => ?_, by show n ≤ (rngL i n).length; simp [rngL]⟩
  have hj : j < n := by
    have := (List.getElem?_eq_some_iff.mp e).1
    simpa [rngL] using this
  refine ⟨hj, ?_⟩
  rintro y H' ⟨rfl, rfl⟩
  have : d = .int (i + j) := by
    simp [rngL, hj] at e
    exact e.symm
  subst this
  exact ⟨.refl, hH, by simp [RV]⟩
def iRange1 (f : MA) : MI := fun ρ m => (f ρ m).bind fun ds m => match ds with
  | [.int j] => if j ≤ 1000000 ∧ -1000000 ≤ j then .ok (rngL 0 j.toNat, gdY) m else .no
  | _ => .no
def iRange2 (f : MA) : MI := fun ρ m => (f ρ m).bind fun ds m => match ds with
  | [.int i, .int j] => if (j ≤ 1000000 ∧ -1000000 ≤ j) ∧ i ≤ 1000000 ∧ -1000000 ≤ i then .ok (rngL i (j - i).toNat, gdY) m else .no
  | _ => .no
theorem small62 {j : Int} (h : j ≤ 1000000 ∧ -1000000 ≤ j) : -(2 ^ 62) ≤ j ∧ j < 2 ^ 62 := by omega
theorem rng_len {i : Int} {n : Nat} (h : n ≤ 2000000) : (rngL i n).length ≤ sizeLine := by
  rw [sizeLine_eq]; simp [rngL]; omega
theorem ints1 {K : PySem.W.Frag} {H : Hp} {μ : Mu} {j : Int} {vs : List V} (r : RVs K H μ [.int j] vs) : vs = [.int j] := by
  simp only [RVs, RV] at r
  obtain ⟨v, r, rfl, rfl, rfl⟩ := r
  rfl
theorem ints2 {K : PySem.W.Frag} {H : Hp} {μ : Mu} {i j : Int} {vs : List V} (r : RVs K H μ [.int i, .int j] vs) : vs = [.int i, .int j] := by
  simp only [RVs, RV] at r
  obtain ⟨v, r, rfl, rfl, v', r', rfl, rfl, rfl⟩ := r
  rfl
theorem pdi_range1 {f : MA} (hg : Gl X "range") (hm : X.mg "range" = none) (ha : PDA X W 1 [a] f) (hs : starEach [a] X.env = [(false, eval a X.env)] := by rfl) : PDI X W tg (.Call (.Name "range" p) [a] [] pos) (iRange1 f) :=
  PI.imp (pi_range1 hg hm ha hs) fun σ H R ⟨μ, ρ, m, hH, hS, q⟩ => seqR q hH hS fun ds m1 vs H1 μ1 e1 hH1 r1 hS1 q1 => by
    split at q1
    · rename_i j
      split at q1
      · rename_i hj
        refine ⟨j, ints1 r1.1, (small62 hj).1, (small62 hj).2, q1 _ H1 μ1 .refl hH1 ⟨rng_len (by omega), goes_rng⟩⟩
      · exact q1.elim
    · exact q1.elim
theorem pdi_range2 {f : MA} (hg : Gl X "range") (hm : X.mg "range" = none) (ha : PDA X W 2 [a, b] f) (hs : starEach [a, b] X.env = [(false, eval a X.env), (false, eval b X.env)] := by rfl) (hs2 : starEach [b] X.env = [(false, eval b X.env)] := by rfl) :
    PDI X W tg (.Call (.Name "range" p) [a, b] [] pos) (iRange2 f) :=
  PI.imp (pi_range2 hg hm ha hs hs2) fun σ H R ⟨μ, ρ, m, hH, hS, q⟩ => seqR q hH hS fun ds m1 vs H1 μ1 e1 hH1 r1 hS1 q1 => by
    split at q1
    · rename_i i j
      split at q1
      · rename_i hj
        refine ⟨i, j, ints2 r1.1, ⟨(small62 hj.2).1, (small62 hj.2).2, (small62 hj.1).1, (small62 hj.1).2⟩, q1 _ H1 μ1 .refl hH1 ⟨rng_len (by omega), goes_rng⟩⟩
      · exact q1.elim
    · exact q1.elim
end

/-! ### targets -/
theorem wipe_get (vs : List Nat) : ∀ (σ : St) (j : Nat), (wipe σ vs)[j]? = if j ∈ vs then (σ[j]?).map fun _ => none else σ[j]? := by
  induction vs with
  | nil => intro σ j; simp [wipe]
  | cons v vs ih =>
    intro σ j
    unfold wipe
    by_cases hv : v = j
    · subst hv
      rw [List.getElem?_set]
      simp only [if_true, wipe_length, List.mem_cons, true_or]
      by_cases hl : v < σ.length
      · simp [hl]
      · simp [hl]
    · rw [List.getElem?_set_ne hv, ih]
      have : (j ∈ v :: vs) ↔ j ∈ vs := by
        rw [List.mem_cons]; constructor
        · rintro (h | h)
          · exact absurd h.symm hv
          · exact h
        · exact .inr
      simp only [this]
theorem wipe_ext {σ σ' : St} {vs : List Nat} (hl : σ.length = σ'.length) (h : ∀ j, j ∉ vs → σ[j]? = σ'[j]?) : wipe σ vs = wipe σ' vs := by
  apply List.ext_getElem?
  intro j
  rw [wipe_get, wipe_get]
  by_cases hj : j ∈ vs
  · simp only [hj, if_true]
    by_cases hl' : j < σ.length
    · rw [List.getElem?_eq_getElem hl', List.getElem?_eq_getElem (by omega)]; rfl
    · rw [List.getElem?_eq_none (by omega), List.getElem?_eq_none (by omega)]
  · simp only [hj, if_false]; exact h j hj
def wipeD (ρ : En) : List Nat → En
  | [] => ρ
  | v :: vs => (wipeD ρ vs).set v none
theorem RS.none {K : PySem.W.Frag} {H : Hp} {μ : Mu} {ρ : En} {σ : St} (h : RS K H μ ρ σ) (i : Nat) : RS K H μ (ρ.set i none) (σ.set i none) := by
  refine ⟨by rw [List.length_set, List.length_set]; exact h.1, fun j e q => ?_⟩
  by_cases hj : i = j
  · subst hj
    by_cases hl : i < ρ.length
    · rw [List.getElem?_set_self hl] at q; cases q
    · rw [List.getElem?_eq_none (by rw [List.length_set]; omega)] at q; cases q
  · rw [List.getElem?_set_ne hj] at q ⊢
    exact h.2 j e q
theorem RS.wipe {K : PySem.W.Frag} {H : Hp} {μ : Mu} {ρ : En} {σ : St} (h : RS K H μ ρ σ) : ∀ vs : List Nat, RS K H μ (wipeD ρ vs) (wipe σ vs)
  | [] => h
  | v :: vs => (RS.wipe h vs).none v
/-- a target's rule and what it does to the names -/
def TgOk (K : PySem.W.Frag) (t : TG) (is : List Nat) (gt : D → En → Option En) : Prop := ∀ (d : D) (v : V) (ρ ρ' : En) (σ : St) (H : Hp) (μ : Mu) (Q : St → Hp → Prop), RS K H μ ρ σ → RV K H μ d v → gt d ρ = some ρ' →
  (∀ σ', RS K H μ ρ' σ' → σ'.length = σ.length → (∀ j, j ∉ is → σ'[j]? = σ[j]?) → Q σ' H) → t v σ H Q
def TgsOk (K : PySem.W.Frag) (t : TGs) (is : List Nat) (gt : List D → En → Option En) : Prop := ∀ (d : List D) (v : List V) (ρ ρ' : En) (σ : St) (H : Hp) (μ : Mu) (Q : St → Hp → Prop), RS K H μ ρ σ → RVs K H μ d v → gt d ρ = some ρ' →
  (∀ σ', RS K H μ ρ' σ' → σ'.length = σ.length → (∀ j, j ∉ is → σ'[j]? = σ[j]?) → Q σ' H) → t v σ H Q
def tgN (i : Nat) (d : D) (ρ : En) : Option En := some (ρ.set i (some d))
def tgNil (ds : List D) (ρ : En) : Option En := match ds with
  | [] => some ρ
  | _ => none
def tgCons (g : D → En → Option En) (gs : List D → En → Option En) (ds : List D) (ρ : En) : Option En := match ds with
  | d :: r => (g d ρ).bind (gs r)
  | [] => none
def tgTup (n : Nat) (gs : List D → En → Option En) (d : D) (ρ : En) : Option En := match d with
  | .tup ds => if ds.length = n then gs ds ρ else none
  | _ => none
section
variable {K : PySem.W.Frag}
theorem tg_n {i : Nat} : TgOk K (gName i) [i] (tgN i) := fun d v ρ ρ' σ H μ Q hS r e h => by
  cases e
  exact h _ (hS.set r i) (List.length_set ..) fun j hj => List.getElem?_set_ne fun z => hj (by simp [z])
theorem tgs_nil : TgsOk K gNil [] tgNil := fun ds vs ρ ρ' σ H μ Q hS r e h => by
  cases ds with
  | cons => cases e
  | nil =>
    cases e
    simp only [RVs] at r
    exact ⟨r, h σ hS rfl fun _ _ => rfl⟩
theorem tgs_cons {t : TG} {ts : TGs} {is js : List Nat} {g : D → En → Option En} {gs : List D → En → Option En} (h1 : TgOk K t is g) (h2 : TgsOk K ts js gs) : TgsOk K (gCons t ts) (is ++ js) (tgCons g gs) := fun ds vs ρ ρ' σ H μ Q hS r e h => by
  cases ds with
  | nil => cases e
  | cons d ds =>
    simp only [RVs] at r
    obtain ⟨v, vr, rfl, r1, r2⟩ := r
    cases e1 : g d ρ with
    | none => simp [tgCons, e1] at e
    | some ρ1 =>
      simp only [tgCons, e1, Option.bind_some] at e
      refine ⟨v, vr, rfl, h1 d v ρ ρ1 σ H μ _ hS r1 e1 fun σ1 hS1 l1 s1 => ?_⟩
      refine h2 ds vr ρ1 ρ' σ1 H μ Q hS1 r2 e fun σ2 hS2 l2 s2 => h σ2 hS2 (l2.trans l1) fun j hj => ?_
      rw [s2 j fun z => hj (List.mem_append_right _ z), s1 j fun z => hj (List.mem_append_left _ z)]
theorem tg_tup {n : Nat} {ts : TGs} {is : List Nat} {gs : List D → En → Option En} (h : TgsOk K ts is gs) : TgOk K (gTup K n ts) is (tgTup n gs) := fun d v ρ ρ' σ H μ Q hS r e hq => by
  cases d with
  | tup ds =>
    simp only [RV] at r
    obtain ⟨a, vs, rfl, hs, hz, hr⟩ := r
    unfold tgTup at e
    simp only at e
    split at e
    · rename_i hn
      exact ⟨a, vs, rfl, hs.sq, by rw [← hr.length]; exact hn, h ds vs ρ ρ' σ H μ Q hS hr e hq⟩
    · cases e
  | _ => cases e
end
section
variable {X : Cx} {W : WX} {tg e : Expr} {pos : Pos}
def sAsg (gt : D → En → Option En) (f : ME) : MS := fun ρ m => bindS (f ρ m) ρ fun d m => match gt d ρ with
  | some ρ' => .nx ρ' m
  | none => .no
theorem pds_asg {t : TG} {is : List Nat} {gt : D → En → Option En} {f : ME} (he : PD X W e f) (hg : PG X tg t) (ht : TgOk X.K t is gt) (hs : swapsWithSole [tg] e pos.line X.env = pure false := by rfl) (hw : swappedStores [tg] e X.env = pure none := by rfl)
    (h1 : (assignEach [tg] X.env).map (·.2) = [assign tg X.env] := by rfl) : PDS X W (.Assign [tg] e pos) (sAsg gt f) :=
  PS.imp (ps_asg he hg hs hw h1) fun D σ H ⟨μ, ρ, m, hH, hS, q⟩ => seqS q hH hS fun d m1 v H1 μ1 e1 hH1 r1 hS1 q1 => by
    cases e2 : gt d ρ with
    | none => rw [e2] at q1; exact q1.elim
    | some ρ' =>
      rw [e2] at q1
      exact ht d v ρ ρ' σ H1 μ1 _ hS1 r1 e2 fun σ' hS' _ _ => q1 σ' H1 μ1 .refl hH1 hS'
end

/-! ### for -/
def forF (gt : D → En → Option En) (body : MS) (gd : Me → Bool) : List D → En → Me → Fl
  | [], ρ, m => if gd m = true then .nx ρ m else .no
  | d :: r, ρ, m => if gd m = true then match gt d ρ with
      | none => .no
      | some ρ1 => match body ρ1 m with
        | .nx ρ2 m2 => forF gt body gd r ρ2 m2
        | .ct ρ2 m2 => forF gt body gd r ρ2 m2
        | .bk ρ2 m2 => .nx ρ2 m2
        | .rt d m => .rt d m
        | .exc x ρ m => .exc x ρ m
        | .no => .no
    else .no
def sFor (it : MI) (gt : D → En → Option En) (body : MS) : MS := fun ρ m => bindS (it ρ m) ρ fun p m => forF gt body p.2 p.1 ρ m
section
variable {X : Cx} {W : WX} {tg iter : Expr} {body : List Stmt} {pos : Pos}
theorem pds_for {t : TG} {is : List Nat} {gt : D → En → Option En} {it : MI} {f : MS} (hp : PassesOwn (model X.prog X.w) X.A X.env X.xe) (hc : X.calm = true) (hi : PDI X W tg iter it) (hg : PG X tg t) (ht : TgOk X.K t is gt) (hb : PDB X W body f)
    (hs : ∀ x, foldedSetIterable iter X.env x = pure x := by intro _; rfl) : PDS X W (.For tg iter body [] pos) (sFor it gt f) :=
  PS.imp (ps_for hp hc hi hg hb hs) fun D σ H ⟨μ, ρ, m, hH, hS, q⟩ => seqS q hH hS fun pr m1 J H1 μ1 e1 hH1 r1 hS1 q1 => by
    obtain ⟨ds, gd⟩ := pr
    obtain ⟨hz, go⟩ := r1
    dsimp only at go hz q1
    refine ⟨fun i k σ H => k = ds.length - i ∧ i ≤ ds.length ∧ ∃ μ ρ m, Ext X.K H1 μ1 H μ ∧ RH X.K H μ m ∧ RS X.K H μ ρ σ ∧ OkS X.K W H μ D (forF gt f gd (ds.drop i) ρ m),
      ⟨ds.length, by simp, Nat.zero_le _, μ1, ρ, m1, .refl, hH1, hS1, by simpa using q1⟩, ?_⟩
    rintro i k σ2 H2 ⟨rfl, hi', μ2, ρ2, m2, x2, hH2, hS2, q2⟩
    by_cases hlt : i < ds.length
    · have hd : ds.drop i = ds[i] :: ds.drop (i + 1) := List.drop_eq_getElem_cons hlt
      rw [hd] at q2
      unfold forF at q2
      by_cases hgd : gd m2 = true
      · rw [if_pos hgd] at q2
        obtain ⟨hgo, _⟩ := go H2 μ2 m2 x2.tr hH2 hgd
        obtain ⟨g1, g2⟩ := hgo i ds[i] (List.getElem?_eq_getElem hlt)
        refine .inr ⟨g1, fun σ' H' => i + 1 ≤ ds.length ∧ ∃ μ ρ m, Ext X.K H1 μ1 H' μ ∧ RH X.K H' μ m ∧ RS X.K H' μ ρ σ' ∧ OkS X.K W H' μ D (forF gt f gd (ds.drop (i + 1)) ρ m),
          fun σ' H' hN => ⟨ds.length - (i + 1), by omega, rfl, hN⟩, fun y H3 hy => ?_⟩
        obtain ⟨x3, hH3, r3⟩ := g2 y H3 hy
        cases e3 : gt ds[i] ρ2 with
        | none => simp only [e3] at q2; exact q2.elim
        | some ρ3 =>
          simp only [e3] at q2
          refine ht ds[i] y ρ2 ρ3 σ2 H3 μ2 _ (hS2.ext x3) r3 e3 fun σ3 hS3 _ _ => ?_
          refine ⟨μ2, ρ3, m2, hH3, hS3, ?_⟩
          have q3 := q2.ext x3
          cases e4 : f ρ3 m2 with
          | no => simp only [e4] at q3; exact q3
          | exc x ρ m => simp only [e4] at q3; exact q3
          | rt d m => simp only [e4] at q3; exact q3
          | nx ρ4 m4 => simp only [e4] at q3; exact fun σ' H' μ' x4 hH4 hS4 => ⟨hlt, μ', ρ4, m4, (x2.trans x3).trans x4, hH4, hS4, q3.ext x4⟩
          | ct ρ4 m4 => simp only [e4] at q3; exact fun σ' H' μ' x4 hH4 hS4 => ⟨hlt, μ', ρ4, m4, (x2.trans x3).trans x4, hH4, hS4, q3.ext x4⟩
          | bk ρ4 m4 => simp only [e4] at q3; exact fun σ' H' μ' x4 hH4 hS4 => q3 σ' H' μ' x4 hH4 hS4
      · rw [if_neg hgd] at q2; exact q2.elim
    · have hi2 : i = ds.length := by omega
      subst hi2
      rw [List.drop_length] at q2
      unfold forF at q2
      by_cases hgd : gd m2 = true
      · rw [if_pos hgd] at q2
        exact .inl ⟨(go H2 μ2 m2 x2.tr hH2 hgd).2, q2 σ2 H2 μ2 .refl hH2 hS2⟩
      · rw [if_neg hgd] at q2; exact q2.elim
/-! ### while, by a number of turns -/
def whF (c : MT) (body : MS) : Nat → En → Me → Fl
  | 0, _, _ => .no
  | n + 1, ρ, m => bindS (c ρ m) ρ fun b m => if b = true then match body ρ m with
      | .nx ρ2 m2 => whF c body n ρ2 m2
      | .ct ρ2 m2 => whF c body n ρ2 m2
      | .bk ρ2 m2 => .nx ρ2 m2
      | .rt d m => .rt d m
      | .exc x ρ m => .exc x ρ m
      | .no => .no
    else .nx ρ m
theorem pds_while {c : Expr} {fc : MT} {f : MS} (n : Nat) (hp : PassesOwn (model X.prog X.w) X.A X.env X.xe) (hc : PDT X W c fc) (hb : PDB X W body f) : PDS X W (.While c body [] pos) (whF fc f n) :=
  PS.imp (ps_while hp hc hb) fun D σ H ⟨μ, ρ, m, hH, hS, q⟩ => by
    refine ⟨fun k σ H => ∃ μ ρ m, RH X.K H μ m ∧ RS X.K H μ ρ σ ∧ OkS X.K W H μ D (whF fc f k ρ m), ⟨n, μ, ρ, m, hH, hS, q⟩, ?_⟩
    rintro k σ1 H1 ⟨μ1, ρ1, m1, hH1, hS1, q1⟩
    cases k with
    | zero => exact q1.elim
    | succ k =>
      unfold whF at q1
      refine seqS q1 hH1 hS1 fun d m2 v H2 μ2 e2 hH2 r2 hS2 q2 => ?_
      subst r2
      cases d with
      | false =>
        rw [if_neg Bool.false_ne_true] at q2 ⊢
        exact q2 σ1 H2 μ2 .refl hH2 hS2
      | true =>
        rw [if_pos rfl] at q2 ⊢
        refine ⟨fun σ' H' => ∃ μ ρ m, RH X.K H' μ m ∧ RS X.K H' μ ρ σ' ∧ OkS X.K W H' μ D (whF fc f k ρ m), fun σ' H' hN => ⟨k, Nat.lt_succ_self k, hN⟩, ?_⟩
        refine ⟨μ2, ρ1, m2, hH2, hS2, ?_⟩
        cases e4 : f ρ1 m2 with
        | no => simp only [e4] at q2; exact q2
        | exc x ρ m => simp only [e4] at q2; exact q2
        | rt d m => simp only [e4] at q2; exact q2
        | nx ρ4 m4 => simp only [e4] at q2; exact fun σ' H' μ' x4 hH4 hS4 => ⟨μ', ρ4, m4, hH4, hS4, q2.ext x4⟩
        | ct ρ4 m4 => simp only [e4] at q2; exact fun σ' H' μ' x4 hH4 hS4 => ⟨μ', ρ4, m4, hH4, hS4, q2.ext x4⟩
        | bk ρ4 m4 => simp only [e4] at q2; exact fun σ' H' μ' x4 hH4 hS4 => q2 σ' H' μ' x4 hH4 hS4
end
end FL

set_option maxRecDepth 100000
namespace FL
open PySem L2

/-! ### comprehensions -/
def noX {α : Type} (r : Res α) : Res α := match r with
  | .exc _ _ => .no
  | r => r
@[simp] theorem noX_ok {α : Type} {a : α} {m : Me} : noX (.ok a m) = .ok a m := rfl
@[simp] theorem noX_no {α : Type} : noX (.no : Res α) = .no := rfl
@[simp] theorem noX_exc {α : Type} {x : Exn} {m : Me} : noX (.exc x m : Res α) = .no := rfl
abbrev WF : WX := fun _ _ _ _ => False
def compF (gt : D → En → Option En) (c : MT) (e : ME) (gd : Me → Bool) (ρ : En) : List D → Me → Res (List D)
  | [], m => if gd m = true then .ok [] m else .no
  | d :: r, m => if gd m = true then match gt d ρ with
      | none => .no
      | some ρ1 => (noX (c ρ1 m)).bind fun b m1 => if b = true then (noX (e ρ1 m1)).bind fun y m2 => (compF gt c e gd ρ r m2).bind fun ys m3 => .ok (y :: ys) m3 else compF gt c e gd ρ r m1
    else .no
def mComp (it : MI) (vs : List Nat) (gt : D → En → Option En) (c : MT) (e : ME) : ME := fun ρ m => (it ρ m).bind fun p m => (noX (compF gt c e p.2 (wipeD ρ vs) p.1 m)).bind fun ys m => .ok (.lst ys) m
def cYes : MT := fun _ m => .ok true m

section
variable {K : PySem.W.Frag}
theorem Ok.noX' {α β : Type} {Ex Ex' : XK} {H : Hp} {μ : Mu} {R : Hp → Mu → α → β → Prop} {Q : β → Hp → Prop} {r : Res α} (h : Ok K Ex H μ R Q (noX r)) : Ok K Ex' H μ R Q r := by
  cases r with
  | no => exact h
  | exc x m => exact h.elim
  | ok a m => exact h
/-- the list so far and what the rest comes to -/
def Fin (K : PySem.W.Frag) (H1 : Hp) (μ1 : Mu) (A : Addr) (Q : VK) (acc : List D) (r : Res (List D)) : Prop := match r with
  | .ok ys m' => ∀ (H' : Hp) (l' : List Addr) (vs : List V), Ext K H1 μ1 H' ⟨l', μ1.h⟩ → RH K H' ⟨l', A :: μ1.h⟩ m' → H' A = some (.lst vs) → A ∉ l' → RVs K H' ⟨l', A :: μ1.h⟩ (acc ++ ys) vs → vs.length ≤ sizeLine → Q (.ref A) H'
  | _ => False
theorem wipe_twice {σ : St} {vs : List Nat} : wipe (wipe σ vs) vs = wipe σ vs := wipe_ext (wipe_length σ vs) fun j hj => by rw [wipe_get, if_neg hj]
/-- the reading of a comprehension -/
theorem comp_core {J : It} {g : TG} {is vs : List Nat} {gt : D → En → Option En} {fc : MT} {fe : ME} {gd : Me → Bool} {ds : List D} {σ : St} {ρ : En} {H1 : Hp} {μ1 : Mu} {m1 : Me} {Q : VK}
    (ht : TgOk K g is gt) (hin : ∀ i ∈ is, i ∈ vs) (hz : ds.length ≤ sizeLine) (go : Goes1 K J H1 μ1 ds gd) (hH : RH K H1 μ1 m1) (hS : RS K H1 μ1 ρ σ) (q : ∀ A, H1 A = none → Fin K H1 μ1 A Q [] (compF gt fc fe gd (wipeD ρ vs) ds m1)) :
    ∀ A, H1 A = none → ∃ W : Nat → Nat → Hp → Prop, (∃ m, W 0 m (upd H1 A (.lst []))) ∧ ∀ i m H, W i m H →
      (J.stop i H ∧ Q (.ref A) H) ∨ (J.go i H ∧ ∃ Nx : Hp → Prop, (∀ H', Nx H' → ∃ m', m' < m ∧ W (i + 1) m' H') ∧ ∀ x H', J.yld i H x H' → g x (wipe σ vs) H' fun σ2 H2 => wipe σ2 vs = wipe σ vs ∧ tR K WF RVB fc σ2 H2 fun b H3 =>
        if b = true then tR K WF (RVv K) fe σ2 H3 fun y H4 => ∃ acc, H4 A = some (.lst acc) ∧ acc.length < sizeLine ∧ Nx (upd H4 A (.lst (acc ++ [y]))) else Nx H3) := by
  intro A nA
  -- what stands at a turn
  let St0 : Nat → Hp → Prop := fun i H => ∃ (l : List Addr) (m : Me) (acc : List D) (us : List V), Ext K H1 μ1 H ⟨l, μ1.h⟩ ∧ Tr K H1 μ1 H ⟨l, A :: μ1.h⟩ ∧ RH K H ⟨l, A :: μ1.h⟩ m ∧ RS K H ⟨l, A :: μ1.h⟩ (wipeD ρ vs) (wipe σ vs) ∧
    H A = some (.lst us) ∧ A ∉ l ∧ RVs K H ⟨l, A :: μ1.h⟩ acc us ∧ us.length ≤ i ∧ Fin K H1 μ1 A Q acc (compF gt fc fe gd (wipeD ρ vs) (ds.drop i) m)
  have tr0 : Tr K H1 μ1 (upd H1 A (.lst [])) ⟨μ1.l, A :: μ1.h⟩ := Tr.hide hH nA
  refine ⟨fun i k H => k = ds.length - i ∧ i ≤ ds.length ∧ St0 i H, ⟨ds.length, by simp, Nat.zero_le _, μ1.l, m1, [], [], Ext.new hH nA, tr0, hH.hide nA, (hS.wipe vs).map tr0, upd_same, hH.notin nA, by simp [RVs], Nat.le_refl _, q A nA⟩, ?_⟩
  rintro i k H ⟨rfl, hi, l, m, acc, us, x, tr, hH2, hS2, hA, nl, ha, hu, fin⟩
  by_cases hlt : i < ds.length
  · have hd : ds.drop i = ds[i] :: ds.drop (i + 1) := List.drop_eq_getElem_cons hlt
    rw [hd] at fin
    unfold compF at fin
    by_cases hgd : gd m = true
    · rw [if_pos hgd] at fin
      obtain ⟨hgo, _⟩ := go H _ m tr hH2 hgd
      obtain ⟨g1, g2⟩ := hgo i ds[i] (List.getElem?_eq_getElem hlt)
      refine .inr ⟨g1, fun H' => i + 1 ≤ ds.length ∧ St0 (i + 1) H', fun H' hN => ⟨ds.length - (i + 1), by omega, rfl, hN⟩, fun y H3 hy => ?_⟩
      obtain ⟨x3, hH3, r3⟩ := g2 y H3 hy
      obtain ⟨hA3, nl3⟩ := x3.dat A (.lst us) nl trivial hA
      have xx : Ext K H1 μ1 H3 ⟨l, μ1.h⟩ := x.trans (x3.reh fun _ z => List.mem_cons_of_mem _ z)
      have tt := tr.trans x3.tr
      have hS3 := hS2.ext x3
      have ha3 := RVs.ext x3 _ _ ha
      cases e3 : gt ds[i] (wipeD ρ vs) with
      | none => simp only [e3] at fin; exact fin.elim
      | some ρ3 =>
        simp only [e3] at fin
        refine ht ds[i] y _ ρ3 _ H3 _ _ hS3 r3 e3 fun σ3 hS4 hl4 hk4 => ⟨?_, ?_⟩
        · have : wipe σ3 vs = wipe (wipe σ vs) vs := wipe_ext hl4 fun j hj => hk4 j fun z => hj (hin j z)
          rw [this, wipe_twice]
        · refine ⟨_, ρ3, m, hH3, hS4, ?_⟩
          cases e4 : fc ρ3 m with
          | no => simp only [e4] at fin; exact fin.elim
          | exc xx' mm => simp only [e4] at fin; exact fin.elim
          | ok b m4 =>
            simp only [e4, noX_ok, Res.bind_ok] at fin
            rintro b' H4 ⟨l4, h4⟩ x4 hH4 rfl
            have eh : h4 = A :: μ1.h := x4.hid
            subst eh
            obtain ⟨hA4, nl4⟩ := x4.dat A (.lst us) nl3 trivial hA3
            have xx4 : Ext K H1 μ1 H4 ⟨l4, μ1.h⟩ := xx.trans (x4.reh fun _ z => List.mem_cons_of_mem _ z)
            have tt4 := tt.trans x4.tr
            have ha4 := RVs.ext x4 _ _ ha3
            cases b with
            | false =>
              rw [if_neg Bool.false_ne_true] at fin ⊢
              exact ⟨hlt, l4, m4, acc, us, xx4, tt4, hH4, hS3.ext x4, hA4, nl4, ha4, by omega, fin⟩
            | true =>
              rw [if_pos rfl] at fin ⊢
              refine ⟨_, ρ3, m4, hH4, hS4.ext x4, ?_⟩
              cases e5 : fe ρ3 m4 with
              | no => simp only [e5] at fin; exact fin.elim
              | exc xx' mm => simp only [e5] at fin; exact fin.elim
              | ok d5 m5 =>
                simp only [e5, noX_ok, Res.bind_ok] at fin
                rintro y5 H5 ⟨l5, h5⟩ x5 hH5 r5
                have eh : h5 = A :: μ1.h := x5.hid
                subst eh
                obtain ⟨hA5, nl5⟩ := x5.dat A (.lst us) nl4 trivial hA4
                have xx5 : Ext K H1 μ1 H5 ⟨l5, μ1.h⟩ := xx4.trans (x5.reh fun _ z => List.mem_cons_of_mem _ z)
                have hm : A ∈ (⟨l5, A :: μ1.h⟩ : Mu).h := List.mem_cons_self
                have gr : Tr K H5 ⟨l5, A :: μ1.h⟩ (upd H5 A (.lst (us ++ [y5]))) ⟨l5, A :: μ1.h⟩ := Tr.grow hm hA5
                refine ⟨us, hA5, by omega, hlt, l5, m5, acc ++ [d5], us ++ [y5], xx5.grow nA hA5, (tt4.trans x5.tr).trans gr, hH5.grow hm nl5 hA5, ((hS3.ext x4).ext x5).map gr, upd_same, nl5,
                  RVs.map gr _ _ ((RVs.ext x5 _ _ ha4).append (RVs.one r5)), by simp; omega, ?_⟩
                cases e6 : compF gt fc fe gd (wipeD ρ vs) (ds.drop (i + 1)) m5 with
                | no => simp only [e6] at fin; exact fin.elim
                | exc xx' mm => simp only [e6] at fin; exact fin.elim
                | ok ys m6 =>
                  simp only [e6, Res.bind_ok] at fin
                  intro H' l' vs' z1 z2 z3 z4 z5 z6
                  exact fin H' l' vs' z1 z2 z3 z4 (by simpa using z5) z6
    · rw [if_neg hgd] at fin; exact fin.elim
  · have hi2 : i = ds.length := by omega
    subst hi2
    rw [List.drop_length] at fin
    unfold compF at fin
    by_cases hgd : gd m = true
    · rw [if_pos hgd] at fin
      exact .inl ⟨(go H _ m tr hH2 hgd).2, fin H l us x hH2 hA nl (by simpa using ha) (by omega)⟩
    · rw [if_neg hgd] at fin; exact fin.elim
end

section
variable {X : Cx} {W : WX} {elt tg iter c : Expr} {scope : Scope} {own : List (Str × Nat)} {pos : Pos} {it : MI} {g : TG} {is : List Nat} {gt : D → En → Option En} {fc : MT} {fe : ME}
theorem comp_imp (ht : TgOk X.K g is gt) (hin : ∀ i ∈ is, i ∈ own.map (·.2)) : ∀ σ H Q, tR X.K W (RVv X.K) (mComp it (own.map (·.2)) gt fc fe) σ H Q → tLc (tR X.K W (RIt X.K) it) g (tR X.K WF RVB fc) (tR X.K WF (RVv X.K) fe) (own.map (·.2)) σ H Q := by
  rintro σ H Q ⟨μ, ρ, m, hH, hS, q⟩
  refine seqR q hH hS fun pr m1 J H1 μ1 e1 hH1 r1 hS1 q1 => ?_
  obtain ⟨ds, gd⟩ := pr
  refine comp_core ht hin r1.1 r1.2 hH1 hS1 fun A nA => ?_
  dsimp only at q1
  cases e : compF gt fc fe gd (wipeD ρ (own.map (·.2))) ds m1 with
  | no => simp only [e] at q1; exact q1.elim
  | exc x mm => simp only [e] at q1; exact q1.elim
  | ok ys m2 =>
    simp only [e, noX_ok, Res.bind_ok] at q1
    intro H' l' vs z1 z2 z3 z4 z5 z6
    have un : ∀ a, a ∈ μ1.h → a ∈ A :: μ1.h := fun a z => List.mem_cons_of_mem _ z
    refine q1 _ H' _ z1 (z2.unhide un) ?_
    simp only [RV]
    exact ⟨A, vs, rfl, ⟨z4, fun z => hH1.hid A z nA⟩, z3, z6, RVs.map (.unhide un) _ _ (by simpa using z5)⟩
theorem pts_yes {Y : Cx} {W : WX} : PTs Y [] (tR Y.K W RVB cYes) := ⟨fun pins s σ H Q I ⟨μ, ρ, m, hH, hS, q⟩ => pts_nil.run pins s σ H Q I (q true H μ .refl hH rfl)⟩
theorem pts_c {Y : Cx} {W : WX} {f : MT} (h : PDT Y W c f) : PTs Y [c] (tR Y.K W RVB f) := pts_one h
theorem pd_lc {ifs : List Expr} (hc : X.calm = true) (hN : X.N.Nodup) (hi : PDI X W tg iter it) (ok : BlkOk X.N X.env.scope scope own) (ht : TgOk X.K g is gt) (hin : ∀ i ∈ is, i ∈ own.map (·.2))
    (hg : ∀ (s : Shared) (H : Hp) (C : Addr) (cl : List (Str × Addr)) (fp : List Addr), PG (X.blk s H scope (compEnvC scope cl C X.env) fp) tg g) (hif : ∀ (s : Shared) (H : Hp) (C : Addr) (cl : List (Str × Addr)) (fp : List Addr), PTs (X.blk s H scope (compEnvC scope cl C X.env) fp) ifs (tR X.K WF RVB fc))
    (he : ∀ (s : Shared) (H : Hp) (C : Addr) (cl : List (Str × Addr)) (fp : List Addr), PD (X.blk s H scope (compEnvC scope cl C X.env) fp) WF elt fe) (hs : ∀ x, foldedSetIterable iter X.env x = pure x := by intro _; rfl) :
    PD X W (.ListComp elt [⟨tg, iter, ifs, 0⟩] scope pos) (mComp it (own.map (·.2)) gt fc fe) :=
  PE.imp (pe_lc hc hN hi ok hg hif he hs) (comp_imp ht hin)
/-- name = [..] on one line, the name a local -/
theorem pds_setLc {ifs : List Expr} (i : Nat) {y : Str} {py spos : Pos} (hc : X.calm = true) (hN : X.N.Nodup) (hi : PDI X W tg iter it) (ok : BlkOk X.N X.env.scope scope own) (ht : TgOk X.K g is gt) (hin : ∀ i ∈ is, i ∈ own.map (·.2))
    (hg : ∀ (s : Shared) (H : Hp) (C : Addr) (cl : List (Str × Addr)) (fp : List Addr), PG (X.blk s H scope (compEnvC scope cl C X.env) fp) tg g) (hif : ∀ (s : Shared) (H : Hp) (C : Addr) (cl : List (Str × Addr)) (fp : List Addr), PTs (X.blk s H scope (compEnvC scope cl C X.env) fp) ifs (tR X.K WF RVB fc))
    (he : ∀ (s : Shared) (H : Hp) (C : Addr) (cl : List (Str × Addr)) (fp : List Addr), PD (X.blk s H scope (compEnvC scope cl C X.env) fp) WF elt fe)
    (hsw : swapsWith (.ListComp elt [⟨tg, iter, ifs, 0⟩] scope pos) (some (.Name y py)) spos.line X.env = pure true) (hy : X.N[i]? = some y := by rfl) (hyl : X.env.scope.names.lookup y = some .local := by rfl) (hs : ∀ x, foldedSetIterable iter X.env x = pure x := by intro _; rfl) :
    PDS X W (.Assign [.Name y py] (.ListComp elt [⟨tg, iter, ifs, 0⟩] scope pos) spos) (sSet i (mComp it (own.map (·.2)) gt fc fe)) :=
  PS.imp (ps_setLc hc hN hy hyl hsw hi ok hg hif he hs) fun D σ H ⟨μ, ρ, m, hH, hS, q⟩ =>
    comp_imp ht hin σ H _ (seqS q hH hS fun d m1 v H1 μ1 e1 hH1 r1 hS1 q1 => q1 _ H1 μ1 .refl hH1 (hS1.set r1 i))
end
end FL

set_option maxRecDepth 100000
namespace FL
open PySem PySem.Spec PyProof.Rows L2

/-! ### what refers to nothing from n on -/
mutual
def clo (n : Nat) : D → Bool
  | .ref i => decide (i < n)
  | .tup ds => cloL n ds
  | .lst ds => cloL n ds
  | .dct kvs => cloK n kvs
  | _ => true
def cloL (n : Nat) : List D → Bool
  | [] => true
  | d :: ds => clo n d && cloL n ds
def cloK (n : Nat) : List (Key × D) → Bool
  | [] => true
  | p :: ps => cloP n p && cloK n ps
def cloP (n : Nat) : Key × D → Bool
  | (_, d) => clo n d
end
def cloC (n : Nat) : Cell → Bool
  | .lst ds => cloL n ds
  | .dK kvs => cloK n kvs
  | .dT kvs => kvs.all fun p => clo n p.2
  | .ins _ fs => fs.all fun p => clo n p.2
  | .dL kvs => cloK n kvs
/-! things of the store from n on become values -/
mutual
def thaw (n : Nat) (m : Me) : D → Option D
  | .ref i => if i < n then some (.ref i) else match m[i]? with
    | some (.lst ds) => if cloL n ds = true then some (.lst ds) else none
    | some (.dK kvs) => if cloK n kvs = true then some (.dct kvs) else none
    | some (.dL kvs) => if cloK n kvs = true then some (.dct kvs) else none
    | _ => none
  | .tup ds => (thawL n m ds).map .tup
  | .lst ds => (thawL n m ds).map .lst
  | .dct kvs => if cloK n kvs = true then some (.dct kvs) else none
  | .non => some .non
  | .bl b => some (.bl b)
  | .int i => some (.int i)
  | .str x => some (.str x)
  | .scr ns => some (.scr ns)
  | .fn a => some (.fn a)
def thawL (n : Nat) (m : Me) : List D → Option (List D)
  | [] => some []
  | d :: ds => (thaw n m d).bind fun d' => (thawL n m ds).map fun ds' => d' :: ds'
end
/-- what a def hands back: its own things of the store are values from now on -/
noncomputable def leave (m : Me) (d : D) (m' : Me) : Res D :=
  if m'.length = m.length then .ok d m' else
    match thaw m.length m' d with
    | some d' => @ite _ (m'.take m.length = m ∨ (m'.take m.length).all (cloC m.length) = true) (Classical.propDecidable _) (.ok d' (m'.take m.length)) .no
    | none => .no
noncomputable def runDef (N n : Nat) (f : MS) : List D → Me → Res D := fun ds m => match f (ds.map some ++ List.replicate (N - n) none) m with
  | .nx _ m' => leave m .non m'
  | .rt d m' => leave m d m'
  | _ => .no

section
variable {K : PySem.W.Frag} {H H' : Hp} {μ : Mu} {m m' : Me}
def Mu.cut (μ : Mu) (n : Nat) : Mu := ⟨μ.l.take n, μ.h⟩
theorem Mu.get_lt {l : List Addr} {n i : Nat} {a : Addr} (h : l[i]? = some a) (hi : i < n) : (l.take n)[i]? = some a := by
  rw [List.getElem?_take_of_lt hi]; exact h
mutual
theorem RV.cut {n : Nat} : ∀ (d : D) (v : V), RV K H μ d v → clo n d = true → RV K H (μ.cut n) d v
  | .non, _, q, _ => by simpa [RV] using q
  | .bl _, _, q, _ => by simpa [RV] using q
  | .int _, _, q, _ => by simpa [RV] using q
  | .str _, _, q, _ => by simpa [RV] using q
  | .fn _, _, q, _ => by simpa [RV] using q
  | .tup ds, v, q, c => by
    simp only [RV] at q ⊢
    obtain ⟨a, vs, rfl, hs, hz, hr⟩ := q
    exact ⟨a, vs, rfl, hs, hz, RVs.cut ds vs hr (by simpa [clo] using c)⟩
  | .lst ds, v, q, c => by
    simp only [RV] at q ⊢
    obtain ⟨a, vs, rfl, hn, hs, hz, hr⟩ := q
    exact ⟨a, vs, rfl, ⟨fun z => hn.1 (List.mem_of_mem_take z), hn.2⟩, hs, hz, RVs.cut ds vs hr (by simpa [clo] using c)⟩
  | .dct kvs, v, q, c => by
    simp only [RV] at q ⊢
    obtain ⟨a, vs, rfl, hn, hs, hr⟩ := q
    exact ⟨a, vs, rfl, ⟨fun z => hn.1 (List.mem_of_mem_take z), hn.2⟩, hs, RVk.cut kvs vs hr (by simpa [clo] using c)⟩
  | .ref i, v, q, c => by
    simp only [RV] at q ⊢
    obtain ⟨a, rfl, hs⟩ := q
    exact ⟨a, rfl, Mu.get_lt hs (by simpa [clo] using c)⟩
  | .scr ns, v, q, c => by
    simp only [RV] at q ⊢
    obtain ⟨a, rfl, ⟨hn, hs⟩ | hs⟩ := q
    · exact ⟨a, rfl, .inl ⟨⟨fun z => hn.1 (List.mem_of_mem_take z), hn.2⟩, hs⟩⟩
    · exact ⟨a, rfl, .inr hs⟩
theorem RVs.cut {n : Nat} : ∀ (ds : List D) (vs : List V), RVs K H μ ds vs → cloL n ds = true → RVs K H (μ.cut n) ds vs
  | [], vs, q, _ => by simpa [RVs] using q
  | d :: ds, vs, q, c => by
    simp only [RVs] at q ⊢
    simp only [cloL, Bool.and_eq_true] at c
    obtain ⟨v, r, rfl, h1, h2⟩ := q
    exact ⟨v, r, rfl, RV.cut d v h1 c.1, RVs.cut ds r h2 c.2⟩
theorem RVk.cut {n : Nat} : ∀ (ds : List (Key × D)) (vs : List (Key × V)), RVk K H μ ds vs → cloK n ds = true → RVk K H (μ.cut n) ds vs
  | [], vs, q, _ => by simpa [RVk] using q
  | p :: ds, vs, q, c => by
    simp only [RVk] at q ⊢
    simp only [cloK, Bool.and_eq_true] at c
    obtain ⟨v, r, rfl, h1, h2⟩ := q
    exact ⟨v, r, rfl, RVp.cut p v h1 c.1, RVk.cut ds r h2 c.2⟩
theorem RVp.cut {n : Nat} : ∀ (p : Key × D) (v : V), RVp K H μ p v → cloP n p = true → RVp K H (μ.cut n) p v
  | (_, d), v, q, c => by
    simp only [RVp] at q ⊢
    exact RV.cut d v q (by simpa [cloP] using c)
end
mutual
theorem RV.clo : ∀ (d : D) (v : V), RV K H μ d v → FL.clo μ.l.length d = true
  | .non, _, q => rfl
  | .bl _, _, q => rfl
  | .int _, _, q => rfl
  | .str _, _, q => rfl
  | .fn _, _, q => rfl
  | .tup ds, v, q => by
    simp only [RV] at q
    obtain ⟨a, vs, rfl, hs, hz, hr⟩ := q
    simpa [FL.clo] using RVs.clo ds vs hr
  | .lst ds, v, q => by
    simp only [RV] at q
    obtain ⟨a, vs, rfl, hn, hs, hz, hr⟩ := q
    simpa [FL.clo] using RVs.clo ds vs hr
  | .dct kvs, v, q => by
    simp only [RV] at q
    obtain ⟨a, vs, rfl, hn, hs, hr⟩ := q
    simpa [FL.clo] using RVk.clo kvs vs hr
  | .ref i, v, q => by
    simp only [RV] at q
    obtain ⟨a, rfl, hs⟩ := q
    simpa [FL.clo] using (List.getElem?_eq_some_iff.mp hs).1
  | .scr _, _, q => rfl
theorem RVs.clo : ∀ (ds : List D) (vs : List V), RVs K H μ ds vs → cloL μ.l.length ds = true
  | [], vs, q => rfl
  | d :: ds, vs, q => by
    simp only [RVs] at q
    obtain ⟨v, r, rfl, h1, h2⟩ := q
    simp [cloL, RV.clo d v h1, RVs.clo ds r h2]
theorem RVk.clo : ∀ (ds : List (Key × D)) (vs : List (Key × V)), RVk K H μ ds vs → cloK μ.l.length ds = true
  | [], vs, q => rfl
  | p :: ds, vs, q => by
    simp only [RVk] at q
    obtain ⟨v, r, rfl, h1, h2⟩ := q
    simp [cloK, RVp.clo p v h1, RVk.clo ds r h2]
theorem RVp.clo : ∀ (p : Key × D) (v : V), RVp K H μ p v → cloP μ.l.length p = true
  | (_, d), v, q => by
    simp only [RVp] at q
    simpa [cloP] using RV.clo d v q
end
mutual
theorem RV.thaw {n : Nat} (hH : RH K H μ m) : ∀ (d d' : D) (v : V), RV K H μ d v → FL.thaw n m d = some d' → RV K H (μ.cut n) d' v
  | .non, _, _, q, e => by simp only [FL.thaw] at e; cases e; simpa [RV] using q
  | .bl _, _, _, q, e => by simp only [FL.thaw] at e; cases e; simpa [RV] using q
  | .int _, _, _, q, e => by simp only [FL.thaw] at e; cases e; simpa [RV] using q
  | .str _, _, _, q, e => by simp only [FL.thaw] at e; cases e; simpa [RV] using q
  | .scr _, _, v, q, e => by simp only [FL.thaw] at e; cases e; exact RV.cut _ v q rfl
  | .fn _, _, _, q, e => by simp only [FL.thaw] at e; cases e; simpa [RV] using q
  | .tup ds, d', v, q, e => by
    simp only [FL.thaw] at e
    obtain ⟨ds', e1, rfl⟩ := Option.map_eq_some_iff.mp e
    simp only [RV] at q ⊢
    obtain ⟨a, vs, rfl, hs, hz, hr⟩ := q
    exact ⟨a, vs, rfl, hs, hz, RVs.thaw hH ds ds' vs hr e1⟩
  | .lst ds, d', v, q, e => by
    simp only [FL.thaw] at e
    obtain ⟨ds', e1, rfl⟩ := Option.map_eq_some_iff.mp e
    simp only [RV] at q ⊢
    obtain ⟨a, vs, rfl, hn, hs, hz, hr⟩ := q
    exact ⟨a, vs, rfl, ⟨fun z => hn.1 (List.mem_of_mem_take z), hn.2⟩, hs, hz, RVs.thaw hH ds ds' vs hr e1⟩
  | .dct kvs, d', v, q, e => by
    simp only [FL.thaw] at e
    split at e
    · rename_i c
      cases e
      exact RV.cut _ v q (by simpa [FL.clo] using c)
    · cases e
  | .ref i, d', v, q, e => by
    simp only [FL.thaw] at e
    split at e
    · rename_i hi
      cases e
      exact RV.cut _ v q (by simpa [FL.clo] using hi)
    · rename_i hi
      simp only [RV] at q
      obtain ⟨a, rfl, hs⟩ := q
      have hcut : a ∉ (μ.cut n).l ∧ a ∉ (μ.cut n).h := by
        refine ⟨fun z => ?_, fun z => ?_⟩
        · obtain ⟨j, hj, ej⟩ := List.getElem_of_mem z
          have hj' : j < n ∧ j < μ.l.length := by
            have : (μ.cut n).l.length = min n μ.l.length := List.length_take
            omega
          have ej' : μ.l[j]? = some a := by
            have h2 : ((μ.l.take n)[j]?) = some a := (List.getElem?_eq_getElem (l := μ.l.take n) hj).trans (congrArg some ej)
            rwa [List.getElem?_take_of_lt hj'.1] at h2
          obtain ⟨h1, h1'⟩ := List.getElem?_eq_some_iff.mp hs
          obtain ⟨h2, h2'⟩ := List.getElem?_eq_some_iff.mp ej'
          have := (List.getElem_inj hH.nd).mp (h1'.trans h2'.symm)
          omega
        · exact (hH.sep a (List.mem_of_getElem? hs)) z
      cases e1 : m[i]? with
      | none => simp only [e1] at e; cases e
      | some c =>
        obtain ⟨a', e2, rc⟩ := hH.at' i c e1
        rw [hs] at e2; cases e2
        cases c with
        | lst ds =>
          simp only [e1] at e
          split at e
          · rename_i hc
            cases e
            obtain ⟨vs, h1, hz, hr⟩ := rc
            simp only [RV]
            exact ⟨a, vs, rfl, hcut, h1, hz, RVs.cut ds vs hr hc⟩
          · cases e
        | dK kvs =>
          simp only [e1] at e
          split at e
          · rename_i hc
            cases e
            obtain ⟨vs, h1, hr⟩ := rc
            simp only [RV]
            exact ⟨a, vs, rfl, hcut, .inl h1, RVk.cut kvs vs hr hc⟩
          · cases e
        | dT kvs => simp only [e1] at e; cases e
        | ins C fs => simp only [e1] at e; cases e
        | dL kvs =>
          simp only [e1] at e
          split at e
          · rename_i hc
            cases e
            obtain ⟨vs, o, h1, hr⟩ := rc
            simp only [RV]
            exact ⟨a, vs, rfl, hcut, .inr ⟨o, h1⟩, RVk.cut kvs vs hr hc⟩
          · cases e
theorem RVs.thaw {n : Nat} (hH : RH K H μ m) : ∀ (ds ds' : List D) (vs : List V), RVs K H μ ds vs → thawL n m ds = some ds' → RVs K H (μ.cut n) ds' vs
  | [], ds', vs, q, e => by simp only [thawL] at e; cases e; simpa [RVs] using q
  | d :: ds, ds', vs, q, e => by
    simp only [thawL] at e
    obtain ⟨d', e1, e2⟩ := Option.bind_eq_some_iff.mp e
    obtain ⟨ds1, e3, rfl⟩ := Option.map_eq_some_iff.mp e2
    simp only [RVs] at q ⊢
    obtain ⟨v, r, rfl, h1, h2⟩ := q
    exact ⟨v, r, rfl, RV.thaw hH d d' v h1 e1, RVs.thaw hH ds ds1 r h2 e3⟩
end
theorem Paired.all2 {α β : Type} {F G : α → β → Prop} {q : α → Bool} : ∀ {l₁ : List α} {l₂ : List β}, Paired F l₁ l₂ → (∀ a b, F a b → q a = true → G a b) → l₁.all q = true → Paired G l₁ l₂
  | _, _, .nil, _, _ => .nil
  | _, _, .cons r t, f, h => by
    simp only [List.all_cons, Bool.and_eq_true] at h
    exact .cons (f _ _ r h.1) (Paired.all2 t f h.2)
theorem Paired.all1 {α β : Type} {F : α → β → Prop} {q : α → Bool} : ∀ {l₁ : List α} {l₂ : List β}, Paired F l₁ l₂ → (∀ a b, F a b → q a = true) → l₁.all q = true
  | _, _, .nil, _ => rfl
  | _, _, .cons r t, f => by
    simp only [List.all_cons, Bool.and_eq_true]
    exact ⟨f _ _ r, Paired.all1 t f⟩
theorem RC.cut {n : Nat} {c : Cell} {a : Addr} (h : RC K H μ c a) (hc : cloC n c = true) : RC K H (μ.cut n) c a := by
  cases c with
  | lst ds => obtain ⟨vs, h1, h2, h3⟩ := h; exact ⟨vs, h1, h2, RVs.cut _ _ h3 hc⟩
  | dK kvs => obtain ⟨vs, h1, h2⟩ := h; exact ⟨vs, h1, RVk.cut _ _ h2 hc⟩
  | dL kvs => obtain ⟨vs, o, h1, h2⟩ := h; exact ⟨vs, o, h1, RVk.cut _ _ h2 hc⟩
  | dT kvs => obtain ⟨vs, h1, h2⟩ := h; exact ⟨vs, h1, Paired.all2 h2 (fun p q z y => ⟨z.1, RV.cut _ _ z.2 y⟩) hc⟩
  | ins C fs => obtain ⟨dx, vs, h1, h2⟩ := h; exact ⟨dx, vs, h1, Paired.all2 h2 (fun p q z y => ⟨z.1, RV.cut _ _ z.2 y⟩) hc⟩
theorem RC.clo {c : Cell} {a : Addr} (h : RC K H μ c a) : cloC μ.l.length c = true := by
  cases c with
  | lst ds => obtain ⟨vs, h1, h2, h3⟩ := h; exact RVs.clo _ _ h3
  | dK kvs => obtain ⟨vs, h1, h2⟩ := h; exact RVk.clo _ _ h2
  | dL kvs => obtain ⟨vs, o, h1, h2⟩ := h; exact RVk.clo _ _ h2
  | dT kvs => obtain ⟨vs, h1, h2⟩ := h; exact Paired.all1 h2 (fun p q z => RV.clo _ _ z.2)
  | ins C fs => obtain ⟨dx, vs, h1, h2⟩ := h; exact Paired.all1 h2 (fun p q z => RV.clo _ _ z.2)
theorem RH.allClo (h : RH K H μ m) : m.all (cloC m.length) = true := by
  rw [List.all_eq_true]
  intro c hc
  obtain ⟨i, hi, rfl⟩ := List.getElem_of_mem hc
  obtain ⟨a, _, r⟩ := h.at' i _ (List.getElem?_eq_getElem hi)
  rw [← h.len]; exact r.clo
theorem RH.cut {n : Nat} (h : RH K H μ m) (hc : (m.take n).all (cloC n) = true) : RH K H (μ.cut n) (m.take n) := by
  refine ⟨by simp [Mu.cut, h.len], h.nd.sublist (List.take_sublist _ _), fun i c q => ?_, h.hid, fun a z => h.sep a (List.mem_of_mem_take z)⟩
  have hi : i < n := by
    have := (List.getElem?_eq_some_iff.mp q).1
    rw [List.length_take] at this; omega
  have q' : m[i]? = some c := by rwa [List.getElem?_take_of_lt hi] at q
  obtain ⟨a, e, r⟩ := h.at' i c q'
  exact ⟨a, Mu.get_lt e hi, r.cut (List.all_eq_true.mp hc c (List.mem_of_getElem? q))⟩
theorem Ext.cut {μ' : Mu} (x : Ext K H μ H' μ') {n : Nat} (hn : n = μ.l.length) : Ext K H μ H' (μ'.cut n) ∧ μ'.cut n = μ := by
  obtain ⟨l, e⟩ := x.pre
  have e' : μ'.cut n = μ := by
    have h1 := x.hid
    obtain ⟨l1, h1'⟩ := μ; obtain ⟨l2, h2'⟩ := μ'
    subst hn
    dsimp only at e h1 ⊢
    subst e h1
    simp [Mu.cut]
  refine ⟨?_, e'⟩
  rw [e']
  exact ⟨⟨[], by simp⟩, rfl, x.tup, fun a u n d h => ⟨(x.dat a u n d h).1, n⟩, fun a o u n h => ⟨(x.frz a o u n h).1, n⟩, fun a kvs n h => ⟨(x.dct a kvs n h).1, n⟩, x.fz, x.xd⟩
/-- leaving a def -/
theorem leave_ok {Ex : XK} {Q : VK} {d : D} {v : V} {μ' : Mu} (hH : RH K H μ m) (q : Ok K Ex H μ (RVv K) Q (leave m d m')) (x : Ext K H μ H' μ') (hH' : RH K H' μ' m') (r : RV K H' μ' d v) : Q v H' := by
  unfold leave at q
  split at q
  · exact q v H' μ' x hH' r
  · cases e : FL.thaw m.length m' d with
    | none => simp only [e] at q; exact q.elim
    | some d' =>
      simp only [e] at q
      by_cases hc : m'.take m.length = m ∨ (m'.take m.length).all (cloC m.length) = true
      · rw [if_pos hc] at q
        obtain ⟨x2, e2⟩ := x.cut (n := m.length) (by rw [hH.len])
        have hall : (m'.take m.length).all (cloC m.length) = true := by
          rcases hc with hc | hc
          · rw [hc]; exact hH.allClo
          · exact hc
        exact q v H' _ x2 (hH'.cut hall) (RV.thaw hH' d d' v r e)
      · rw [if_neg hc] at q; exact q.elim
end

/-! ### a def by what it computes -/
/-- called with these data the def computes this -/
def spF (K : PySem.W.Frag) (n : Nat) (F : List D → Me → Res D) : Sp := fun vs H Q E => ∃ μ m ds, RH K H μ m ∧ RVs K H μ ds vs ∧ ds.length = n ∧ Ok K E H μ (RVv K) Q (F ds m)
section
variable {P : Program} {w : World} {K : PySem.W.Frag} {mg : Str → Option Value} {base : Heap}
theorem start_rs {H : Hp} {μ : Mu} {ds : List D} {vs : List V} {N : List Str} {n : Nat} (r : RVs K H μ ds vs) (hn : ds.length = n) : RS K H μ (ds.map some ++ List.replicate (N.length - n) none) (L2.start N vs) := by
  have hl := r.length
  refine ⟨by simp [L2.start, ← hl, hn], fun i d q => ?_⟩
  by_cases hi : i < ds.length
  · rw [List.getElem?_append_left (by simpa using hi), List.getElem?_map] at q
    cases e : ds[i]? with
    | none => rw [e] at q; cases q
    | some d' =>
      rw [e] at q; cases q
      obtain ⟨v, h1, h2⟩ := r.get e
      refine ⟨v, ?_, h2⟩
      unfold L2.start
      rw [List.getElem?_append_left (by simpa [← hl] using hi), List.getElem?_map, h1]; rfl
  · rw [List.getElem?_append_right (by simpa using hi), List.getElem?_replicate] at q
    split at q <;> cases q
theorem fn_ok {x qual : Str} {st : Stmt} {f : Addr} {fd : FuncData} {N ps : List Str} {k : Nat} (F : Fun K x qual st f fd) (S : FnScope N ps (defScope st)) {fm : MS}
    (hbody : ∀ (cdv : Value) (A : Around) (outer : List Env) (s : Shared) (H : Hp) (E : XK), Room k (A.deeper (envOfC qual (defScope st) s.heap.objs.size f cdv)) →
      PDB (cxOf CX0 P w K mg base N qual (defScope st) f cdv A outer s H E).nox WF (defBody st) fm) : FnOk P w K mg base CX0 (k + 1) f fd ps (spF K ps.length (runDef N.length ps.length fm)) := by
  refine F.ok S (fun vs H Q E h => ?_) (fun cdv A outer s H vs Q E hr h => ?_)
  · obtain ⟨μ, m, ds, _, r, hn, _⟩ := h
    rw [← r.length, hn]
  · obtain ⟨μ, m, ds, hH, r, hn, q⟩ := h
    refine ⟨_, hbody cdv A outer s H E hr, μ, _, m, hH, start_rs r hn, ?_⟩
    unfold runDef at q
    cases e : fm (ds.map some ++ List.replicate (N.length - ps.length) none) m with
    | no => simp only [e] at q; exact q
    | exc x ρ m' => simp only [e] at q; exact q.elim
    | bk ρ m' => simp only [e] at q; exact q.elim
    | ct ρ m' => simp only [e] at q; exact q.elim
    | nx ρ m' => simp only [e] at q; exact fun σ' H' μ' x hH' hS' => leave_ok hH q x hH' (by simp [RV])
    | rt d m' => simp only [e] at q; exact fun v H' μ' x hH' r' => leave_ok hH q x hH' r'
/-- with no call left nothing is promised -/
theorem fn_zero {f : Addr} {fd : FuncData} {ps : List Str} {n : Nat} : FnOk P w K mg base CX0 0 f fd ps (spF K n fun _ _ => .no) := by
  have no : ∀ vs H Q E, ¬ spF K n (fun _ _ => .no) vs H Q E := fun vs H Q E ⟨_, _, _, _, _, _, q⟩ => q
  exact ⟨fun vs H Q E h => absurd h (no vs H Q E), fun A outer s H args us vs Q E _ _ _ _ h => absurd h (no vs H Q E)⟩
end
section
variable {X : Cx} {W : WX} {k : Nat} {f : Addr} {fd : FuncData} {ps : List Str} {x : Str} {p pos : Pos} {e : Expr} {es : List Expr} {Fm : List D → Me → Res D} {n : Nat}
def mCall (F : List D → Me → Res D) (fa : MA) : ME := fun ρ m => (fa ρ m).bind fun ds m => noX (F ds m)
theorem pd_call {fa : MA} (G : FnOk X.prog X.w X.K X.mg X.base CX0 k f fd ps (spF X.K n Fm)) (hr : Room k X.A) (hg : Gl X x) (hm : X.mg x = some (.ref f)) (hk : PySem.W.keepIn X.K (.ref f) = true) (hb : Binds X.K fd ps [])
    (ha : PDA X W n (e :: es) fa) (hdb : (x == ("__debug__" : Str)) = false := by decide) (he : starEach (e :: es) X.env = (false, eval e X.env) :: starEach es X.env := by rfl) (hpl : (backTo pos (starEach es X.env)).any (·.1) = false := by rfl) :
    PD X W (.Call (.Name x p) (e :: es) [] pos) (mCall Fm fa) :=
  PE.imp (pe_call G hr hg hm hk hb .nil pass0 ha hdb he hpl) fun σ H Q ⟨μ, ρ, m, hH, hS, q⟩ => seqR q hH hS fun ds m1 vs H1 μ1 e1 hH1 r1 hS1 q1 => by
    refine ⟨μ1, m1, ds, hH1, by simpa using r1.1, r1.2, Ok.noX' q1⟩
end
end FL

set_option maxRecDepth 100000
namespace FL
open PySem PySem.Spec PyProof.Rows L2

/-! ### a look through the store -/
def view (m : Me) (d : D) : D := match d with
  | .ref i => match m[i]? with
    | some (.lst xs) => .lst xs
    | some (.dK kvs) => .dct kvs
    | some (.dL kvs) => .dct kvs
    | _ => .ref i
  | d => d
section
variable {K : PySem.W.Frag} {H : Hp} {μ : Mu} {m : Me} {d : D} {v : V}
theorem view_lst {xs : List D} (hH : RH K H μ m) (r : RV K H μ d v) (e : view m d = .lst xs) : ∃ a vs, v = .ref a ∧ H a = some (.lst vs) ∧ vs.length ≤ sizeLine ∧ RVs K H μ xs vs := by
  cases d with
  | lst ys =>
    cases e
    simp only [RV] at r
    obtain ⟨a, vs, rfl, _, hs, hz, hr⟩ := r
    exact ⟨a, vs, rfl, hs, hz, hr⟩
  | ref i =>
    simp only [RV] at r
    obtain ⟨a, rfl, ha⟩ := r
    unfold view at e
    cases e1 : m[i]? with
    | none => simp only [e1] at e; cases e
    | some c =>
      obtain ⟨a', e2, rc⟩ := hH.at' i c e1
      rw [ha] at e2; cases e2
      cases c with
      | lst ys =>
        simp only [e1] at e
        cases e
        obtain ⟨vs, h1, hz, hr⟩ := rc
        exact ⟨a, vs, rfl, h1, hz, hr⟩
      | _ => simp only [e1] at e; cases e
  | _ => cases e
theorem view_dct {kvs : List (Key × D)} (hH : RH K H μ m) (r : RV K H μ d v) (e : view m d = .dct kvs) : ∃ a ps, v = .ref a ∧ Rd H a (.dK ps) ∧ RVk K H μ kvs ps := by
  cases d with
  | dct ys =>
    cases e
    simp only [RV] at r
    obtain ⟨a, vs, rfl, _, hs, hr⟩ := r
    exact ⟨a, vs, rfl, hs, hr⟩
  | ref i =>
    simp only [RV] at r
    obtain ⟨a, rfl, ha⟩ := r
    unfold view at e
    cases e1 : m[i]? with
    | none => simp only [e1] at e; cases e
    | some c =>
      obtain ⟨a', e2, rc⟩ := hH.at' i c e1
      rw [ha] at e2; cases e2
      cases c with
      | dK ys =>
        simp only [e1] at e
        cases e
        obtain ⟨vs, h1, hr⟩ := rc
        exact ⟨a, vs, rfl, .inl h1, hr⟩
      | dL ys =>
        simp only [e1] at e
        cases e
        obtain ⟨vs, o, h1, hr⟩ := rc
        exact ⟨a, vs, rfl, .inr ⟨o, h1⟩, hr⟩
      | _ => simp only [e1] at e; cases e
  | _ => cases e
theorem view_tup {xs : List D} (e : view m d = .tup xs) : d = .tup xs := by
  cases d with
  | ref i => unfold view at e; dsimp only at e; split at e <;> cases e
  | _ => exact e
theorem rv_tup {xs : List D} (r : RV K H μ (.tup xs) v) : ∃ a vs, v = .ref a ∧ TupN K H a vs ∧ vs.length ≤ sizeLine ∧ RVs K H μ xs vs := by simpa only [RV] using r
end

/-! ### + - * // % ** -/
section
variable {X : Cx}
/-- () + u is u -/
def rCat0 (K : PySem.W.Frag) : R2 := fun x y H Q => ∃ a b ys, x = .ref a ∧ y = .ref b ∧ SqT K H a [] ∧ SqT K H b ys ∧ Q (.ref b) H
theorem op_cat0 : OpR X (binaryOp .Add) (rCat0 X.K) := by
  rintro pins s σ H x y v u Q I rx ry ⟨a, b, ys, rfl, rfl, ha, hb, q⟩
  cases rx; cases ry
  obtain ⟨its, r1, p1, _⟩ := I.tuple ha
  obtain ⟨its2, r2, p2, _⟩ := I.tuple hb
  cases r1
  obtain ⟨⟨c1, dd, da, sl⟩, ho, hc, n, hd⟩ := id p1
  obtain ⟨⟨c2, dd2, da2, sl2⟩, ho2, hc2, n2, hd2⟩ := id p2
  simp only at hc hd hc2 hd2
  subst hc hd hc2 hd2
  exact concat_meets ⟨_, ho, rfl⟩ ⟨_, ho2, rfl⟩ noFill_tuple_add seq_tuple_add PySem.F.slot_tuple_add PySem.F.entry_tuple_add (PySem.F.args_tuple_add_2 _ _)
    (tuple_addW0 a b _ its2.toArray n n2 dd dd2 sl sl2 (by simp)) ⟨ho, ho2, ⟨.ref b, H, I, rfl, q⟩⟩
def rAddS : R2 := fun x y H Q => ∃ i j, x = .str i ∧ y = .str j ∧ i.length + j.length ≤ sizeLine ∧ Q (.str (i ++ j)) H
def rAddAll (K : PySem.W.Frag) : R2 := fun x y H Q => rI0 (fun i j => .int (i + j)) x y H Q ∨ rAddS x y H Q ∨ rCat x y H Q ∨ rCat0 K x y H Q ∨ rCatN K x y H Q
theorem op_addAll : OpR X (binaryOp .Add) (rAddAll X.K) := op_add.or (op_add_str.or (op_cat.or (op_cat0.or op_catN)))
def gAdd (d d' : D) (m : Me) : Res D := match view m d, view m d' with
  | .int i, .int j => .ok (.int (i + j)) m
  | .str x, .str y => if x.length + y.length ≤ sizeLine then .ok (.str (x ++ y)) m else .no
  | .tup xs, .tup ys => if xs.length + ys.length ≤ sizeLine then .ok (.tup (xs ++ ys)) m else .no
  | .lst xs, .lst ys => if xs.length + ys.length ≤ sizeLine then .ok (.lst (xs ++ ys)) m else .no
  | _, _ => .no
theorem view_int {m : Me} {d : D} {i : Int} (e : view m d = .int i) : d = .int i := by
  cases d with
  | ref i => unfold view at e; dsimp only at e; split at e <;> cases e
  | _ => exact e
theorem view_str {m : Me} {d : D} {i : Str} (e : view m d = .str i) : d = .str i := by
  cases d with
  | ref i => unfold view at e; dsimp only at e; split at e <;> cases e
  | _ => exact e
theorem g_add {K : PySem.W.Frag} : G2 K (rAddAll K) gAdd := fun Ex H μ m d d' x y Q hH r1 r2 q => by
  unfold gAdd at q
  split at q
  · rename_i i j e1 e2
    have := view_int e1; have := view_int e2; subst d d'
    simp only [RV] at r1 r2
    exact .inl ⟨i, j, r1, r2, q _ H μ .refl hH (by simp [RV])⟩
  · rename_i i j e1 e2
    have := view_str e1; have := view_str e2; subst d d'
    simp only [RV] at r1 r2
    split at q
    · rename_i hz
      exact .inr (.inl ⟨i, j, r1, r2, hz, q _ H μ .refl hH (by simp [RV])⟩)
    · exact q.elim
  · rename_i xs ys e1 e2
    have := view_tup e1; have := view_tup e2; subst d d'
    split at q
    · rename_i hz
      obtain ⟨a, vs, rfl, s1, z1, w1⟩ := rv_tup r1
      obtain ⟨b, us, rfl, s2, z2, w2⟩ := rv_tup r2
      have l1 := w1.length; have l2 := w2.length
      have hz' : vs.length + us.length ≤ sizeLine := by omega
      cases xs with
      | nil =>
        have : vs = [] := by simpa only [RVs] using w1
        subst this
        refine .inr (.inr (.inr (.inl ⟨a, b, us, rfl, rfl, s1.sq, s2.sq, q _ H μ .refl hH ?_⟩)))
        simp only [RV]
        exact ⟨b, us, rfl, s2, z2, w2⟩
      | cons x0 xs0 =>
        have hne : vs ≠ [] := fun z => by subst z; simp at l1
        refine .inr (.inr (.inr (.inr ⟨a, b, vs, us, rfl, rfl, s1.sq, s2.sq, hne, hz', fun hu => ?_, fun hu p o hd hp => ?_⟩)))
        · subst hu
          have : ys = [] := List.length_eq_zero_iff.mp (by simpa using l2)
          subst this
          refine q _ H μ .refl hH ?_
          simp only [RV, List.append_nil]
          exact ⟨a, vs, rfl, s1, z1, w1⟩
        · have ex := Ext.new (o := .frz o (.tup (vs ++ us))) hH hp
          refine q _ _ μ ex (hH.new hp) ?_
          simp only [RV]
          exact ⟨p, vs ++ us, rfl, .inl ⟨o, upd_same, hd⟩, by simpa using hz', RVs.ext ex _ _ (w1.append w2)⟩
    · exact q.elim
  · rename_i xs ys e1 e2
    split at q
    · rename_i hz
      obtain ⟨a, vs, rfl, s1, z1, w1⟩ := view_lst hH r1 e1
      obtain ⟨b, us, rfl, s2, z2, w2⟩ := view_lst hH r2 e2
      have l1 := w1.length; have l2 := w2.length
      have hz' : vs.length + us.length ≤ sizeLine := by omega
      refine .inr (.inr (.inl ⟨a, b, vs, us, rfl, rfl, s1, s2, hz', fun p hp => ?_⟩))
      have ex := Ext.new (o := .lst (vs ++ us)) hH hp
      refine q _ _ μ ex (hH.new hp) ?_
      simp only [RV]
      exact ⟨p, vs ++ us, rfl, ⟨hH.notin hp, fun z => hH.hid _ z hp⟩, upd_same, by simpa using hz', RVs.ext ex _ _ (w1.append w2)⟩
    · exact q.elim
  · exact q.elim
/-- two ints -/
def gII (C : Int → Int → Prop) [∀ i j, Decidable (C i j)] (f : Int → Int → D) (d d' : D) (m : Me) : Res D := match d, d' with
  | .int i, .int j => if C i j then .ok (f i j) m else .no
  | _, _ => .no
def ofD : D → V
  | .int i => .int i
  | .bl b => .bl b
  | _ => .non
theorem g_ii {K : PySem.W.Frag} {C C' : Int → Int → Prop} {_i : ∀ i j, Decidable (C i j)} {f : Int → Int → D} (hC : ∀ i j, C i j → C' i j) (hf : ∀ i j H μ, RV K H μ (f i j) (ofD (f i j))) : G2 K (rI C' fun i j => ofD (f i j)) (@gII C _i f) := fun Ex H μ m d d' x y Q hH r1 r2 q => by
  unfold gII at q
  split at q
  · rename_i i j
    split at q
    · rename_i h
      simp only [RV] at r1 r2
      exact ⟨i, j, r1, r2, hC i j h, q _ H μ .refl hH (hf i j H μ)⟩
    · exact q.elim
  · exact q.elim
theorem g_ii0 {K : PySem.W.Frag} {f : Int → Int → D} (hf : ∀ i j H μ, RV K H μ (f i j) (ofD (f i j))) : G2 K (rI0 fun i j => ofD (f i j)) (gII (fun _ _ => True) f) := fun Ex H μ m d d' x y Q hH r1 r2 q => by
  obtain ⟨i, j, h1, h2, _, h3⟩ := g_ii (C' := fun _ _ => True) (fun _ _ h => h) hf Ex H μ m d d' x y Q hH r1 r2 q
  exact ⟨i, j, h1, h2, h3⟩
def gSub := gII (fun _ _ => True) fun i j => .int (i - j)
noncomputable def gMul := @gII (fun i j => ((-(2 ^ 64) < i ∧ i < 2 ^ 64) ∨ (-(2 ^ 64) < j ∧ j < 2 ^ 64))) (fun _ _ => Classical.propDecidable _) fun i j => .int (i * j)
noncomputable def gMod := @gII (fun _ j => 0 < j) (fun _ _ => Classical.propDecidable _) fun i j => .int (i % j)
noncomputable def gDiv := @gII (fun _ j => 0 < j ∧ j.natAbs < 2 ^ 200) (fun _ _ => Classical.propDecidable _) fun i j => .int (i / j)
noncomputable def gPow := @gII (fun i j => 0 ≤ j ∧ j ≤ 1000 ∧ i.natAbs < 2 ^ 64) (fun _ _ => Classical.propDecidable _) fun i j => .int (i ^ j.toNat)
variable {W : WX} {a b : Expr} {fa fb : ME} {pos : Pos}
theorem pd_add (ha : PD X W a fa) (hb : PD X W b fb) : PD X W (.BinOp a .Add b pos) (m2 gAdd fa fb) := pd_op op_addAll g_add ha hb
theorem pd_sub (ha : PD X W a fa) (hb : PD X W b fb) : PD X W (.BinOp a .Sub b pos) (m2 gSub fa fb) := pd_op op_sub (g_ii0 (f := fun i j => .int (i - j)) fun _ _ _ _ => by simp [RV, ofD]) ha hb
theorem pd_mul (ha : PD X W a fa) (hb : PD X W b fb) : PD X W (.BinOp a .Mult b pos) (m2 gMul fa fb) := pd_op op_mul (g_ii (C' := CMul) (f := fun i j => .int (i * j)) (fun _ _ h => h) fun _ _ _ _ => by simp [RV, ofD]) ha hb
theorem pd_mod (ha : PD X W a fa) (hb : PD X W b fb) : PD X W (.BinOp a .Mod b pos) (m2 gMod fa fb) := pd_op op_mod (g_ii (f := fun i j => .int (i % j)) (fun _ _ h => h) fun _ _ _ _ => by simp [RV, ofD]) ha hb
theorem pd_div (ha : PD X W a fa) (hb : PD X W b fb) : PD X W (.BinOp a .FloorDiv b pos) (m2 gDiv fa fb) := pd_op op_fdivW (g_ii (C' := CDivW) (f := fun i j => .int (i / j)) (fun _ _ h => wide_div h.1 h.2 (by decide) (by decide)) fun _ _ _ _ => by simp [RV, ofD]) ha hb
theorem pd_pow (ha : PD X W a fa) (hb : PD X W b fb) : PD X W (.BinOp a .Pow b pos) (m2 gPow fa fb) := pd_op op_pow (g_ii (C' := CPow) (f := fun i j => .int (i ^ j.toNat)) (fun _ _ h => ⟨h.1, Int.le_trans h.2.1 (by decide), h.2.2⟩) fun _ _ _ _ => by simp [RV, ofD]) ha hb
def gNeg (d : D) (m : Me) : Res D := match d with
  | .int i => .ok (.int (-i)) m
  | _ => .no
theorem pd_neg (ha : PD X W a fa) : PD X W (.UnaryOp .USub a pos) (m1 gNeg fa) := pd_un un_neg (fun Ex H μ m d x Q hH r q => by
  cases d with
  | int i => simp only [RV] at r; exact ⟨i, r, q _ H μ .refl hH (by simp [RV])⟩
  | _ => exact q.elim) ha

/-! ### comparisons of numbers -/
def gLt := gII (fun _ _ => True) fun i j => .bl (decide (i < j))
def gLe := gII (fun _ _ => True) fun i j => .bl (decide (i ≤ j))
def gGt := gII (fun _ _ => True) fun i j => .bl (decide (j < i))
def gGe := gII (fun _ _ => True) fun i j => .bl (decide (j ≤ i))
theorem g_lt {K : PySem.W.Frag} : G2 K (rI0 fun i j => .bl (decide (i < j))) gLt := g_ii0 (f := fun i j => .bl (decide (i < j))) fun _ _ _ _ => by simp [RV, ofD]
theorem g_le {K : PySem.W.Frag} : G2 K (rI0 fun i j => .bl (decide (i ≤ j))) gLe := g_ii0 (f := fun i j => .bl (decide (i ≤ j))) fun _ _ _ _ => by simp [RV, ofD]
theorem g_gt {K : PySem.W.Frag} : G2 K (rI0 fun i j => .bl (decide (j < i))) gGt := g_ii0 (f := fun i j => .bl (decide (j < i))) fun _ _ _ _ => by simp [RV, ofD]
theorem g_ge {K : PySem.W.Frag} : G2 K (rI0 fun i j => .bl (decide (j ≤ i))) gGe := g_ii0 (f := fun i j => .bl (decide (j ≤ i))) fun _ _ _ _ => by simp [RV, ofD]

/-! ### None -/
def isN : D → Bool
  | .non => true
  | _ => false
def gIsN (d d' : D) (m : Me) : Res D := match d' with
  | .non => .ok (.bl (isN d)) m
  | _ => .no
def gNotN (d d' : D) (m : Me) : Res D := match d' with
  | .non => .ok (.bl (!isN d)) m
  | _ => .no
theorem isN_eq {K : PySem.W.Frag} {H : Hp} {μ : Mu} {d : D} {v : V} (r : RV K H μ d v) : isN d = decide (v = .non) := by
  cases d <;> simp only [RV] at r
  case non => subst r; rfl
  case bl => subst r; rfl
  case int => subst r; rfl
  case str => subst r; rfl
  case tup => obtain ⟨_, _, rfl, _⟩ := r; rfl
  case lst => obtain ⟨_, _, rfl, _⟩ := r; rfl
  case dct => obtain ⟨_, _, rfl, _⟩ := r; rfl
  case ref => obtain ⟨_, rfl, _⟩ := r; rfl
  case scr => obtain ⟨_, rfl, _⟩ := r; rfl
  case fn => obtain ⟨_, rfl, _⟩ := r; rfl
theorem g_isN {K : PySem.W.Frag} : G2 K (fun x y H Q => y = .non ∧ Q (.bl (decide (x = .non))) H) gIsN := fun Ex H μ m d d' x y Q hH r1 r2 q => by
  cases d' with
  | non => simp only [RV] at r2; exact ⟨r2, q _ H μ .refl hH (by simp [RV, isN_eq r1])⟩
  | _ => exact q.elim
theorem g_notN {K : PySem.W.Frag} : G2 K (fun x y H Q => y = .non ∧ Q (.bl (!decide (x = .non))) H) gNotN := fun Ex H μ m d d' x y Q hH r1 r2 q => by
  cases d' with
  | non => simp only [RV] at r2; exact ⟨r2, q _ H μ .refl hH (by simp [RV, isN_eq r1])⟩
  | _ => exact q.elim

/-! ### == of data -/
mutual
def py : D → Option PyData
  | .non => some .none
  | .bl b => some (.bool b)
  | .int i => some (.int i)
  | .str x => some (.str x)
  | .tup ds => (pyL ds).map .tuple
  | .lst ds => (pyL ds).map .list
  | _ => none
def pyL : List D → Option (List PyData)
  | [] => some []
  | d :: ds => (py d).bind fun p => (pyL ds).map fun ps => p :: ps
end
mutual
theorem dp_of {K : PySem.W.Frag} {H : Hp} {μ : Mu} : ∀ (d : D) (v : V) (p : PyData), RV K H μ d v → py d = some p → Dp K H v p
  | .non, v, p, r, e => by simp only [RV] at r; simp only [py] at e; cases e; subst r; exact .non
  | .bl b, v, p, r, e => by simp only [RV] at r; simp only [py] at e; cases e; subst r; exact .bl b
  | .int b, v, p, r, e => by simp only [RV] at r; simp only [py] at e; cases e; subst r; exact .int b
  | .str b, v, p, r, e => by simp only [RV] at r; simp only [py] at e; cases e; subst r; exact .str b
  | .tup ds, v, p, r, e => by
    simp only [RV] at r; simp only [py] at e
    obtain ⟨ps, e1, rfl⟩ := Option.map_eq_some_iff.mp e
    obtain ⟨a, vs, rfl, hs, _, hr⟩ := r
    exact .tup hs.sq (dps_of ds vs ps hr e1)
  | .lst ds, v, p, r, e => by
    simp only [RV] at r; simp only [py] at e
    obtain ⟨ps, e1, rfl⟩ := Option.map_eq_some_iff.mp e
    obtain ⟨a, vs, rfl, _, hs, _, hr⟩ := r
    exact .lst (.of hs) (dps_of ds vs ps hr e1)
  | .dct _, v, p, r, e => by simp only [py] at e; cases e
  | .ref _, v, p, r, e => by simp only [py] at e; cases e
  | .scr _, v, p, r, e => by simp only [py] at e; cases e
theorem dps_of {K : PySem.W.Frag} {H : Hp} {μ : Mu} : ∀ (ds : List D) (vs : List V) (ps : List PyData), RVs K H μ ds vs → pyL ds = some ps → DpAll K H vs ps
  | [], vs, ps, r, e => by simp only [RVs] at r; simp only [pyL] at e; cases e; subst r; exact .nil
  | d :: ds, vs, ps, r, e => by
    simp only [RVs] at r; simp only [pyL] at e
    obtain ⟨v, vr, rfl, r1, r2⟩ := r
    obtain ⟨p, e1, e2⟩ := Option.bind_eq_some_iff.mp e
    obtain ⟨ps', e3, rfl⟩ := Option.map_eq_some_iff.mp e2
    exact .cons (dp_of d v p r1 e1) (dps_of ds vr ps' r2 e3)
end
theorem dp_view {K : PySem.W.Frag} {H : Hp} {μ : Mu} {m : Me} {d : D} {v : V} {p : PyData} (hH : RH K H μ m) (r : RV K H μ d v) (e : py (view m d) = some p) : Dp K H v p := by
  cases e1 : view m d with
  | lst xs =>
    rw [e1] at e
    simp only [py] at e
    obtain ⟨ps, e2, rfl⟩ := Option.map_eq_some_iff.mp e
    obtain ⟨a, vs, rfl, hs, _, hr⟩ := view_lst hH r e1
    exact .lst (.of hs) (dps_of xs vs ps hr e2)
  | tup xs => rw [e1] at e; have := view_tup e1; subst this; exact dp_of _ v p r e
  | dct _ => rw [e1] at e; simp only [py] at e; cases e
  | ref _ => rw [e1] at e; simp only [py] at e; cases e
  | scr _ => rw [e1] at e; simp only [py] at e; cases e
  | fn _ => rw [e1] at e; simp only [py] at e; cases e
  | int i => rw [e1] at e; have := view_int e1; subst this; exact dp_of _ v p r e
  | str i => rw [e1] at e; have := view_str e1; subst this; exact dp_of _ v p r e
  | non =>
    have : d = .non := by
      cases d with
      | ref i => unfold view at e1; dsimp only at e1; split at e1 <;> cases e1
      | _ => exact e1
    subst this
    rw [e1] at e; exact dp_of _ v p r e
  | bl b =>
    have : d = .bl b := by
      cases d with
      | ref i => unfold view at e1; dsimp only at e1; split at e1 <;> cases e1
      | _ => exact e1
    subst this
    rw [e1] at e; exact dp_of _ v p r e
def eqRes (m : Me) (neg : Bool) (a b : Option PyData) : Res D := match a, b with
  | some p, some q => if SeqAt.shaped p = true ∧ SeqAt.shaped q = true then .ok (.bl (if neg then !PyData.eqv p q else PyData.eqv p q)) m else .no
  | _, _ => .no
def gEq (d d' : D) (m : Me) : Res D := eqRes m false (py (view m d)) (py (view m d'))
def gNe (d d' : D) (m : Me) : Res D := eqRes m true (py (view m d)) (py (view m d'))
theorem g_eq {K : PySem.W.Frag} : G2 K (rEqD K) gEq := fun Ex H μ m d d' x y Q hH r1 r2 q => by
  unfold gEq eqRes at q
  split at q
  · rename_i p p' e1 e2
    split at q
    · rename_i hs
      exact ⟨p, p', dp_view hH r1 e1, dp_view hH r2 e2, hs.1, hs.2, q _ H μ .refl hH (by simp [RV])⟩
    · exact q.elim
  · exact q.elim
theorem g_ne {K : PySem.W.Frag} : G2 K (rNeD K) gNe := fun Ex H μ m d d' x y Q hH r1 r2 q => by
  unfold gNe eqRes at q
  split at q
  · rename_i p p' e1 e2
    split at q
    · rename_i hs
      exact ⟨p, p', dp_view hH r1 e1, dp_view hH r2 e2, hs.1, hs.2, q _ H μ .refl hH (by simp [RV])⟩
    · exact q.elim
  · exact q.elim

/-! ### in -/
def flatD : D → Bool
  | .non => true
  | .bl _ => true
  | .int _ => true
  | .str _ => true
  | _ => false
def eqF : D → D → Bool
  | .non, .non => true
  | .bl a, .bl b => a == b
  | .bl a, .int b => (if a then 1 else 0) == b
  | .int a, .bl b => a == (if b then 1 else 0)
  | .int a, .int b => a == b
  | .str a, .str b => a == b
  | _, _ => false
theorem flat_eq {K : PySem.W.Frag} {H : Hp} {μ : Mu} {d : D} {v : V} (r : RV K H μ d v) : flatD d = flatV v := by
  cases d <;> simp only [RV] at r
  case non => subst r; rfl
  case bl => subst r; rfl
  case int => subst r; rfl
  case str => subst r; rfl
  case tup => obtain ⟨_, _, rfl, _⟩ := r; rfl
  case lst => obtain ⟨_, _, rfl, _⟩ := r; rfl
  case dct => obtain ⟨_, _, rfl, _⟩ := r; rfl
  case ref => obtain ⟨_, rfl, _⟩ := r; rfl
  case scr => obtain ⟨_, rfl, _⟩ := r; rfl
  case fn => obtain ⟨_, rfl, _⟩ := r; rfl
theorem eqF_eq {K : PySem.W.Frag} {H : Hp} {μ : Mu} {d d' : D} {v v' : V} (r : RV K H μ d v) (r' : RV K H μ d' v') (f : flatD d = true) (f' : flatD d' = true) : eqF d d' = eqV v v' := by
  cases d <;> (try cases f) <;> cases d' <;> (try cases f') <;> simp only [RV] at r r' <;> subst r r' <;> rfl
theorem inD_eq {K : PySem.W.Frag} {H : Hp} {μ : Mu} {d : D} {v : V} (r : RV K H μ d v) (f : flatD d = true) : ∀ {ds : List D} {vs : List V}, RVs K H μ ds vs → ds.all flatD = true → (vs.all flatV = true ∧ (ds.any fun e => eqF e d) = inV v vs)
  | [], vs, h, _ => by simp only [RVs] at h; subst h; exact ⟨rfl, rfl⟩
  | e :: ds, vs, h, c => by
    simp only [RVs] at h
    obtain ⟨u, us, rfl, h1, h2⟩ := h
    simp only [List.all_cons, Bool.and_eq_true] at c
    obtain ⟨i1, i2⟩ := inD_eq r f h2 c.2
    refine ⟨by simp [List.all_cons, ← flat_eq h1, c.1, i1], ?_⟩
    unfold inV at i2 ⊢
    rw [List.any_cons, List.any_cons, i2, eqF_eq h1 r c.1 f]
def seqV (m : Me) (d : D) : Option (List D) := match view m d with
  | .tup xs => some xs
  | .lst xs => some xs
  | _ => none
theorem seqV_of {K : PySem.W.Frag} {H : Hp} {μ : Mu} {m : Me} {d : D} {v : V} {xs : List D} (hH : RH K H μ m) (r : RV K H μ d v) (e : seqV m d = some xs) : ∃ a vs, v = .ref a ∧ (SqL K H a vs ∨ SqT K H a vs) ∧ vs.length ≤ sizeLine ∧ RVs K H μ xs vs := by
  unfold seqV at e
  split at e
  · rename_i ys e1
    cases e
    have := view_tup e1; subst this
    obtain ⟨a, vs, rfl, s1, z1, w1⟩ := rv_tup r
    exact ⟨a, vs, rfl, .inr s1.sq, z1, w1⟩
  · rename_i ys e1
    cases e
    obtain ⟨a, vs, rfl, s1, z1, w1⟩ := view_lst hH r e1
    exact ⟨a, vs, rfl, .inl (.of s1), z1, w1⟩
  · cases e
def gInN (neg : Bool) (d d' : D) (m : Me) : Res D := match seqV m d' with
  | some xs => if flatD d = true ∧ xs.all flatD = true then .ok (.bl (if neg then !(xs.any fun e => eqF e d) else xs.any fun e => eqF e d)) m else .no
  | none => .no
def gIn := gInN false
def gNotIn := gInN true
theorem g_inN {K : PySem.W.Frag} {neg : Bool} : G2 K (rIn K neg) (gInN neg) := fun Ex H μ m d d' x y Q hH r1 r2 q => by
  unfold gInN at q
  split at q
  · rename_i xs e
    obtain ⟨a, vs, rfl, hs, _, hr⟩ := seqV_of hH r2 e
    split at q
    · rename_i hf
      obtain ⟨h1, h2⟩ := inD_eq r1 hf.1 hr hf.2
      exact ⟨a, vs, rfl, hs, by rw [← flat_eq r1]; exact hf.1, h1, q _ H μ .refl hH (by simp [RV, h2])⟩
    · exact q.elim
  · exact q.elim
/-- a text in a text -/
def gInS (neg : Bool) (d d' : D) (m : Me) : Res D := match d, d' with
  | .str i, .str j => .ok (.bl (if neg then !(!(Builtin.Str.occurrences j i 0 j.length 1).isEmpty) else !(Builtin.Str.occurrences j i 0 j.length 1).isEmpty)) m
  | _, _ => .no
theorem g_inS {K : PySem.W.Frag} : G2 K (fun x y H Q => ∃ i j, x = .str i ∧ y = .str j ∧ Q (.bl (!(Builtin.Str.occurrences j i 0 j.length 1).isEmpty)) H) (gInS false) := fun Ex H μ m d d' x y Q hH r1 r2 q => by
  cases d <;> (try exact q.elim) <;> cases d' <;> (try exact q.elim)
  simp only [RV] at r1 r2
  exact ⟨_, _, r1, r2, q _ H μ .refl hH (by simp [RV])⟩
theorem g_notInS {K : PySem.W.Frag} : G2 K (fun x y H Q => ∃ i j, x = .str i ∧ y = .str j ∧ Q (.bl (!(!(Builtin.Str.occurrences j i 0 j.length 1).isEmpty))) H) (gInS true) := fun Ex H μ m d d' x y Q hH r1 r2 q => by
  cases d <;> (try exact q.elim) <;> cases d' <;> (try exact q.elim)
  simp only [RV] at r1 r2
  exact ⟨_, _, r1, r2, q _ H μ .refl hH (by simp [RV])⟩

/-! ### items -/
def gIx (d d' : D) (m : Me) : Res D := match d' with
  | .int i => match view m d with
    | .tup xs => match atI xs i with
      | some x => .ok x m
      | none => .no
    | .lst xs => match atI xs i with
      | some x => .ok x m
      | none => .no
    | .scr ns => match atI ns i with
      | some n => .ok (.int n) m
      | none => .no
    | .str z => if z.length ≤ sizeLine then match atI z.cps.toList i with
      | some c => .ok (.str ⟨#[c]⟩) m
      | none => .no
      else .no
    | _ => .no
  | _ => .no
theorem atI_rv {K : PySem.W.Frag} {H : Hp} {μ : Mu} {ds : List D} {vs : List V} {i : Int} {d : D} (r : RVs K H μ ds vs) (e : atI ds i = some d) : ∃ v, atI vs i = some v ∧ RV K H μ d v := by
  unfold atI at e ⊢
  rw [← r.length]
  obtain ⟨j, h1, h2⟩ := Option.bind_eq_some_iff.mp e
  obtain ⟨v, h3, h4⟩ := r.get h2
  exact ⟨v, by rw [h1]; exact h3, h4⟩
theorem atI_map {α β : Type} {f : α → β} {xs : List α} {i : Int} {x : α} (e : atI xs i = some x) : atI (xs.map f) i = some (f x) := by
  unfold atI at e ⊢
  obtain ⟨j, h1, h2⟩ := Option.bind_eq_some_iff.mp e
  rw [List.length_map, h1]
  simp [h2]
theorem g_ix {K : PySem.W.Frag} : G2 K (rIx K) gIx := fun Ex H μ m d d' x y Q hH r1 r2 q => by
  unfold gIx at q
  split at q
  · rename_i i
    simp only [RV] at r2
    split at q
    · rename_i xs e1
      have := view_tup e1; subst this
      obtain ⟨a, vs, rfl, s1, z1, w1⟩ := rv_tup r1
      split at q
      · rename_i z e2
        obtain ⟨v, h1, h2⟩ := atI_rv w1 e2
        exact .inr (.inl ⟨a, vs, i, v, rfl, r2, s1.sq, h1, q v H μ .refl hH h2⟩)
      · exact q.elim
    · rename_i xs e1
      obtain ⟨a, vs, rfl, s1, z1, w1⟩ := view_lst hH r1 e1
      split at q
      · rename_i z e2
        obtain ⟨v, h1, h2⟩ := atI_rv w1 e2
        exact .inl ⟨a, vs, i, v, rfl, r2, .of s1, h1, q v H μ .refl hH h2⟩
      · exact q.elim
    · rename_i ns e1
      have : d = .scr ns := by
        cases d with
        | ref i => unfold view at e1; dsimp only at e1; split at e1 <;> cases e1
        | _ => exact e1
      subst this
      simp only [RV] at r1
      obtain ⟨a, rfl, hs⟩ := r1
      split at q
      · rename_i z e2
        refine .inl ⟨a, ns.map V.int, i, .int z, rfl, r2, ?_, atI_map e2, q _ H μ .refl hH (by simp [RV])⟩
        rcases hs with ⟨_, hs⟩ | hs
        · exact .inl hs
        · rcases hs with (z | ⟨_, z⟩) | hs
          · cases z
          · cases z
          · exact .inr hs
      · exact q.elim
    · rename_i z e1
      have := view_str e1; subst this
      simp only [RV] at r1
      split at q
      · rename_i hz
        split at q
        · rename_i c e2
          exact .inr (.inr ⟨z, i, c, r1, r2, hz, e2, q _ H μ .refl hH (by simp [RV])⟩)
        · exact q.elim
      · exact q.elim
    · exact q.elim
  · exact q.elim
theorem pd_at (ha : PD X W a fa) (hb : PD X W b fb) (hs : PlainIx b := by exact fun _ _ => rfl) : PD X W (.Subscript a b pos) (m2 gIx fa fb) := pd_ix ix_seq g_ix ha hb hs
end
end FL

set_option maxRecDepth 100000
namespace FL
open PySem PySem.Spec PyProof.Rows L2

/-! ### built-ins by name -/
def GC (K : PySem.W.Frag) (r : List V → Hp → VK → Prop) (g : List D → Me → Res D) : Prop := ∀ (Ex : XK) (H : Hp) (μ : Mu) (m : Me) (ds : List D) (vs : List V) (Q : VK), RH K H μ m → RVs K H μ ds vs → Ok K Ex H μ (RVv K) Q (g ds m) → r vs H Q
def mArgs (g : List D → Me → Res D) (fa : MA) : ME := fun ρ m => (fa ρ m).bind g
section
variable {X : Cx} {W : WX} {x : Str} {p pos : Pos} {e : Expr} {es : List Expr} {id T : String} {r : List V → Hp → VK → Prop} {g : List D → Me → Res D} {n : Nat} {fa : MA}
theorem pd_callB (hc : CallR X (.builtin id) r) (hr : GC X.K r g) (hg : Gl X x) (hm : X.mg x = none) (hv : bootBuiltins x = some (.builtin id)) (ha : PDA X W n (e :: es) fa) (hn : x ≠ "__name__" := by decide) (hdb : (x == ("__debug__" : Str)) = false := by decide)
    (he : starEach (e :: es) X.env = (false, eval e X.env) :: starEach es X.env := by rfl) (hpl : (backTo pos (starEach es X.env)).any (·.1) = false := by rfl) : PD X W (.Call (.Name x p) (e :: es) [] pos) (mArgs g fa) :=
  PE.imp (pe_callB hc hg hm hv ha hn hdb he hpl) fun σ H Q ⟨μ, ρ, m, hH, hS, q⟩ => seqR q hH hS fun ds m1 vs H1 μ1 e1 hH1 r1 hS1 q1 => hr _ H1 μ1 m1 ds vs Q hH1 r1.1 q1
theorem pd_callTy (hc : CallR X (.type T) r) (hr : GC X.K r g) (hg : Gl X x) (hm : X.mg x = none) (hv : bootBuiltins x = some (.type T)) (ha : PDA X W n (e :: es) fa) (hn : x ≠ "__name__" := by decide) (hdb : (x == ("__debug__" : Str)) = false := by decide)
    (he : starEach (e :: es) X.env = (false, eval e X.env) :: starEach es X.env := by rfl) (hpl : (backTo pos (starEach es X.env)).any (·.1) = false := by rfl) : PD X W (.Call (.Name x p) (e :: es) [] pos) (mArgs g fa) :=
  PE.imp (pe_callTy hc hg hm hv ha hn hdb he hpl) fun σ H Q ⟨μ, ρ, m, hH, hS, q⟩ => seqR q hH hS fun ds m1 vs H1 μ1 e1 hH1 r1 hS1 q1 => hr _ H1 μ1 m1 ds vs Q hH1 r1.1 q1
end
section
variable {K : PySem.W.Frag} {H : Hp} {μ : Mu} {m : Me}
theorem rvs1 {d : D} {vs : List V} (r : RVs K H μ [d] vs) : ∃ v, vs = [v] ∧ RV K H μ d v := by
  simp only [RVs] at r
  obtain ⟨v, r, rfl, h, rfl⟩ := r
  exact ⟨v, rfl, h⟩
theorem rvs2 {d d' : D} {vs : List V} (r : RVs K H μ [d, d'] vs) : ∃ v v', vs = [v, v'] ∧ RV K H μ d v ∧ RV K H μ d' v' := by
  simp only [RVs] at r
  obtain ⟨v, r, rfl, h, v', r', rfl, h', rfl⟩ := r
  exact ⟨v, v', rfl, h, h'⟩
end
/-! ### dicts as lists of pairs -/
section
variable {κ : Type} [DecidableEq κ]
def getK (kvs : List (κ × D)) (k : κ) : Option D := (kvs.find? fun kv => decide (kv.1 = k)).map (·.2)
def setK (kvs : List (κ × D)) (k : κ) (v : D) : List (κ × D) :=
  if (kvs.any fun kv => decide (kv.1 = k)) = true then kvs.map (fun kv => if kv.1 = k then (kv.1, v) else kv) else kvs ++ [(k, v)]
abbrev RVq (K : PySem.W.Frag) (H : Hp) (μ : Mu) : List (κ × D) → List (κ × V) → Prop := Paired fun p q => p.1 = q.1 ∧ RV K H μ p.2 q.2
variable {K : PySem.W.Frag} {H : Hp} {μ : Mu}
theorem rvq_len {kvs : List (κ × D)} {ps : List (κ × V)} (r : RVq K H μ kvs ps) : kvs.length = ps.length := Paired.length r
theorem rvq_any {k : κ} {kvs : List (κ × D)} {ps : List (κ × V)} (r : RVq K H μ kvs ps) : (kvs.any fun kv => decide (kv.1 = k)) = ps.any fun kv => decide (kv.1 = k) := by
  induction r with
  | nil => rfl
  | cons h t ih => rw [List.any_cons, List.any_cons, ih, h.1]
theorem rvq_get {k : κ} {kvs : List (κ × D)} {ps : List (κ × V)} (r : RVq K H μ kvs ps) : match getK kvs k with
    | some d => ∃ v, valV ps k = some v ∧ RV K H μ d v
    | none => valV ps k = none := by
  induction r with
  | nil => rfl
  | @cons p q kvs ps h t ih =>
    by_cases hk : p.1 = k
    · have e1 : getK (p :: kvs) k = some p.2 := by simp [getK, List.find?_cons, hk]
      rw [e1]
      exact ⟨q.2, valV_pos (h.1 ▸ hk), h.2⟩
    · have e1 : getK (p :: kvs) k = getK kvs k := by simp [getK, List.find?_cons, hk]
      rw [e1, valV_neg (h.1 ▸ hk)]
      exact ih
theorem rvq_set {k : κ} {d : D} {v : V} (hv : RV K H μ d v) {kvs : List (κ × D)} {ps : List (κ × V)} (r : RVq K H μ kvs ps) : RVq K H μ (setK kvs k d) (putK ps k v) := by
  unfold setK putK
  rw [rvq_any r]
  split
  · have : ∀ {kvs : List (κ × D)} {ps : List (κ × V)}, RVq K H μ kvs ps → RVq K H μ (kvs.map fun kv => if kv.1 = k then (kv.1, d) else kv) (ps.map fun kv => if kv.1 = k then (kv.1, v) else kv) := by
      intro kvs ps r
      induction r with
      | nil => exact .nil
      | @cons p q kvs ps h t ih =>
        refine .cons ?_ ih
        by_cases hk : p.1 = k
        · have hk' : q.1 = k := h.1 ▸ hk
          simp only [hk, hk', if_true]; exact ⟨trivial, hv⟩
        · have hk' : ¬ q.1 = k := h.1 ▸ hk
          simp only [hk, hk', if_false]; exact h
    exact this r
  · have : ∀ {kvs : List (κ × D)} {ps : List (κ × V)}, RVq K H μ kvs ps → RVq K H μ (kvs ++ [(k, d)]) (ps ++ [(k, v)]) := by
      intro kvs ps r
      induction r with
      | nil => exact .cons ⟨rfl, hv⟩ .nil
      | cons h t ih => exact .cons h ih
    exact this r
end
theorem rvk_iff {K : PySem.W.Frag} {H : Hp} {μ : Mu} : ∀ {kvs : List (Key × D)} {ps : List (Key × V)}, RVk K H μ kvs ps ↔ RVq K H μ kvs ps
  | [], ps => by
    simp only [RVk]
    constructor
    · rintro rfl; exact .nil
    · intro h; cases h; rfl
  | (k, d) :: kvs, ps => by
    simp only [RVk, RVp]
    constructor
    · rintro ⟨v, q, rfl, h1, h2⟩
      exact .cons ⟨rfl, h1⟩ (rvk_iff.mp h2)
    · intro h
      cases h with
      | @cons _ q _ qs h t => exact ⟨q.2, qs, by rw [show (k, q.2) = q from Prod.ext h.1 rfl], h.2, rvk_iff.mpr t⟩
def keyD : D → Option Key
  | .int i => some (.inl i)
  | .str x => some (.inr x)
  | _ => none
theorem keyD_rv {K : PySem.W.Frag} {H : Hp} {μ : Mu} {d : D} {v : V} {k : Key} (r : RV K H μ d v) (e : keyD d = some k) : v = kV k := by
  cases d <;> cases e <;> simp only [RV] at r <;> exact r
def keysD : List D → Option (List Key)
  | [] => some []
  | d :: ds => (keyD d).bind fun k => (keysD ds).map fun ks => k :: ks
theorem keysD_rv {K : PySem.W.Frag} {H : Hp} {μ : Mu} : ∀ {ds : List D} {vs : List V} {ks : List Key}, RVs K H μ ds vs → keysD ds = some ks → vs = ks.map kV
  | [], vs, ks, r, e => by simp only [RVs] at r; cases e; exact r
  | d :: ds, vs, ks, r, e => by
    simp only [RVs] at r
    obtain ⟨v, r, rfl, h1, h2⟩ := r
    simp only [keysD] at e
    obtain ⟨k, e1, e2⟩ := Option.bind_eq_some_iff.mp e
    obtain ⟨ks', e3, rfl⟩ := Option.map_eq_some_iff.mp e2
    rw [List.map_cons, keyD_rv h1 e1, keysD_rv h2 e3]
/-- the dict's entry at a key: none if it is no dict or the key none -/
def look (m : Me) (d k : D) : Option (Option D) := match view m d with
  | .dct kvs => (keyD k).map fun k => getK kvs k
  | _ => none
section
variable {K : PySem.W.Frag} {H : Hp} {μ : Mu} {m : Me} {d k : D} {v u : V}
def LookOk (K : PySem.W.Frag) (H : Hp) (μ : Mu) (a : Addr) (u : V) (o : Option D) : Prop := match o with
    | some y => ∃ z, DGet H a u (some z) ∧ RV K H μ y z
    | none => DGet H a u none
theorem look_of {o : Option D} (hH : RH K H μ m) (r : RV K H μ d v) (rk : RV K H μ k u) (e : look m d k = some o) : ∃ a, v = .ref a ∧ IsD H a ∧ LookOk K H μ a u o := by
  unfold look at e
  split at e
  · rename_i kvs e1
    obtain ⟨k', e2, e3⟩ := Option.map_eq_some_iff.mp e
    obtain ⟨a, ps, rfl, hs, hr⟩ := view_dct hH r e1
    refine ⟨a, rfl, .inl ⟨ps, hs⟩, ?_⟩
    have g := rvq_get (k := k') (rvk_iff.mp hr)
    have ek := keyD_rv rk e2
    rw [e3] at g
    cases o with
    | none => exact .inl ⟨ps, k', hs, ek, g.symm⟩
    | some y => obtain ⟨z, h1, h2⟩ := g; exact ⟨z, .inl ⟨ps, k', hs, ek, h1.symm⟩, h2⟩
  · cases e
theorem isD_of {x : D} (hH : RH K H μ m) (r : RV K H μ d v) {kvs : List (Key × D)} (e : view m d = .dct kvs) : ∃ a, v = .ref a ∧ IsD H a := by
  obtain ⟨a, ps, rfl, hs, hr⟩ := view_dct hH r e
  exact ⟨a, rfl, .inl ⟨ps, hs⟩⟩
end
section
variable {X : Cx} {W : WX} {o i e value : Expr} {pos pos' tpos apos cpos : Pos} {fo fi fe fv : ME}
/-- d[k] -/
def gDget (d k : D) (m : Me) : Res D := match look m d k with
  | some (some y) => .ok y m
  | _ => .no
theorem pd_dget (hu : X.A.units + 1 < cLine) (ho : PD X W o fo) (hi : PD X W i fi) (hs : NoSl i := by exact fun _ _ => rfl) : PD X W (.Subscript o i pos) (m2 gDget fo fi) :=
  PE.imp (pe_dget hu ho hi hs) fun σ H Q ⟨μ, ρ, m, hH, hS, q⟩ => by
    refine seqR q hH hS fun d m1 v H1 μ1 e1 hH1 r1 hS1 q1 => ?_
    refine seqR q1 hH1 hS1 fun d' m2 v' H2 μ2 e2 hH2 r2 hS2 q2 => ?_
    unfold gDget at q2
    split at q2
    · rename_i y e3
      obtain ⟨a, rfl, _, z, h1, h2⟩ := look_of hH2 (RV.ext e2 d v r1) r2 e3
      exact ⟨a, z, rfl, h1, q2 z H2 μ2 .refl hH2 h2⟩
    · exact q2.elim
/-- k in d, k not in d -/
def gDin (neg : Bool) (k d : D) (m : Me) : Res D := match look m d k with
  | some o => .ok (.bl (if neg then !o.isSome else o.isSome)) m
  | none => .no
theorem look_get {K : PySem.W.Frag} {H : Hp} {μ : Mu} {m : Me} {d k : D} {v u : V} {o : Option D} (hH : RH K H μ m) (r : RV K H μ d v) (rk : RV K H μ k u) (e : look m d k = some o) : ∃ a o', v = .ref a ∧ DGet H a u o' ∧ o'.isSome = o.isSome := by
  obtain ⟨a, rfl, _, h⟩ := look_of hH r rk e
  cases o with
  | none => exact ⟨a, none, rfl, h, rfl⟩
  | some y => obtain ⟨z, h1, _⟩ := h; exact ⟨a, some z, rfl, h1, rfl⟩
theorem pc_in (hu : X.A.units + 1 < cLine) (hi : PD X W i fi) (ho : PD X W o fo) : PC X .In i o (tR X.K W (RVv X.K) (m2 (gDin false) fi fo)) :=
  ⟨fun pins s σ H Q I h => (pc_din hu hi ho).run pins s σ H Q I (by
    obtain ⟨μ, ρ, m, hH, hS, q⟩ := h
    refine seqR q hH hS fun d m1 v H1 μ1 e1 hH1 r1 hS1 q1 => ?_
    refine seqR q1 hH1 hS1 fun d' m2 v' H2 μ2 e2 hH2 r2 hS2 q2 => ?_
    unfold gDin at q2
    split at q2
    · rename_i oo e3
      obtain ⟨a, o', rfl, h1, h2⟩ := look_get hH2 r2 (RV.ext e2 d v r1) e3
      exact ⟨a, o', rfl, h1, q2 _ H2 μ2 .refl hH2 (by simp [RV, h2])⟩
    · exact q2.elim)⟩
theorem pc_notin (hu : X.A.units + 1 < cLine) (hi : PD X W i fi) (ho : PD X W o fo) : PC X .NotIn i o (tR X.K W (RVv X.K) (m2 (gDin true) fi fo)) :=
  ⟨fun pins s σ H Q I h => (pc_dnotin hu hi ho).run pins s σ H Q I (by
    obtain ⟨μ, ρ, m, hH, hS, q⟩ := h
    refine seqR q hH hS fun d m1 v H1 μ1 e1 hH1 r1 hS1 q1 => ?_
    refine seqR q1 hH1 hS1 fun d' m2 v' H2 μ2 e2 hH2 r2 hS2 q2 => ?_
    unfold gDin at q2
    split at q2
    · rename_i oo e3
      obtain ⟨a, o', rfl, h1, h2⟩ := look_get hH2 r2 (RV.ext e2 d v r1) e3
      exact ⟨a, o', rfl, h1, q2 _ H2 μ2 .refl hH2 (by simp [RV, h2])⟩
    · exact q2.elim)⟩
theorem pd_din (hu : X.A.units + 1 < cLine) (hi : PD X W i fi) (ho : PD X W o fo) (h1 : behindInMarks .In o = false := by rfl) : PD X W (.Compare i [.In] [o] pos) (m2 (gDin false) fi fo) := pe_cmp (pc_in hu hi ho) h1
theorem pd_dnotin (hu : X.A.units + 1 < cLine) (hi : PD X W i fi) (ho : PD X W o fo) (h1 : behindInMarks .NotIn o = false := by rfl) : PD X W (.Compare i [.NotIn] [o] pos) (m2 (gDin true) fi fo) := pe_cmp (pc_notin hu hi ho) h1
theorem tB_imp {f : ME} {σ : L2.St} {H : Hp} {Q : Bool → Hp → Prop} (h : tR X.K W RVB (mB f) σ H Q) : tB (tR X.K W (RVv X.K) f) σ H Q := by
  obtain ⟨μ, ρ, m, hH, hS, q⟩ := h
  exact seqR q hH hS fun d m1 v H1 μ1 e1 hH1 r1 hS1 q1 => okB hH1 r1 q1
theorem pdt_din (hu : X.A.units + 1 < cLine) (hi : PD X W i fi) (ho : PD X W o fo) (h1 : behindInMarks .In o = false := by rfl) : PDT X W (.Compare i [.In] [o] pos) (mB (m2 (gDin false) fi fo)) := PT.imp (pt_cmp (pc_in hu hi ho) h1) fun σ H Q h => tB_imp h
theorem pdt_dnotin (hu : X.A.units + 1 < cLine) (hi : PD X W i fi) (ho : PD X W o fo) (h1 : behindInMarks .NotIn o = false := by rfl) : PDT X W (.Compare i [.NotIn] [o] pos) (mB (m2 (gDin true) fi fo)) := PT.imp (pt_cmp (pc_notin hu hi ho) h1) fun σ H Q h => tB_imp h
/-- d.get(k, x) -/
def m3 (g : D → D → D → Me → Res D) (fa fb fc : ME) : ME := fun ρ m => (fa ρ m).bind fun d m => match view m d with
  | .dct _ => (fb ρ m).bind fun d' m => (fc ρ m).bind fun d'' m => g d d' d'' m
  | _ => .no
def gDget2 (d k x : D) (m : Me) : Res D := match look m d k with
  | some (some y) => .ok y m
  | some none => .ok x m
  | none => .no
theorem pd_dget2 (hu : X.A.units + 1 < cLine) (ho : PD X W o fo) (hi : PD X W i fi) (he : PD X W e fe) (hm : M2 X o "get" apos i e cpos) : PD X W (.Call (.Attribute o "get" apos) [i, e] [] cpos) (m3 gDget2 fo fi fe) :=
  PE.imp (pe_dget2 hu ho hi he hm) fun σ H Q ⟨μ, ρ, m, hH, hS, q⟩ => by
    refine seqR q hH hS fun d m1 v H1 μ1 e1 hH1 r1 hS1 q1 => ?_
    split at q1
    · rename_i kvs ev
      obtain ⟨a, rfl, hd⟩ := isD_of (x := d) hH1 r1 ev
      refine ⟨a, rfl, hd, ?_⟩
      refine seqR q1 hH1 hS1 fun d' m2 v' H2 μ2 e2 hH2 r2 hS2 q2 => ?_
      refine seqR q2 hH2 hS2 fun d'' m3 v'' H3 μ3 e3 hH3 r3 hS3 q3 => ?_
      unfold gDget2 at q3
      split at q3
      · rename_i y e4
        obtain ⟨a', ea, _, z, h1, h2⟩ := look_of hH3 (RV.ext e3 d _ (RV.ext e2 d _ r1)) (RV.ext e3 d' v' r2) e4
        cases ea
        exact ⟨some z, h1, q3 z H3 μ3 .refl hH3 h2⟩
      · rename_i e4
        obtain ⟨a', ea, _, h1⟩ := look_of hH3 (RV.ext e3 d _ (RV.ext e2 d _ r1)) (RV.ext e3 d' v' r2) e4
        cases ea
        exact ⟨none, h1, q3 v'' H3 μ3 .refl hH3 r3⟩
      · exact q3.elim
    · exact q1.elim
/-- d[k] = v, d a thing of the store -/
def dput (m : Me) (d k y : D) : Option Me := match d, keyD k with
  | .ref i, some k => match m[i]? with
    | some (.dK kvs) => if kvs.length < 1000000 then some (m.set i (.dK (setK kvs k y))) else none
    | _ => none
  | _, _ => none
theorem dput_of {K : PySem.W.Frag} {H : Hp} {μ : Mu} {m m' : Me} {d k y : D} {v u z : V} (hH : RH K H μ m) (r : RV K H μ d v) (rk : RV K H μ k u) (ry : RV K H μ y z) (e : dput m d k y = some m') :
    ∃ a H', v = .ref a ∧ DPut H a u z H' ∧ Ext K H μ H' μ ∧ RH K H' μ m' := by
  unfold dput at e
  split at e
  · rename_i i k' e1
    simp only [RV] at r
    obtain ⟨a, rfl, ha⟩ := r
    cases e2 : m[i]? with
    | none => simp only [e2] at e; cases e
    | some c =>
      cases c with
      | dK kvs =>
        simp only [e2] at e
        split at e
        · rename_i hl
          cases e
          obtain ⟨a', ea, ps, hs, hr⟩ := hH.at' i _ e2
          rw [ha] at ea; cases ea
          have hq := rvk_iff.mp hr
          have hlen : ps.length < sizeLine := by rw [← rvq_len hq, sizeLine_eq]; omega
          have x := Ext.wr (o := .dK (putK ps k' z)) hH ha
          refine ⟨a, _, rfl, .inl ⟨ps, k', hs, keyD_rv rk e1, hlen, rfl⟩, x, hH.wr ha ⟨_, upd_same, rvk_iff.mpr ?_⟩⟩
          exact L2.Paired.mapP (rvq_set ry hq) fun p q z => ⟨z.1, RV.ext x _ _ z.2⟩
        · cases e
      | _ => simp only [e2] at e; cases e
  · cases e
def sDput (fo fi fv : ME) : MS := fun ρ m => bindS (fv ρ m) ρ fun y m => bindS (fo ρ m) ρ fun d m => bindS (fi ρ m) ρ fun k m => match dput m d k y with
  | some m' => .nx ρ m'
  | none => .no
theorem pds_dput (hu : X.A.units + 1 < cLine) (ho : PD X W o fo) (hi : PD X W i fi) (hv : PD X W value fv) (hs : swapsWith value (some (.Subscript o i pos')) pos.line X.env = pure false := by rfl) : PDS X W (.Assign [.Subscript o i pos'] value pos) (sDput fo fi fv) :=
  PS.imp (ps_dput hu ho hi hv hs) fun D σ H ⟨μ, ρ, m, hH, hS, q⟩ => by
    refine seqS q hH hS fun y m1 z H1 μ1 e1 hH1 r1 hS1 q1 => ?_
    refine seqS q1 hH1 hS1 fun d m2 v H2 μ2 e2 hH2 r2 hS2 q2 => ?_
    refine seqS q2 hH2 hS2 fun k m3 u H3 μ3 e3 hH3 r3 hS3 q3 => ?_
    cases e4 : dput m3 d k y with
    | none => rw [e4] at q3; exact q3.elim
    | some m' =>
      rw [e4] at q3
      obtain ⟨a, H4, rfl, h1, x, h2⟩ := dput_of hH3 (RV.ext e3 d v r2) r3 (RV.ext e3 y z (RV.ext e2 y z r1)) e4
      exact ⟨a, H4, rfl, h1, q3 σ H4 μ3 x h2 (hS3.ext x)⟩
/-- d[k] += e of whole numbers -/
def sDaug (fo fi fe : ME) : MS := fun ρ m => bindS (fo ρ m) ρ fun d m => bindS (fi ρ m) ρ fun k m => match look m d k with
  | some (some (.int i)) => bindS (fe ρ m) ρ fun y m => match y with
    | .int j => match dput m d k (.int (i + j)) with
      | some m' => .nx ρ m'
      | none => .no
    | _ => .no
  | _ => .no
theorem pds_daug (hu : X.A.units + 1 < cLine) (ho : PD X W o fo) (hi : PD X W i fi) (he : PD X W e fe)
    (ha : ∀ ov iv new, augStore i ov iv new = (do holding [new, ov, iv] (setItem ov iv new); release [new, ov, iv] []; pure .next) := by exact fun _ _ _ => rfl) : PDS X W (.AugAssign (.Subscript o i tpos) .Add e pos) (sDaug fo fi fe) :=
  PS.imp (ps_daug hu ho hi he in_add ha) fun D σ H ⟨μ, ρ, m, hH, hS, q⟩ => by
    refine seqS q hH hS fun d m1 v H1 μ1 e1 hH1 r1 hS1 q1 => ?_
    refine seqS q1 hH1 hS1 fun k m2 u H2 μ2 e2 hH2 r2 hS2 q2 => ?_
    split at q2
    · rename_i i0 e3
      obtain ⟨a, rfl, _, z, h1, h2⟩ := look_of hH2 (RV.ext e2 d v r1) r2 e3
      simp only [RV] at h2
      subst h2
      refine ⟨a, _, rfl, h1, ?_⟩
      refine seqS q2 hH2 hS2 fun y m3 w H3 μ3 e3 hH3 r3 hS3 q3 => ?_
      cases y with
      | int j =>
        simp only [RVv, RV] at r3
        subst r3
        refine ⟨i0, j, rfl, rfl, ?_⟩
        dsimp only at q3
        cases e4 : dput m3 d k (.int (i0 + j)) with
        | none => rw [e4] at q3; exact q3.elim
        | some m' =>
          rw [e4] at q3
          obtain ⟨a', H4, ea, h1, x, h2⟩ := dput_of hH3 (RV.ext e3 d _ (RV.ext e2 d _ r1)) (RV.ext e3 k u r2) (z := .int (i0 + j)) (by simp [RV]) e4
          cases ea
          exact ⟨H4, h1, q3 σ H4 μ3 x h2 (hS3.ext x)⟩
      | _ => exact q3.elim
    · exact q2.elim

/-! ### slices -/
def mOpt (f : ME) : En → Me → Res (Option Int) := fun ρ m => (f ρ m).bind fun d m => match d with
  | .int i => .ok (some i) m
  | _ => .no
def mNo : En → Me → Res (Option Int) := fun _ m => .ok none m
abbrev RO : Hp → Mu → Option Int → Option Int → Prop := fun _ _ a b => a = b
abbrev PDO (X : Cx) (W : WX) (e : Option Expr) (f : En → Me → Res (Option Int)) : Prop := PO X e (tR X.K W RO f)
theorem _root_.L2.PO.imp {e : Option Expr} {t t' : TO} (h : PO X e t) (w : ∀ σ H Q, t' σ H Q → t σ H Q) : PO X e t' := ⟨fun pins s σ H Q I q => h.run pins s σ H Q I (w σ H Q q)⟩
theorem pdo_none : PDO X W none mNo := PO.imp po_none fun σ H Q ⟨μ, ρ, m, hH, hS, q⟩ => q none H μ .refl hH rfl
theorem pdo_some (h : PD X W e fe) : PDO X W (some e) (mOpt fe) := PO.imp (po_some h) fun σ H Q ⟨μ, ρ, m, hH, hS, q⟩ => seqR q hH hS fun d m1 v H1 μ1 e1 hH1 r1 hS1 q1 => by
  cases d with
  | int i => simp only [RVv, RV] at r1; exact ⟨i, r1, q1 _ H1 μ1 .refl hH1 rfl⟩
  | _ => exact q1.elim
def cutD {α : Type} (xs : List α) (lo hi : Option Int) : List α := (xs.drop (HT.sIx xs.length 0 lo)).take (HT.sIx xs.length xs.length hi - HT.sIx xs.length 0 lo)
def gSl (d : D) (lo hi : Option Int) (m : Me) : Res D := match view m d with
  | .tup xs => .ok (.tup (cutD xs lo hi)) m
  | .lst xs => .ok (.lst (cutD xs lo hi)) m
  | .str z => if z.length ≤ sizeLine then .ok (.str (cutS z lo hi)) m else .no
  | _ => .no
def mSl (fa : ME) (fl fh : En → Me → Res (Option Int)) : ME := fun ρ m => (fa ρ m).bind fun d m => (fl ρ m).bind fun lo m => (fh ρ m).bind fun hi m => gSl d lo hi m
theorem cut_rv {K : PySem.W.Frag} {H : Hp} {μ : Mu} {ds : List D} {vs : List V} {lo hi : Option Int} (r : RVs K H μ ds vs) : RVs K H μ (cutD ds lo hi) (cutV vs lo hi) := by
  unfold cutD cutV
  rw [r.length]
  exact (r.drop _).take _
theorem cut_whole {α : Type} {xs : List α} {lo hi : Option Int} (h : HT.sIx xs.length 0 lo = 0 ∧ HT.sIx xs.length xs.length hi = xs.length) : cutD xs lo hi = xs := by
  unfold cutD; rw [h.1, h.2]; simp
theorem pd_slice {a : Expr} {lo hi : Option Expr} {p2 : Pos} {fa : ME} {fl fh : En → Me → Res (Option Int)} (ha : PD X W a fa) (hl : PDO X W lo fl) (hh : PDO X W hi fh) : PD X W (.Subscript a (.Slice lo hi none p2) pos) (mSl fa fl fh) :=
  PE.imp (pe_slice (sl_tupN.or (sl_list.or sl_str)) ha hl hh) fun σ H Q ⟨μ, ρ, m, hH, hS, q⟩ => by
    refine seqR q hH hS fun d m1 v H1 μ1 e1 hH1 r1 hS1 q1 => ?_
    refine seqR q1 hH1 hS1 fun lo m2 lo' H2 μ2 e2 hH2 r2 hS2 q2 => ?_
    refine seqR q2 hH2 hS2 fun hi m3 hi' H3 μ3 e3 hH3 r3 hS3 q3 => ?_
    subst r2 r3
    have r := RV.ext e3 d v (RV.ext e2 d v r1)
    unfold gSl at q3
    split at q3
    · rename_i xs e4
      have := view_tup e4; subst this
      obtain ⟨a, vs, rfl, s1, z1, w1⟩ := rv_tup r
      refine .inl ⟨a, vs, rfl, s1.sq, fun hw => ?_, fun hw p o hd hp => ?_⟩
      · refine q3 _ H3 μ3 .refl hH3 ?_
        simp only [RV]
        rw [cut_whole (by rw [w1.length]; exact hw)]
        exact ⟨a, vs, rfl, s1, z1, w1⟩
      · have ex := Ext.new (o := .frz o (.tup (cutV vs lo hi))) hH3 hp
        refine q3 _ _ μ3 ex (hH3.new hp) ?_
        simp only [RV]
        exact ⟨p, _, rfl, .inl ⟨o, upd_same, hd⟩, Nat.le_trans (cutV_length vs lo hi) z1, RVs.ext ex _ _ (cut_rv w1)⟩
    · rename_i xs e4
      obtain ⟨a, vs, rfl, s1, z1, w1⟩ := view_lst hH3 r e4
      refine .inr (.inl ⟨a, vs, rfl, .of s1, fun p hp => ?_⟩)
      have ex := Ext.new (o := .lst (cutV vs lo hi)) hH3 hp
      refine q3 _ _ μ3 ex (hH3.new hp) ?_
      simp only [RV]
      exact ⟨p, _, rfl, ⟨hH3.notin hp, fun z => hH3.hid _ z hp⟩, upd_same, Nat.le_trans (cutV_length vs lo hi) z1, RVs.ext ex _ _ (cut_rv w1)⟩
    · rename_i z e4
      have := view_str e4; subst this
      simp only [RV] at r
      split at q3
      · rename_i hz
        exact .inr (.inr ⟨z, r, hz, q3 _ H3 μ3 .refl hH3 (by simp [RV])⟩)
      · exact q3.elim
    · exact q3.elim
end
end FL

set_option maxRecDepth 100000
namespace FL
open PySem PySem.Spec PyProof.Rows L2

/-! ### order of texts -/
def leS (a b : Str) : Bool := decide (¬ b.cps.toList < a.cps.toList)
theorem leS_trans (a b c : Str) (h1 : leS a b = true) (h2 : leS b c = true) : leS a c = true := by
  have h1 := of_decide_eq_true h1; have h2 := of_decide_eq_true h2
  exact decide_eq_true (List.not_lt.mpr (List.le_trans (List.not_lt.mp h1) (List.not_lt.mp h2)))
theorem leS_total (a b : Str) : (leS a b || leS b a) = true := by
  rw [Bool.or_eq_true]
  rcases List.le_total a.cps.toList b.cps.toList with h | h
  · exact .inl (decide_eq_true (List.not_lt.mpr h))
  · exact .inr (decide_eq_true (List.not_lt.mpr h))
theorem leS_anti {a b : Str} (h1 : leS a b = true) (h2 : leS b a = true) : a = b := by
  have h1 := of_decide_eq_true h1; have h2 := of_decide_eq_true h2
  have := List.le_antisymm (List.not_lt.mp h1) (List.not_lt.mp h2)
  obtain ⟨⟨a⟩⟩ := a; obtain ⟨⟨b⟩⟩ := b
  simp at this; subst this; rfl
theorem sortedS_pw : ∀ {xs : List Str}, sortedS xs = true → xs.Pairwise fun a b => leS a b = true
  | [], _ => .nil
  | x :: r, h => by
    have aux : ∀ (r : List Str) (p : Str), risingS p r = true → (p :: r).Pairwise fun a b => leS a b = true := by
      intro r
      induction r with
      | nil => intro p _; exact List.pairwise_singleton _ _
      | cons y r ih =>
        intro p h
        simp only [risingS, Bool.and_eq_true] at h
        have h1 : leS p y = true := by
          have := h.1
          rw [ltCps_eq] at this
          unfold leS
          simpa using this
        have h2 := ih y h.2
        refine List.pairwise_cons.mpr ⟨fun z hz => ?_, h2⟩
        rcases List.mem_cons.mp hz with e | hz
        · subst e; exact h1
        · exact leS_trans p y z h1 ((List.pairwise_cons.mp h2).1 z hz)
    exact aux r x h
def sortS (xs : List Str) : List Str := xs.mergeSort leS
theorem sortS_eq {xs ys : List Str} (p : ys.Perm xs) (s : sortedS ys = true) : ys = sortS xs :=
  List.Perm.eq_of_pairwise (le := fun a b => leS a b = true) (fun a b _ _ h1 h2 => leS_anti h1 h2) (sortedS_pw s) (List.pairwise_mergeSort leS_trans leS_total xs) (p.trans (List.mergeSort_perm xs leS).symm)

/-! ### built-in functions -/
section
variable {X : Cx}
/-- len of a dict that may be known -/
theorem call_lenR : CallR X (.builtin "len") (fun xs H Q => ∃ a kvs, xs = [V.ref a] ∧ Rd H a (.dK kvs) ∧ Q (.int kvs.length) H) := by
  rintro pins s σ H xs us Q I r ⟨a, kvs, rfl, ha, q⟩
  obtain ⟨u, rfl, ru⟩ := vals1 r
  cases ru
  exact d_len I ha fun t s' I' => ⟨.int kvs.length, H, I', ⟨t, rfl⟩, q⟩
def gLen (ds : List D) (m : Me) : Res D := match ds with
  | [d] => match view m d with
    | .tup xs => .ok (.int xs.length) m
    | .lst xs => .ok (.int xs.length) m
    | .scr xs => .ok (.int xs.length) m
    | .dct xs => .ok (.int xs.length) m
    | .str z => if z.length ≤ sizeLine then .ok (.int z.length) m else .no
    | _ => .no
  | _ => .no
theorem view_scr {m : Me} {d : D} {i : List Int} (e : view m d = .scr i) : d = .scr i := by
  cases d with
  | ref i => unfold view at e; dsimp only at e; split at e <;> cases e
  | _ => exact e
theorem scr_sq {K : PySem.W.Frag} {H : Hp} {μ : Mu} {ns : List Int} {v : V} (r : RV K H μ (.scr ns) v) : ∃ a, v = .ref a ∧ SqL K H a (ns.map V.int) := by
  simp only [RV] at r
  obtain ⟨a, rfl, hs⟩ := r
  refine ⟨a, rfl, ?_⟩
  rcases hs with ⟨_, hs⟩ | hs
  · exact .inl hs
  · rcases hs with (z | ⟨_, z⟩) | hs
    · cases z
    · cases z
    · exact .inr hs
theorem g_len {K : PySem.W.Frag} : GC K (fun xs H Q => (∃ x n, xs = [x] ∧ LenV K x H n ∧ Q (.int n) H) ∨ ∃ a kvs, xs = [V.ref a] ∧ Rd H a (.dK kvs) ∧ Q (.int kvs.length) H) gLen := fun Ex H μ m ds vs Q hH rr q => by
  unfold gLen at q
  split at q
  · rename_i d
    obtain ⟨v, rfl, r⟩ := rvs1 rr
    split at q
    · rename_i xs e
      have := view_tup e; subst this
      obtain ⟨a, vs, rfl, s1, z1, w1⟩ := rv_tup r
      exact .inl ⟨_, vs.length, rfl, .inr ⟨vs, s1.sq, rfl⟩, by rw [← w1.length]; exact q _ H μ .refl hH (by simp [RV])⟩
    · rename_i xs e
      obtain ⟨a, vs, rfl, s1, z1, w1⟩ := view_lst hH r e
      exact .inl ⟨_, vs.length, rfl, .inl ⟨vs, .of s1, rfl⟩, by rw [← w1.length]; exact q _ H μ .refl hH (by simp [RV])⟩
    · rename_i ns e
      have := view_scr e; subst this
      obtain ⟨a, rfl, hs⟩ := scr_sq r
      exact .inl ⟨_, ns.length, rfl, .inl ⟨_, hs, by simp⟩, q _ H μ .refl hH (by simp [RV])⟩
    · rename_i kvs e
      obtain ⟨a, ps, rfl, hs, hr⟩ := view_dct hH r e
      exact .inr ⟨a, ps, rfl, hs, by rw [← rvq_len (rvk_iff.mp hr)]; exact q _ H μ .refl hH (by simp [RV])⟩
    · rename_i z e
      have := view_str e; subst this
      simp only [RV] at r
      subst r
      split at q
      · rename_i hz
        exact .inl ⟨_, z.length, rfl, ⟨hz, rfl⟩, q _ H μ .refl hH (by simp [RV])⟩
      · exact q.elim
    · exact q.elim
  · exact q.elim
def gInt (ds : List D) (m : Me) : Res D := match ds with
  | [.int i] => .ok (.int i) m
  | [.bl k] => .ok (.int (if k then 1 else 0)) m
  | _ => .no
theorem g_int {K : PySem.W.Frag} : GC K (fun xs H Q => (∃ i, xs = [.int i] ∧ Q (.int i) H) ∨ ∃ k, xs = [.bl k] ∧ Q (.int (if k then 1 else 0)) H) gInt := fun Ex H μ m ds vs Q hH rr q => by
  unfold gInt at q
  split at q
  · obtain ⟨v, rfl, r⟩ := rvs1 rr
    simp only [RV] at r; subst r
    exact .inl ⟨_, rfl, q _ H μ .refl hH (by simp [RV])⟩
  · obtain ⟨v, rfl, r⟩ := rvs1 rr
    simp only [RV] at r; subst r
    exact .inr ⟨_, rfl, q _ H μ .refl hH (by simp [RV])⟩
  · exact q.elim
def gAbs (ds : List D) (m : Me) : Res D := match ds with
  | [.int i] => .ok (.int (if i < 0 then -i else i)) m
  | _ => .no
theorem g_abs {K : PySem.W.Frag} : GC K (fun xs H Q => ∃ i, xs = [.int i] ∧ Q (.int (if i < 0 then -i else i)) H) gAbs := fun Ex H μ m ds vs Q hH rr q => by
  unfold gAbs at q
  split at q
  · obtain ⟨v, rfl, r⟩ := rvs1 rr
    simp only [RV] at r; subst r
    exact ⟨_, rfl, q _ H μ .refl hH (by simp [RV])⟩
  · exact q.elim
def gMax2 (ds : List D) (m : Me) : Res D := match ds with
  | [.int i, .int j] => .ok (.int (if j > i then j else i)) m
  | _ => .no
theorem g_max2 {K : PySem.W.Frag} : GC K (fun xs H Q => ∃ i j, xs = [.int i, .int j] ∧ Q (.int (if j > i then j else i)) H) gMax2 := fun Ex H μ m ds vs Q hH rr q => by
  unfold gMax2 at q
  split at q
  · exact ⟨_, _, ints2 rr, q _ H μ .refl hH (by simp [RV])⟩
  · exact q.elim
def gStr (ds : List D) (m : Me) : Res D := match ds with
  | [.int i] => if i.natAbs < 2 ^ 64 then .ok (.str (toString i)) m else .no
  | _ => .no
theorem g_str {K : PySem.W.Frag} : GC K (fun xs H Q => ∃ i, xs = [.int i] ∧ i.natAbs.log2 < 1920 ∧ Q (.str (toString i)) H) gStr := fun Ex H μ m ds vs Q hH rr q => by
  unfold gStr at q
  split at q
  · obtain ⟨v, rfl, r⟩ := rvs1 rr
    simp only [RV] at r; subst r
    split at q
    · rename_i i hi
      refine ⟨_, rfl, ?_, q _ H μ .refl hH (by simp [RV])⟩
      exact Nat.lt_of_lt_of_le (PySem.Flt.log2_lt_of (by decide) hi) (by decide)
    · exact q.elim
  · exact q.elim
/-- tuple(x) of a list or a tuple -/
def gTuple (ds : List D) (m : Me) : Res D := match ds with
  | [d] => match view m d with
    | .tup xs => .ok (.tup xs) m
    | .lst xs => .ok (.tup xs) m
    | _ => .no
  | _ => .no
theorem g_tuple {K : PySem.W.Frag} : GC K (rTupOfN K) gTuple := fun Ex H μ m ds vs Q hH rr q => by
  unfold gTuple at q
  split at q
  · rename_i d
    obtain ⟨v, rfl, r⟩ := rvs1 rr
    split at q
    · rename_i xs e
      have := view_tup e; subst this
      have r0 := r
      obtain ⟨a, vs, rfl, s1, z1, w1⟩ := rv_tup r
      exact ⟨a, vs, rfl, .inr ⟨s1.sq, q _ H μ .refl hH r0⟩⟩
    · rename_i xs e
      obtain ⟨a, vs, rfl, s1, z1, w1⟩ := view_lst hH r e
      refine ⟨a, vs, rfl, .inl ⟨.of s1, fun p o hd hp => ?_⟩⟩
      have ex := Ext.new (o := .frz o (.tup vs)) hH hp
      refine q _ _ μ ex (hH.new hp) ?_
      simp only [RV]
      exact ⟨p, vs, rfl, .inl ⟨o, upd_same, hd⟩, z1, RVs.ext ex _ _ w1⟩
    · exact q.elim
  · exact q.elim
def gList (ds : List D) (m : Me) : Res D := match ds with
  | [d] => match seqV m d with
    | some xs => .ok (.lst xs) m
    | none => .no
  | _ => .no
theorem g_list {K : PySem.W.Frag} : GC K (fun xs H Q => ∃ p ys, xs = [.ref p] ∧ (SqL K H p ys ∨ SqT K H p ys) ∧ ∀ l, H l = none → Q (.ref l) (upd H l (.lst ys))) gList := fun Ex H μ m ds vs Q hH rr q => by
  unfold gList at q
  split at q
  · rename_i d
    obtain ⟨v, rfl, r⟩ := rvs1 rr
    split at q
    · rename_i xs e
      obtain ⟨a, vs, rfl, s1, z1, w1⟩ := seqV_of hH r e
      refine ⟨a, vs, rfl, s1, fun p hp => ?_⟩
      have ex := Ext.new (o := .lst vs) hH hp
      refine q _ _ μ ex (hH.new hp) ?_
      simp only [RV]
      exact ⟨p, vs, rfl, ⟨hH.notin hp, fun z => hH.hid _ z hp⟩, upd_same, z1, RVs.ext ex _ _ w1⟩
    · exact q.elim
  · exact q.elim
/-- a list of truths, of ints, of texts -/
def blsD : List D → Option (List Bool)
  | [] => some []
  | .bl b :: r => (blsD r).map fun bs => b :: bs
  | _ => none
def intsD : List D → Option (List Int)
  | [] => some []
  | .int b :: r => (intsD r).map fun bs => b :: bs
  | _ => none
def strsD : List D → Option (List Str)
  | [] => some []
  | .str b :: r => (strsD r).map fun bs => b :: bs
  | _ => none
theorem blsD_rv {K : PySem.W.Frag} {H : Hp} {μ : Mu} : ∀ {ds : List D} {vs : List V} {bs : List Bool}, RVs K H μ ds vs → blsD ds = some bs → vs = bs.map V.bl
  | [], vs, bs, r, e => by simp only [RVs] at r; cases e; exact r
  | d :: ds, vs, bs, r, e => by
    cases d <;> simp only [blsD] at e <;> (try cases e)
    simp only [RVs, RV] at r
    obtain ⟨v, r, rfl, rfl, h2⟩ := r
    obtain ⟨bs', e3, rfl⟩ := Option.map_eq_some_iff.mp e
    rw [List.map_cons, blsD_rv h2 e3]
theorem intsD_rv {K : PySem.W.Frag} {H : Hp} {μ : Mu} : ∀ {ds : List D} {vs : List V} {bs : List Int}, RVs K H μ ds vs → intsD ds = some bs → vs = bs.map V.int
  | [], vs, bs, r, e => by simp only [RVs] at r; cases e; exact r
  | d :: ds, vs, bs, r, e => by
    cases d <;> simp only [intsD] at e <;> (try cases e)
    simp only [RVs, RV] at r
    obtain ⟨v, r, rfl, rfl, h2⟩ := r
    obtain ⟨bs', e3, rfl⟩ := Option.map_eq_some_iff.mp e
    rw [List.map_cons, intsD_rv h2 e3]
theorem strsD_rv {K : PySem.W.Frag} {H : Hp} {μ : Mu} : ∀ {ds : List D} {vs : List V} {bs : List Str}, RVs K H μ ds vs → strsD ds = some bs → vs = bs.map V.str
  | [], vs, bs, r, e => by simp only [RVs] at r; cases e; exact r
  | d :: ds, vs, bs, r, e => by
    cases d <;> simp only [strsD] at e <;> (try cases e)
    simp only [RVs, RV] at r
    obtain ⟨v, r, rfl, rfl, h2⟩ := r
    obtain ⟨bs', e3, rfl⟩ := Option.map_eq_some_iff.mp e
    rw [List.map_cons, strsD_rv h2 e3]
def lstV (m : Me) (d : D) : Option (List D) := match view m d with
  | .lst xs => some xs
  | _ => none
theorem lstV_of {K : PySem.W.Frag} {H : Hp} {μ : Mu} {m : Me} {d : D} {v : V} {xs : List D} (hH : RH K H μ m) (r : RV K H μ d v) (e : lstV m d = some xs) : ∃ a vs, v = .ref a ∧ H a = some (.lst vs) ∧ vs.length ≤ sizeLine ∧ RVs K H μ xs vs := by
  unfold lstV at e
  split at e
  · rename_i ys e1
    cases e
    exact view_lst hH r e1
  · cases e
def gAll (ds : List D) (m : Me) : Res D := match ds with
  | [d] => match (lstV m d).bind blsD with
    | some bs => .ok (.bl (bs.all id)) m
    | none => .no
  | _ => .no
def gAny (ds : List D) (m : Me) : Res D := match ds with
  | [d] => match (lstV m d).bind blsD with
    | some bs => .ok (.bl (bs.any id)) m
    | none => .no
  | _ => .no
def gSum (ds : List D) (m : Me) : Res D := match ds with
  | [d] => match (lstV m d).bind intsD with
    | some bs => .ok (.int bs.sum) m
    | none => .no
  | _ => .no
theorem g_all {K : PySem.W.Frag} : GC K (rAll K) gAll := fun Ex H μ m ds vs Q hH rr q => by
  unfold gAll at q
  split at q
  · obtain ⟨v, rfl, r⟩ := rvs1 rr
    split at q
    · rename_i d bs e
      obtain ⟨xs, e1, e2⟩ := Option.bind_eq_some_iff.mp e
      obtain ⟨a, vs, rfl, s1, z1, w1⟩ := lstV_of hH r e1
      have := blsD_rv w1 e2; subst this
      exact ⟨a, bs, rfl, .of s1, q _ H μ .refl hH (by simp [RV])⟩
    · exact q.elim
  · exact q.elim
theorem g_any {K : PySem.W.Frag} : GC K (rAny K) gAny := fun Ex H μ m ds vs Q hH rr q => by
  unfold gAny at q
  split at q
  · obtain ⟨v, rfl, r⟩ := rvs1 rr
    split at q
    · rename_i d bs e
      obtain ⟨xs, e1, e2⟩ := Option.bind_eq_some_iff.mp e
      obtain ⟨a, vs, rfl, s1, z1, w1⟩ := lstV_of hH r e1
      have := blsD_rv w1 e2; subst this
      exact ⟨a, bs, rfl, .of s1, q _ H μ .refl hH (by simp [RV])⟩
    · exact q.elim
  · exact q.elim
theorem g_sum {K : PySem.W.Frag} : GC K (rSum K) gSum := fun Ex H μ m ds vs Q hH rr q => by
  unfold gSum at q
  split at q
  · obtain ⟨v, rfl, r⟩ := rvs1 rr
    split at q
    · rename_i d bs e
      obtain ⟨xs, e1, e2⟩ := Option.bind_eq_some_iff.mp e
      obtain ⟨a, vs, rfl, s1, z1, w1⟩ := lstV_of hH r e1
      have := intsD_rv w1 e2; subst this
      exact ⟨a, bs, rfl, .of s1, q _ H μ .refl hH (by simp [RV])⟩
    · exact q.elim
  · exact q.elim
/-- sorted(d), d a dict of few texts -/
def skeys : List (Key × D) → Option (List Str)
  | [] => some []
  | (.inr x, _) :: r => (skeys r).map fun xs => x :: xs
  | _ => none
theorem skeys_rv {K : PySem.W.Frag} {H : Hp} {μ : Mu} : ∀ {kvs : List (Key × D)} {ps : List (Key × V)} {ks : List Str}, RVq K H μ kvs ps → skeys kvs = some ks → ps.map (·.1) = ks.map Sum.inr
  | [], _, ks, .nil, e => by cases e; rfl
  | (k, d) :: kvs, _, ks, .cons h t, e => by
    cases k with
    | inl i => cases e
    | inr x =>
      simp only [skeys] at e
      obtain ⟨ks', e1, rfl⟩ := Option.map_eq_some_iff.mp e
      rw [List.map_cons, List.map_cons, skeys_rv t e1, ← h.1]
def gSortD (ds : List D) (m : Me) : Res D := match ds with
  | [d] => match view m d with
    | .dct kvs => match skeys kvs with
      | some ks => if ks.length < 64 then .ok (.lst ((sortS ks).map .str)) m else .no
      | none => .no
    | _ => .no
  | _ => .no
theorem strs_rv {K : PySem.W.Frag} {H : Hp} {μ : Mu} : ∀ (ks : List Str), RVs K H μ (ks.map D.str) (ks.map V.str)
  | [] => by simp [RVs]
  | k :: ks => by simp only [List.map_cons, RVs]; exact ⟨_, _, rfl, by simp [RV], strs_rv ks⟩
theorem g_sortD {K : PySem.W.Frag} : GC K (fun xs H Q => ∃ (a : Addr) (kvs : List (Key × V)) (ks : List Str), xs = [.ref a] ∧ Rd H a (.dK kvs) ∧ kvs.map (·.1) = ks.map Sum.inr ∧ ks.length < 64 ∧
    ∀ ys p, ys.Perm ks → sortedS ys = true → H p = none → Q (.ref p) (upd H p (.lst (ys.map V.str)))) gSortD := fun Ex H μ m ds vs Q hH rr q => by
  unfold gSortD at q
  split at q
  · obtain ⟨v, rfl, r⟩ := rvs1 rr
    split at q
    · rename_i d kvs e
      obtain ⟨a, ps, rfl, hs, hr⟩ := view_dct hH r e
      split at q
      · rename_i ks e2
        split at q
        · rename_i h64
          refine ⟨a, ps, ks, rfl, hs, skeys_rv (rvk_iff.mp hr) e2, h64, fun ys p hp hsd hn => ?_⟩
          have ey := sortS_eq hp hsd
          have ex := Ext.new (o := .lst (ys.map V.str)) hH hn
          refine q _ _ μ ex (hH.new hn) ?_
          simp only [RV]
          refine ⟨p, _, rfl, ⟨hH.notin hn, fun z => hH.hid _ z hn⟩, upd_same, ?_, ?_⟩
          · rw [List.length_map, hp.length_eq, sizeLine_eq]; omega
          · rw [ey]; exact strs_rv _
        · exact q.elim
      · exact q.elim
    · exact q.elim
  · exact q.elim

/-! ### isinstance with a built-in type -/
def tyD (m : Me) (d : D) : Option String := match view m d with
  | .non => some "NoneType"
  | .bl _ => some "bool"
  | .int _ => some "int"
  | .str _ => some "str"
  | .tup _ => some "tuple"
  | .lst _ => some "list"
  | .dct _ => some "dict"
  | .scr _ => some "list"
  | .ref _ => none
  | .fn _ => none
theorem tyD_of {K : PySem.W.Frag} {H : Hp} {μ : Mu} {m : Me} {d : D} {v : V} {t : String} (hH : RH K H μ m) (r : RV K H μ d v) (e : tyD m d = some t) : TyX K H v (.type t) := by
  unfold tyD at e
  split at e <;> cases e
  · rename_i e1
    have : d = .non := by
      cases d with
      | ref i => unfold view at e1; dsimp only at e1; split at e1 <;> cases e1
      | _ => exact e1
    subst this; simp only [RV] at r; subst r; exact .base .non
  · rename_i b e1
    have : d = .bl b := by
      cases d with
      | ref i => unfold view at e1; dsimp only at e1; split at e1 <;> cases e1
      | _ => exact e1
    subst this; simp only [RV] at r; subst r; exact .base (.bl b)
  · rename_i i e1; have := view_int e1; subst this; simp only [RV] at r; subst r; exact .base (.int i)
  · rename_i i e1; have := view_str e1; subst this; simp only [RV] at r; subst r; exact .base (.str i)
  · rename_i xs e1
    have := view_tup e1; subst this
    obtain ⟨a, vs, rfl, s1, _, _⟩ := rv_tup r
    rcases s1 with ⟨o, s1, _⟩ | ⟨o, its, n, hk, hc, _⟩
    · exact .fTuple s1
    · exact .kTuple hk hc
  · rename_i xs e1
    obtain ⟨a, vs, rfl, s1, _, _⟩ := view_lst hH r e1
    exact .base (.lst s1)
  · rename_i xs e1
    obtain ⟨a, ps, rfl, s1, _⟩ := view_dct hH r e1
    rcases s1 with s1 | ⟨o, s1⟩
    · exact .base (.dK s1)
    · exact .fDict s1
  · rename_i xs e1
    have := view_scr e1; subst this
    obtain ⟨a, rfl, s1⟩ := scr_sq r
    rcases s1 with (s1 | ⟨o, s1⟩) | ⟨o, its, n, hk, hc, _⟩
    · exact .base (.lst s1)
    · exact .base (.frz s1)
    · exact .kList hk hc
def gIsi (T : String) (d : D) (m : Me) : Res D := match (tyD m d).bind fun t => kitB t T with
  | some b => .ok (.bl b) m
  | none => .no
variable {W : WX} {a : Expr} {fa : ME} {p p2 pos : Pos} {y : Str} {T : String}
theorem pd_isi (hg : Gl X "isinstance") (hm : X.mg "isinstance" = none) (hg2 : Gl X y) (hm2 : X.mg y = none) (hv2 : bootBuiltins y = some (.type T)) (ha : PD X W a fa) (hn2 : y ≠ "__name__" := by decide) (hd2 : (y == ("__debug__" : Str)) = false := by decide)
    (he : starEach [a, .Name y p2] X.env = (false, eval a X.env) :: starEach [.Name y p2] X.env := by rfl) (hpl : (backTo pos (starEach [.Name y p2] X.env)).any (·.1) = false := by rfl) (he2 : starEach [.Name y p2] X.env = (false, eval (.Name y p2) X.env) :: starEach [] X.env := by rfl) :
    PD X W (.Call (.Name "isinstance" p) [a, .Name y p2] [] pos) (m1 (gIsi T) fa) :=
  PE.imp (pe_callB call_isi hg hm (by decide +kernel) (pa_cons ha (pa_cons (pe_bltn (v := .ty T) hg2 hm2 hv2 rfl hn2 hd2) pa_nil he2) he) (by decide) (by decide) he hpl) fun σ H Q ⟨μ, ρ, m, hH, hS, q⟩ => by
    refine seqR q hH hS fun d m1 v H1 μ1 e1 hH1 r1 hS1 q1 => ?_
    unfold gIsi at q1
    split at q1
    · rename_i b e
      obtain ⟨t, e1, e2⟩ := Option.bind_eq_some_iff.mp e
      exact ⟨v, .ty T, .type t, .type T, b, rfl, .ty T, tyD_of hH1 r1 e1, kit_ty e2, q1 _ H1 μ1 .refl hH1 (by simp [RV])⟩
    · exact q1.elim

/-! ### methods of lists of the store -/
variable {o e : Expr} {fo fe : ME} {apos cpos : Pos}
def mAppend (fo fe : ME) : ME := fun ρ m => (fo ρ m).bind fun d m => match d with
  | .ref i => match m[i]? with
    | some (.lst _) => (fe ρ m).bind fun y m => match m[i]? with
      | some (.lst xs) => if xs.length < 1000000 then .ok .non (m.set i (.lst (xs ++ [y]))) else .no
      | _ => .no
    | _ => .no
  | _ => .no
theorem pd_append (ho : PD X W o fo) (he : PD X W e fe) (hbase : attributeBase o "append" X.env (eval o X.env) = eval o X.env := by rfl)
    (hfew : ((backTo cpos (starEach [e] X.env)).all (fun x => !x.1) && (backToKw cpos (keywordEach [] X.env)).all (fun x => x.1.isSome)
      && decide (([e] : List Expr).length + ([] : List Keyword).length + (if ([] : List Keyword).isEmpty then 0 else 1) < 30)) = true := by rfl)
    (hline : (apos.endLine == cpos.line) = true := by rfl) (hs : starEach [e] X.env = (false, eval e X.env) :: starEach [] X.env := by rfl) (hplain : (backTo cpos (starEach [] X.env)).any (·.1) = false := by rfl) :
    PD X W (.Call (.Attribute o "append" apos) [e] [] cpos) (mAppend fo fe) :=
  PE.imp (pe_bm PySem.F.plainAttrs_list PySem.F.slot_list_append PySem.F.type_list_append mt_append ho (pa_cons he pa_nil hs) hbase hfew hline hs hplain) fun σ H Q ⟨μ, ρ, m, hH, hS, q⟩ => by
    refine seqR q hH hS fun d m1 v H1 μ1 e1 hH1 r1 hS1 q1 => ?_
    cases d with
    | ref i =>
      simp only [RVv, RV] at r1
      obtain ⟨a, rfl, ha⟩ := r1
      cases e2 : m1[i]? with
      | none => simp only [e2] at q1; exact q1.elim
      | some c =>
        cases c with
        | lst xs0 =>
          simp only [e2] at q1
          obtain ⟨a', ea, vs0, hs0, _, _⟩ := hH1.at' i _ e2
          rw [ha] at ea; cases ea
          refine ⟨.inl ⟨rfl, vs0, .of hs0⟩, ?_⟩
          refine seqR q1 hH1 hS1 fun y m2 z H2 μ2 e2' hH2 r2 hS2 q2 => ?_
          cases e3 : m2[i]? with
          | none => simp only [e3] at q2; exact q2.elim
          | some c =>
            cases c with
            | lst xs =>
              simp only [e3] at q2
              split at q2
              · rename_i hl
                have ha2 := e2'.get ha
                obtain ⟨a', ea, vs, hs, hz, hr⟩ := hH2.at' i _ e3
                rw [ha2] at ea; cases ea
                have hlen := hr.length
                have ex := Ext.wr (o := .lst (vs ++ [z])) hH2 ha2
                refine ⟨a, vs, z, rfl, rfl, hs, by rw [sizeLine_eq]; omega, ?_⟩
                refine q2 _ _ μ2 ex (hH2.wr ha2 ⟨_, upd_same, ?_, RVs.ext ex _ _ (hr.append (RVs.one r2))⟩) (by simp [RV])
                rw [List.length_append, List.length_singleton, sizeLine_eq]; omega
              · exact q2.elim
            | _ => simp only [e3] at q2; exact q2.elim
        | _ => simp only [e2] at q1; exact q1.elim
    | _ => exact q1.elim
def mExtend (fo fe : ME) : ME := fun ρ m => (fo ρ m).bind fun d m => match d with
  | .ref i => match m[i]? with
    | some (.lst _) => (fe ρ m).bind fun y m => match m[i]?, lstV m y with
      | some (.lst xs), some ys => if xs.length + ys.length < 1000000 then .ok .non (m.set i (.lst (xs ++ ys))) else .no
      | _, _ => .no
    | _ => .no
  | _ => .no
theorem pd_extend (ho : PD X W o fo) (he : PD X W e fe) (hbase : attributeBase o "extend" X.env (eval o X.env) = eval o X.env := by rfl)
    (hfew : ((backTo cpos (starEach [e] X.env)).all (fun x => !x.1) && (backToKw cpos (keywordEach [] X.env)).all (fun x => x.1.isSome)
      && decide (([e] : List Expr).length + ([] : List Keyword).length + (if ([] : List Keyword).isEmpty then 0 else 1) < 30)) = true := by rfl)
    (hline : (apos.endLine == cpos.line) = true := by rfl) (hs : starEach [e] X.env = (false, eval e X.env) :: starEach [] X.env := by rfl) (hplain : (backTo cpos (starEach [] X.env)).any (·.1) = false := by rfl) :
    PD X W (.Call (.Attribute o "extend" apos) [e] [] cpos) (mExtend fo fe) :=
  PE.imp (pe_bm PySem.F.plainAttrs_list PySem.F.slot_list_extend PySem.F.type_list_extend mt_extend ho (pa_cons he pa_nil hs) hbase hfew hline hs hplain) fun σ H Q ⟨μ, ρ, m, hH, hS, q⟩ => by
    refine seqR q hH hS fun d m1 v H1 μ1 e1 hH1 r1 hS1 q1 => ?_
    cases d with
    | ref i =>
      simp only [RVv, RV] at r1
      obtain ⟨a, rfl, ha⟩ := r1
      cases e2 : m1[i]? with
      | none => simp only [e2] at q1; exact q1.elim
      | some c =>
        cases c with
        | lst xs0 =>
          simp only [e2] at q1
          obtain ⟨a', ea, vs0, hs0, _, _⟩ := hH1.at' i _ e2
          rw [ha] at ea; cases ea
          refine ⟨.inl ⟨rfl, vs0, .of hs0⟩, ?_⟩
          refine seqR q1 hH1 hS1 fun y m2 z H2 μ2 e2' hH2 r2 hS2 q2 => ?_
          cases e3 : m2[i]? with
          | none => simp only [e3] at q2; exact q2.elim
          | some c =>
            cases c with
            | lst xs =>
              cases e4 : lstV m2 y with
              | none => simp only [e3, e4] at q2; exact q2.elim
              | some ys =>
                simp only [e3, e4] at q2
                split at q2
                · rename_i hl
                  have ha2 := e2'.get ha
                  obtain ⟨a', ea, vs, hs, hz, hr⟩ := hH2.at' i _ e3
                  rw [ha2] at ea; cases ea
                  obtain ⟨b, us, rfl, hb, hzb, hrb⟩ := lstV_of hH2 r2 e4
                  have hlen := hr.length
                  have hlenb := hrb.length
                  have ex := Ext.wr (o := .lst (vs ++ us)) hH2 ha2
                  refine ⟨a, b, vs, us, rfl, rfl, hs, hb, by rw [sizeLine_eq]; omega, ?_⟩
                  refine q2 _ _ μ2 ex (hH2.wr ha2 ⟨_, upd_same, ?_, RVs.ext ex _ _ (hr.append hrb)⟩) (by simp [RV])
                  rw [List.length_append, sizeLine_eq]; omega
                · exact q2.elim
            | _ => simp only [e3] at q2; exact q2.elim
        | _ => simp only [e2] at q1; exact q1.elim
    | _ => exact q1.elim
variable {i value : Expr} {fi fv : ME} {pos' : Pos}
def sSetIx (fo fi fv : ME) : MS := fun ρ m => bindS (fv ρ m) ρ fun y m => bindS (fo ρ m) ρ fun d m => bindS (fi ρ m) ρ fun k m => match d, k with
  | .ref i, .int k => match m[i]? with
    | some (.lst xs) => match ixN xs.length k with
      | some j => .nx ρ (m.set i (.lst (xs.set j y)))
      | none => .no
    | _ => .no
  | _, _ => .no
theorem RVs.set {K : PySem.W.Frag} {H : Hp} {μ : Mu} {y : D} {z : V} (h : RV K H μ y z) : ∀ {ds : List D} {vs : List V} (j : Nat), RVs K H μ ds vs → RVs K H μ (ds.set j y) (vs.set j z)
  | [], vs, j, r => by simp only [RVs] at r; subst r; simp [RVs]
  | d :: ds, vs, 0, r => by
    simp only [RVs] at r
    obtain ⟨v, r, rfl, h1, h2⟩ := r
    simp only [List.set_cons_zero, RVs]
    exact ⟨z, r, rfl, h, h2⟩
  | d :: ds, vs, j + 1, r => by
    simp only [RVs] at r
    obtain ⟨v, r, rfl, h1, h2⟩ := r
    simp only [List.set_cons_succ, RVs]
    exact ⟨v, _, rfl, h1, RVs.set h j h2⟩
theorem pds_setix (ho : PD X W o fo) (hi : PD X W i fi) (hv : PD X W value fv) (hs : swapsWithSole [.Subscript o i pos'] value pos.line X.env = pure false := by rfl) (hw : swappedStores [.Subscript o i pos'] value X.env = pure none := by rfl)
    (h1 : (assignEach [.Subscript o i pos'] X.env).map (·.2) = [assign (.Subscript o i pos') X.env] := by rfl)
    (ha : ∀ v, assign (.Subscript o i pos') X.env v = (do
      let ov ← holding [v] (eval o X.env)
      let iv ← holding [v, ov] (eval i X.env)
      standAt pos'
      holding [v, ov, iv] (setItem ov iv v)
      release [v, ov, iv] []) := by intro _; rfl) : PDS X W (.Assign [.Subscript o i pos'] value pos) (sSetIx fo fi fv) :=
  PS.imp (ps_asg hv (pg_sub ho hi set_list ha) hs hw h1) fun D σ H ⟨μ, ρ, m, hH, hS, q⟩ => by
    refine seqS q hH hS fun y m1 z H1 μ1 e1 hH1 r1 hS1 q1 => ?_
    refine seqS q1 hH1 hS1 fun d m2 v H2 μ2 e2 hH2 r2 hS2 q2 => ?_
    refine seqS q2 hH2 hS2 fun k m3 u H3 μ3 e3 hH3 r3 hS3 q3 => ?_
    cases d with
    | ref i =>
      cases k with
      | int k =>
        simp only [RVv, RV] at r2 r3
        subst r3
        obtain ⟨a, rfl, ha⟩ := r2
        have ha3 := e3.get ha
        dsimp only at q3
        cases e4 : m3[i]? with
        | none => simp only [e4] at q3; exact q3.elim
        | some c =>
          cases c with
          | lst xs =>
            simp only [e4] at q3
            cases e5 : ixN xs.length k with
            | none => simp only [e5] at q3; exact q3.elim
            | some j =>
              simp only [e5] at q3
              obtain ⟨a', ea, vs, hs, hz, hr⟩ := hH3.at' i _ e4
              rw [ha3] at ea; cases ea
              have ex := Ext.wr (o := .lst (vs.set j z)) hH3 ha3
              refine ⟨a, vs, k, j, rfl, rfl, hs, by rw [← hr.length]; exact e5, ?_⟩
              refine q3 σ _ μ3 ex (hH3.wr ha3 ⟨_, upd_same, by rw [List.length_set]; exact hz, RVs.ext ex _ _ (RVs.set (RV.ext e3 y z (RV.ext e2 y z r1)) j hr)⟩) (hS3.ext ex)
          | _ => simp only [e4] at q3; exact q3.elim
      | _ => exact q3.elim
    | _ => exact q3.elim
/-- name += e, whole numbers or texts -/
def sAug (i : Nat) (f : D → D → Me → Res D) (fe : ME) : MS := fun ρ m => match ρ[i]? with
  | some (some d) => bindS (fe ρ m) ρ fun y m => bindS (f d y m) ρ fun z m => .nx (ρ.set i (some z)) m
  | _ => .no
def gIAdd (d d' : D) (m : Me) : Res D := match d, d' with
  | .int i, .int j => .ok (.int (i + j)) m
  | .str x, .str y => if x.length + y.length ≤ sizeLine then .ok (.str (x ++ y)) m else .no
  | _, _ => .no
def gISub (d d' : D) (m : Me) : Res D := match d, d' with
  | .int i, .int j => .ok (.int (i - j)) m
  | _, _ => .no
theorem g_iadd {K : PySem.W.Frag} : G2 K (fun x y H Q => rI0 (fun i j => .int (i + j)) x y H Q ∨ rAddS x y H Q) gIAdd := fun Ex H μ m d d' x y Q hH r1 r2 q => by
  unfold gIAdd at q
  split at q
  · simp only [RV] at r1 r2
    exact .inl ⟨_, _, r1, r2, q _ H μ .refl hH (by simp [RV])⟩
  · simp only [RV] at r1 r2
    split at q
    · rename_i hz
      exact .inr ⟨_, _, r1, r2, hz, q _ H μ .refl hH (by simp [RV])⟩
    · exact q.elim
  · exact q.elim
theorem g_isub {K : PySem.W.Frag} : G2 K (rI0 (fun i j => .int (i - j))) gISub := fun Ex H μ m d d' x y Q hH r1 r2 q => by
  unfold gISub at q
  split at q
  · simp only [RV] at r1 r2
    exact ⟨_, _, r1, r2, q _ H μ .refl hH (by simp [RV])⟩
  · exact q.elim
theorem pds_aug (j : Nat) {x : Str} {op : Operator} {r : R2} {g : D → D → Me → Res D} (hN : X.N.Nodup) (ho : OpR X (inplaceOp op) r) (hg : G2 X.K r g) (he : PD X W e fe) (hi : X.N[j]? = some x := by rfl) (hx : Loc X.env.scope x := by first | exact .inl rfl | exact .inr rfl)
    (hf : X.fn x = true ∨ X.env.scope.names.lookup x = some .local := by first | exact .inl rfl | exact .inr rfl | assumption) : PDS X W (.AugAssign (.Name x pos') op e pos) (sAug j g fe) :=
  PS.imp (ps_aug (i := j) hN hi hx he ho hf) fun D σ H ⟨μ, ρ, m, hH, hS, q⟩ => by
    unfold sAug at q
    cases e1 : ρ[j]? with
    | none => simp only [e1] at q; exact q.elim
    | some od =>
      cases od with
      | none => simp only [e1] at q; exact q.elim
      | some d =>
        simp only [e1] at q
        obtain ⟨v, h1, h2⟩ := hS.2 j d e1
        refine ⟨v, h1, ?_⟩
        refine seqS q hH hS fun y m1 z H1 μ1 e1 hH1 r1 hS1 q1 => ?_
        have key : Ok X.K (fun c d H' => W c d σ H') H1 μ1 (RVv X.K) (fun zz H2 => D.nx (σ.set j (some zz)) H2) (g d y m1) := by
          cases e2 : g d y m1 with
          | no => rw [e2] at q1; exact q1
          | exc x mm => rw [e2] at q1; exact fun H' μ' c dd x' hH' r => q1 σ H' μ' c dd x' hH' (hS1.ext x') r
          | ok dd mm => rw [e2] at q1; exact fun zz H' μ' x' hH' r => q1 _ H' μ' x' hH' ((hS1.ext x').set r j)
        exact hg _ H1 μ1 m1 d y v z _ hH1 (RV.ext e1 d v h2) r1 key
/-- a list times an int -/
noncomputable def gRep (d d' : D) (m : Me) : Res D := match view m d, d' with
  | .lst xs, .int k => if (-1000 ≤ k ∧ k ≤ 1000) ∧ xs.length * k.toNat ≤ 1000000 then .ok (.lst (List.replicate k.toNat xs).flatten) m else .no
  | .int i, .int j => gMul (.int i) (.int j) m
  | _, _ => .no
theorem rep_rv {K : PySem.W.Frag} {H : Hp} {μ : Mu} {ds : List D} {vs : List V} (r : RVs K H μ ds vs) : ∀ k : Nat, RVs K H μ (List.replicate k ds).flatten (List.replicate k vs).flatten
  | 0 => by simp [RVs]
  | k + 1 => by rw [List.replicate_succ, List.replicate_succ, List.flatten_cons, List.flatten_cons]; exact r.append (rep_rv r k)
theorem g_rep {K : PySem.W.Frag} : G2 K (fun x y H Q => rRep x y H Q ∨ rI CMul (fun i j => .int (i * j)) x y H Q) gRep := fun Ex H μ m d d' x y Q hH r1 r2 q => by
  unfold gRep at q
  split at q
  · rename_i xs k e
    obtain ⟨a, vs, rfl, s1, z1, w1⟩ := view_lst hH r1 e
    simp only [RV] at r2
    split at q
    · rename_i hk
      have hl := w1.length
      have hz : vs.length * k.toNat ≤ sizeLine := by rw [← hl, sizeLine_eq]; omega
      refine .inl ⟨a, k, vs, rfl, r2, s1, by omega, by omega, hz, fun p hp => ?_⟩
      have ex := Ext.new (o := .lst (List.replicate k.toNat vs).flatten) hH hp
      refine q _ _ μ ex (hH.new hp) ?_
      simp only [RV]
      refine ⟨p, _, rfl, ⟨hH.notin hp, fun z => hH.hid _ z hp⟩, upd_same, ?_, RVs.ext ex _ _ (rep_rv w1 _)⟩
      rw [List.length_flatten, List.map_replicate, List.sum_replicate_nat, Nat.mul_comm]; exact hz
    · exact q.elim
  · rename_i i j e
    have := view_int e; subst this
    exact .inr (g_ii (C := fun i j => ((-(2 ^ 64) < i ∧ i < 2 ^ 64) ∨ (-(2 ^ 64) < j ∧ j < 2 ^ 64))) (C' := CMul) (f := fun i j => .int (i * j)) (fun _ _ h => h) (fun _ _ _ _ => by simp [RV, ofD]) Ex H μ m _ _ x y Q hH r1 r2 q)
  · exact q.elim
theorem pd_rep {b : Expr} {fb : ME} (ha : PD X W a fa) (hb : PD X W b fb) : PD X W (.BinOp a .Mult b pos) (m2 gRep fa fb) := pd_op (op_rep.or op_mul) g_rep ha hb
/-- the sum of two lists, to change -/
def gCatC (d d' : D) (m : Me) : Res D := match view m d, view m d' with
  | .lst xs, .lst ys => if xs.length + ys.length ≤ 1000000 then .ok (.ref m.length) (m ++ [.lst (xs ++ ys)]) else .no
  | _, _ => .no
theorem g_catC {K : PySem.W.Frag} : G2 K rCat gCatC := fun Ex H μ m d d' x y Q hH r1 r2 q => by
  unfold gCatC at q
  split at q
  · rename_i xs ys e1 e2
    split at q
    · rename_i hz
      obtain ⟨a, vs, rfl, s1, z1, w1⟩ := view_lst hH r1 e1
      obtain ⟨b, us, rfl, s2, z2, w2⟩ := view_lst hH r2 e2
      have l1 := w1.length; have l2 := w2.length
      have hz' : vs.length + us.length ≤ sizeLine := by rw [sizeLine_eq]; omega
      refine ⟨a, b, vs, us, rfl, rfl, s1, s2, hz', fun p hp => ?_⟩
      have ex := Ext.cell (o := .lst (vs ++ us)) hH hp
      refine q _ _ (μ.add p) ex (hH.cell hp ⟨_, upd_same, by simpa using hz', RVs.ext ex _ _ (w1.append w2)⟩) ?_
      simp only [RV]
      exact ⟨p, rfl, by simp [Mu.add, ← hH.len]⟩
    · exact q.elim
  · exact q.elim
theorem pd_catC {b : Expr} {fb : ME} (ha : PD X W a fa) (hb : PD X W b fb) : PD X W (.BinOp a .Add b pos) (m2 gCatC fa fb) := pd_op op_cat g_catC ha hb

/-! ### what stands at the module's top -/
theorem pd_globS {x s : Str} {t : Tok} (hg : Gl X x) (hm : X.mg x = some (.str s t)) (hd : (x == ("__debug__" : Str)) = false := by decide) : PD X W (.Name x pos) (mC (.str s)) :=
  pd_const (pe_glob (v := .str s) hg hm ⟨t, rfl⟩ hd) fun _ _ => by simp [RV]
/-- a written tuple -/
structure KTup (K : PySem.W.Frag) (mg : Str → Option Value) (x : Str) (ds : List D) : Prop where
  ex : ∃ a vs, mg x = some (.ref a) ∧ TupN K (fun _ => none) a vs ∧ vs.length ≤ sizeLine ∧ ∀ H μ, RVs K H μ ds vs
theorem TupN.lift {K : PySem.W.Frag} {H : Hp} {a : Addr} {vs : List V} (h : TupN K (fun _ => none) a vs) : TupN K H a vs := by
  rcases h with ⟨_, z, _⟩ | h
  · cases z
  · exact .inr h
theorem pd_globT {x : Str} {ds : List D} (hg : Gl X x) (h : KTup X.K X.mg x ds) (hd : (x == ("__debug__" : Str)) = false := by decide) : PD X W (.Name x pos) (mC (.tup ds)) := by
  obtain ⟨a, vs, hm, hs, hz, hr⟩ := h.ex
  refine pd_const (pe_glob (v := .ref a) hg hm rfl hd) fun H μ => ?_
  simp only [RV]
  exact ⟨a, vs, rfl, TupN.lift hs, hz, hr H μ⟩
end

/-! ### {k: v, ..} to change -/
section
variable {X : Cx} {W : WX} {pos : Pos}
structure PDP (X : Cx) (W : WX) (pos : Pos) (keys : List (Option Expr)) (values : List Expr) (f : En → Me → Res (List (Key × D))) : Prop where
  ex : ∃ trs, PPs X pos keys values trs ∧ ∀ σ H (Q : List (V × V) → Hp → Prop), tR X.K W (fun H μ kvs ps => ∃ us, RVk X.K H μ kvs us ∧ ps = us.map fun kv => (kV kv.1, kv.2)) f σ H Q → tPairs trs σ H Q
def pNil : En → Me → Res (List (Key × D)) := fun _ m => .ok [] m
def pCons (fk fv : ME) (fr : En → Me → Res (List (Key × D))) : En → Me → Res (List (Key × D)) := fun ρ m => (fk ρ m).bind fun k m => match keyD k with
  | none => .no
  | some k => (fv ρ m).bind fun v m => (fr ρ m).bind fun r m => .ok ((k, v) :: r) m
theorem pdp_nil : PDP X W pos [] [] pNil := ⟨[], pps_nil, fun σ H Q ⟨μ, ρ, m, hH, hS, q⟩ => q [] H μ .refl hH ⟨[], by simp [RVk], rfl⟩⟩
theorem pdp_cons {k v : Expr} {ks : List (Option Expr)} {vs : List Expr} {fk fv : ME} {fr : En → Me → Res (List (Key × D))} (hk : PD X W k fk) (hv : PD X W v fv) (hr : PDP X W pos ks vs fr) : PDP X W pos (some k :: ks) (v :: vs) (pCons fk fv fr) := by
  obtain ⟨trs, h1, h2⟩ := hr.ex
  refine ⟨_, pps_cons hk hv h1, fun σ H Q ⟨μ, ρ, m, hH, hS, q⟩ => ?_⟩
  refine seqR q hH hS fun d m1 x H1 μ1 e1 hH1 r1 hS1 q1 => ?_
  cases ek : keyD d with
  | none => simp only [ek] at q1; exact q1.elim
  | some k' =>
    simp only [ek] at q1
    have hx := keyD_rv r1 ek
    subst hx
    refine seqR q1 hH1 hS1 fun d2 m2 y H2 μ2 e2 hH2 r2 hS2 q2 => ?_
    refine h2 σ H2 _ ?_
    refine seqR q2 hH2 hS2 fun kvs m3 ps H3 μ3 e3 hH3 r3 hS3 q3 => ?_
    obtain ⟨us, r3, rfl⟩ := r3
    refine q3 _ H3 μ3 .refl hH3 ⟨(k', y) :: us, ?_, rfl⟩
    simp only [RVk, RVp]
    exact ⟨y, us, rfl, RV.ext e3 d2 y r2, r3⟩
def mDisp (f : En → Me → Res (List (Key × D))) : ME := fun ρ m => (f ρ m).bind fun kvs m => if kvs.length ≤ 15 then .ok (.ref m.length) (m ++ [.dK (kvs.foldl (fun acc kv => setK acc kv.1 kv.2) [])]) else .no
theorem merge_rv {K : PySem.W.Frag} {H : Hp} {μ : Mu} : ∀ {kvs : List (Key × D)} {us : List (Key × V)} {acc : List (Key × D)} {ac : List (Key × V)}, RVq K H μ kvs us → RVq K H μ acc ac → RVq K H μ (kvs.foldl (fun acc kv => setK acc kv.1 kv.2) acc) (mergeK ac us)
  | _, _, acc, ac, .nil, h => h
  | _, _, acc, ac, .cons (a := p) (b := q) h t, g => by
    show RVq K H μ (List.foldl _ (setK acc p.1 p.2) _) (mergeK (putK ac q.1 q.2) _)
    refine merge_rv t ?_
    have := rvq_set (k := p.1) h.2 g
    rwa [show putK ac q.1 q.2 = putK ac p.1 q.2 by rw [h.1]]
theorem pd_disp {keys : List (Option Expr)} {values : List Expr} {f : En → Me → Res (List (Key × D))} (h : PDP X W pos keys values f) (hall : keys.all (·.isSome) = true := by rfl) (hl : keys.length = values.length := by rfl) (h0 : keys ≠ [] := by exact fun z => nomatch z) (h15 : keys.length ≤ 15 := by decide) :
    PD X W (.Dict keys values pos) (mDisp f) := by
  obtain ⟨trs, h1, h2⟩ := h.ex
  refine PE.imp (pe_disp h1 hall hl h0 h15) fun σ H Q ⟨μ, ρ, m, hH, hS, q⟩ p hp => ?_
  refine h2 σ _ _ ?_
  have tr := Tr.hide (o := .dK []) hH hp
  refine ⟨⟨μ.l, p :: μ.h⟩, ρ, m, hH.hide hp, hS.map tr, ?_⟩
  unfold mDisp at q
  cases e : f ρ m with
  | no => rw [e] at q; exact q.elim
  | exc x mm =>
    rw [e] at q
    intro H' μ' c d x' hH' r
    obtain ⟨l', h'⟩ := μ'
    have eh : h' = p :: μ.h := x'.hid
    subst eh
    have un : ∀ a, a ∈ μ.h → a ∈ p :: μ.h := fun a z => List.mem_cons_of_mem _ z
    refine q H' ⟨l', μ.h⟩ c d ((Ext.new hH hp).trans (x'.reh fun _ z => List.mem_cons_of_mem _ z)) (hH'.unhide un) ⟨r.1, ?_⟩
    have r2 := r.2
    cases d with
    | none => exact r2
    | some a => obtain ⟨fs, g1, g2⟩ := r2; exact ⟨fs, g1, L2.Paired.mapP g2 fun p q z => ⟨z.1, RV.map (.unhide un) _ _ z.2⟩⟩
  | ok kvs mm =>
    rw [e] at q
    simp only [Res.bind_ok] at q
    split at q
    · rename_i h15'
      intro ps H' μ' x' hH' r
      obtain ⟨l', h'⟩ := μ'
      have eh : h' = p :: μ.h := x'.hid
      subst eh
      obtain ⟨us, r, rfl⟩ := r
      obtain ⟨hp0, nl⟩ := x'.dct p [] (hH.notin hp) upd_same
      have hp' : H' p = some (.dK []) := hp0.resolve_right fun z => z.1 List.mem_cons_self
      have hq := rvk_iff.mp r
      refine ⟨hp', us, rfl, by rw [← rvq_len hq]; exact h15', ?_⟩
      have un : ∀ a, a ∈ μ.h → a ∈ p :: μ.h := fun a z => List.mem_cons_of_mem _ z
      -- the dict becomes a thing of the store
      have pos1 : ∀ {a u}, H a = some u → a ≠ p := fun q => ne_of_none q hp
      have xx : Ext X.K H μ H' ⟨l', μ.h⟩ := (Ext.new hH hp).trans (x'.reh fun _ z => List.mem_cons_of_mem _ z)
      have kp : ∀ {a u}, H' a = some u → a ≠ p → upd H' p (.dK (mergeK [] us)) a = some u := fun q n => by rw [upd_ne n]; exact q
      have trn : Tr X.K H' ⟨l', p :: μ.h⟩ (upd H' p (.dK (mergeK [] us))) ⟨l' ++ [p], μ.h⟩ := by
        refine ⟨fun i a z => ?_, fun a vs z => ?_, fun a u n d z => ?_, fun a o u n z => ?_, fun a kvs n z => ?_, fun a o u z => kp z (ne_of z hp' fun w => nomatch w)⟩
        · show (l' ++ [p])[i]? = some a
          rw [List.getElem?_append_left (List.getElem?_eq_some_iff.mp z).1]; exact z
        · rcases z with ⟨o', z, hd⟩ | z
          · exact .inl ⟨o', kp z (ne_of z hp' fun w => nomatch w), hd⟩
          · exact .inr z
        · have hn : a ≠ p := fun w => n.2 (by rw [w]; exact List.mem_cons_self)
          refine ⟨kp z hn, fun w => ?_, fun w => n.2 (un a w)⟩
          rcases List.mem_append.mp w with w | w
          · exact n.1 w
          · exact hn (List.mem_singleton.mp w)
        · have hn : a ≠ p := fun w => n.2 (by rw [w]; exact List.mem_cons_self)
          refine ⟨kp z hn, fun w => ?_, fun w => n.2 (un a w)⟩
          rcases List.mem_append.mp w with w | w
          · exact n.1 w
          · exact hn (List.mem_singleton.mp w)
        · have hn : a ≠ p := fun w => n.2 (by rw [w]; exact List.mem_cons_self)
          refine ⟨.inl (kp z hn), fun w => ?_, fun w => n.2 (un a w)⟩
          rcases List.mem_append.mp w with w | w
          · exact n.1 w
          · exact hn (List.mem_singleton.mp w)
      refine q _ _ ⟨l' ++ [p], μ.h⟩ ?_ ?_ ?_
      · refine ⟨?_, rfl, fun a vs z => trn.tup a vs (xx.tup a vs z), fun a u n d z => ?_, fun a o u n z => ?_, fun a kvs n z => ?_, fun a o u z => trn.fz a o u (xx.fz a o u z), fun a fs z => kp (xx.xd a fs z) (pos1 z)⟩
        · obtain ⟨l, el⟩ := xx.pre
          exact ⟨l ++ [p], by rw [show l' = μ.l ++ l from el]; simp⟩
        · obtain ⟨g1, g2⟩ := xx.dat a u n d z
          refine ⟨kp g1 (pos1 z), fun w => ?_⟩
          rcases List.mem_append.mp w with w | w
          · exact g2 w
          · exact pos1 z (List.mem_singleton.mp w)
        · obtain ⟨g1, g2⟩ := xx.frz a o u n z
          refine ⟨kp g1 (pos1 z), fun w => ?_⟩
          rcases List.mem_append.mp w with w | w
          · exact g2 w
          · exact pos1 z (List.mem_singleton.mp w)
        · obtain ⟨g1, g2⟩ := xx.dct a kvs n z
          refine ⟨?_, fun w => ?_⟩
          · unfold Dk
            rw [upd_ne (pos1 z)]; exact g1
          rcases List.mem_append.mp w with w | w
          · exact g2 w
          · exact pos1 z (List.mem_singleton.mp w)
      · refine ⟨by simp [hH'.len.symm], ?_, fun i c z => ?_, fun a z => upd_some (hH'.hid a (un a z)), fun a z w => ?_⟩
        · refine List.nodup_append.mpr ⟨hH'.nd, by simp, fun a ha b hb z => ?_⟩
          rw [List.mem_singleton.mp hb] at z
          subst z; exact nl ha
        · by_cases hi : i < mm.length
          · rw [List.getElem?_append_left hi] at z
            obtain ⟨a, ea, rc⟩ := hH'.at' i c z
            refine ⟨a, trn.get i a ea, rc.map trn (upd_ne fun w => nl ?_)⟩
            rw [← w]; exact List.mem_of_getElem? ea
          · have hi' : i = mm.length := by
              have := (List.getElem?_eq_some_iff.mp z).1
              simp at this; omega
            subst hi'
            simp at z; subst z
            have hll := hH'.len
            dsimp only at hll
            refine ⟨p, by rw [← hll]; simp, _, upd_same, rvk_iff.mpr ?_⟩
            exact merge_rv (L2.Paired.mapP hq fun p q z => ⟨z.1, RV.map trn _ _ z.2⟩) .nil
        · rcases List.mem_append.mp z with z | z
          · exact hH'.sep a z (un a w)
          · rw [List.mem_singleton.mp z] at w; exact hH.hid p w hp
      · simp only [RV]
        have hll := hH'.len
        dsimp only at hll
        exact ⟨p, rfl, by rw [← hll]; simp⟩
    · exact q.elim
end
end FL

set_option maxRecDepth 100000
namespace FL
open PySem PySem.Spec PyProof.Rows L2

/-! ### written tuples -/
def isV : D → Value → Bool
  | .non, .none => true
  | .bl b, .bool c => b == c
  | .int i, .int j _ => i == j
  | .str x, .str y _ => x == y
  | _, _ => false
def areV : List D → List Value → Bool
  | [], [] => true
  | d :: ds, v :: vs => isV d v && areV ds vs
  | _, _ => false
def toV : D → V
  | .bl b => .bl b
  | .int i => .int i
  | .str x => .str x
  | _ => .non
theorem isV_ok {d : D} {v : Value} (h : isV d v = true) : RelV (toV d) v ∧ ∀ K H μ, RV K H μ d (toV d) := by
  cases d <;> cases v <;> simp [isV] at h
  · exact ⟨rfl, fun _ _ _ => by simp [RV, toV]⟩
  · subst h; exact ⟨rfl, fun _ _ _ => by simp [RV, toV]⟩
  · subst h; exact ⟨⟨_, rfl⟩, fun _ _ _ => by simp [RV, toV]⟩
  · subst h; exact ⟨⟨_, rfl⟩, fun _ _ _ => by simp [RV, toV]⟩
theorem areV_ok : ∀ {ds : List D} {vs : List Value}, areV ds vs = true → Vals (ds.map toV) vs ∧ ∀ K H μ, RVs K H μ ds (ds.map toV)
  | [], [], _ => ⟨.nil, fun _ _ _ => by simp [RVs]⟩
  | [], _ :: _, h => by cases h
  | _ :: _, [], h => by cases h
  | d :: ds, v :: vs, h => by
    simp only [areV, Bool.and_eq_true] at h
    obtain ⟨h1, h2⟩ := isV_ok h.1
    obtain ⟨h3, h4⟩ := areV_ok h.2
    refine ⟨.cons h1 h3, fun K H μ => ?_⟩
    simp only [List.map_cons, RVs]
    exact ⟨_, _, rfl, h2 K H μ, h4 K H μ⟩
structure WrTup (o : Obj) (its : Array Value) (n : Nat) (ds : List D) : Prop where
  cls : o.cls = .type "tuple"
  data : o.data = .seq its n
  few : ds.length ≤ 1000
  are : areV ds its.toList = true
  nod : PlO o
theorem WrTup.mk' {K : PySem.W.Frag} {mg : Str → Option Value} {x : Str} {o : Obj} {its : Array Value} {n : Nat} {ds : List D} {a : Addr} (h : WrTup o its n ds) (hm : mg x = some (.ref a)) (hk : K.lookup a = some o) : KTup K mg x ds := by
  obtain ⟨h1, h2⟩ := areV_ok h.are
  have hl : (ds.map toV).length = its.toList.length := h1.length
  have hz : (ds.map toV).length ≤ sizeLine := by rw [List.length_map]; exact le_line h.few
  exact ⟨a, ds.map toV, hm, .inr ⟨o, its, n, hk, h.cls, h.data, by rw [← Array.length_toList, ← hl]; exact hz, h1, h.nod⟩, hz, fun H μ => h2 K H μ⟩

/-! ### the end -/
theorem walk_fn {l : PySem.W.OpenLaw} {q : Program} {loose : List Str} {XP : (Str → Option Value) → Heap → Prop} {YP : World → Heap → Prop} {d : DefRec} {K : Params → PySem.W.Frag} {x : Str} {F0 : List D → Me → Res D}
    (hn : l.most = some 63) (hdf : d.params.defaults = []) (hY : ∀ (w : World) (h : Heap), YP w h → (K w.params).In h)
    (F : ∀ (w : World) (mg : Str → Option Value) (fa : Addr) (h : Heap), (K w.params).In h → h.Ns mainGlobals mg → mg d.name = some (.ref fa) →
      ∃ fd : FuncData, (∀ (s : Shared) (u : Value), BindsTo s fd ⟨[u], []⟩ [(x, u)]) ∧ ∀ base : Heap, (K w.params).In base → base.Ns mainGlobals mg → FnOk l.prog w (K w.params) mg base CX0 230 fa fd [x] (spF (K w.params) 1 F0))
    (L : ∀ ns : List Int, ns.length ≤ 63 → ∃ m', F0 [.scr ns] [] = .ok (.bl true) m') :
    PySem.W.WalkO q loose XP YP l.row.toRowW d [] (fun f vs => PySem.call f vs) :=
  L2.walk_of (n := 63) (k := 230) (x := x) (CX := fun _ => CX0) (sp := fun w => spF (K w.params) 1 F0) hn (by decide) hdf ⟨rfl, by decide, by decide⟩ hY F (fun w H a ns hl _ hS => by
    obtain ⟨m', e⟩ := L ns hl
    refine ⟨⟨[], []⟩, [], [.scr ns], ⟨rfl, List.nodup_nil, fun i c h => by simp at h, fun a h => by simp at h, fun a h => by simp at h⟩, ?_, rfl, ?_⟩
    · simp only [RVs, RV]
      refine ⟨.ref a, [], rfl, ⟨a, rfl, ?_⟩, rfl⟩
      rcases hS with hS | hS
      · exact .inl ⟨⟨by simp, by simp⟩, hS⟩
      · exact .inr (.inr hS)
    · rw [e]
      intro v H' μ' _ _ r
      simpa [RV] using r) fun _ _ _ _ _ z => z
end FL

set_option maxRecDepth 100000
namespace FL
open PySem PySem.Spec PyProof.Rows L2

/-! ### dict(d): a copy, to change -/
def gDictC (ds : List D) (m : Me) : Res D := match ds with
  | [d] => match view m d with
    | .dct kvs => .ok (.ref m.length) (m ++ [.dK kvs])
    | _ => .no
  | _ => .no
theorem g_dictC {K : PySem.W.Frag} : GC K (fun xs H Q => ∃ (a : Addr) (kvs : List (Key × V)), xs = [.ref a] ∧ Rd H a (.dK kvs) ∧ ∀ p, H p = none → Q (.ref p) (upd H p (.dK kvs))) gDictC := fun Ex H μ m ds vs Q hH rr q => by
  unfold gDictC at q
  split at q
  · obtain ⟨v, rfl, r⟩ := rvs1 rr
    split at q
    · rename_i d kvs e
      obtain ⟨a, ps, rfl, hs, hr⟩ := view_dct hH r e
      refine ⟨a, ps, rfl, hs, fun p hp => ?_⟩
      have ex := Ext.cell (o := .dK ps) hH hp
      refine q _ _ (μ.add p) ex (hH.cell hp ⟨_, upd_same, RVk.ext ex _ _ hr⟩) ?_
      simp only [RV]
      exact ⟨p, rfl, by simp [Mu.add, ← hH.len]⟩
    · exact q.elim
  · exact q.elim

/-! ### d[k], e[l] = x, y -/
theorem pset_dict {X : Cx} (hu : X.A.units + 1 < cLine) : PSet X (fun o i v H Q => ∃ a H', o = .ref a ∧ DPut H a i v H' ∧ Q H') := fun pins s σ H o i v ov iv u Q I ro ri rv ⟨a, H', eo, g, q⟩ => by
  subst eo
  obtain rfl : ov = Value.ref a := ro
  exact d_setItem hu I g ri rv fun s4 I4 => ⟨H', I4, q⟩
def sPut2 (fo fi fo' fi' fv : ME) : MS := fun ρ m => bindS (fv ρ m) ρ fun d m => match d with
  | .tup [x, y] => bindS (fo ρ m) ρ fun d m => bindS (fi ρ m) ρ fun k m => match dput m d k x with
    | none => .no
    | some m => bindS (fo' ρ m) ρ fun d m => bindS (fi' ρ m) ρ fun k m => match dput m d k y with
      | none => .no
      | some m => .nx ρ m
  | _ => .no
section
variable {X : Cx} {W : WX} {o i o' i' value : Expr} {pos p1 p2 : Pos} {fo fi fo' fi' fv : ME} {k : Nat} {pt : Pos}
theorem pds_put2 (hc : X.calm = true) (hu : X.A.units + 1 < cLine) (ho : PD X W o fo) (hi : PD X W i fi) (ho' : PD X W o' fo') (hi' : PD X W i' fi') (hv : PD X W value fv)
    (a1 : ∀ v, assign (.Subscript o i p1) X.env v = (do
      let ov ← holding [v] (eval o X.env)
      let iv ← holding [v, ov] (eval i X.env)
      standAt p1
      holding [v, ov, iv] (setItem ov iv v)
      release [v, ov, iv] []) := by intro _; rfl)
    (a2 : ∀ v, assign (.Subscript o' i' p2) X.env v = (do
      let ov ← holding [v] (eval o' X.env)
      let iv ← holding [v, ov] (eval i' X.env)
      standAt p2
      holding [v, ov, iv] (setItem ov iv v)
      release [v, ov, iv] []) := by intro _; rfl)
    (hs : swapsWithSole [.Tuple [.Subscript o i p1, .Subscript o' i' p2] k pt] value pos.line X.env = pure false := by rfl)
    (hw : swappedStores [.Tuple [.Subscript o i p1, .Subscript o' i' p2] k pt] value X.env = pure none := by rfl)
    (hn : (assignEach [.Subscript o i p1, .Subscript o' i' p2] X.env).length = 2 := by rfl)
    (hst : (assignEach [.Subscript o i p1, .Subscript o' i' p2] X.env).findIdx? (·.1) = none := by rfl)
    (h1 : (assignEach [.Tuple [.Subscript o i p1, .Subscript o' i' p2] k pt] X.env).map (·.2) = [assign (.Tuple [.Subscript o i p1, .Subscript o' i' p2] k pt) X.env] := by rfl)
    (h2 : (assignEach [.Subscript o i p1, .Subscript o' i' p2] X.env).map (·.2) = assign (.Subscript o i p1) X.env :: (assignEach [.Subscript o' i' p2] X.env).map (·.2) := by rfl)
    (h3 : (assignEach [.Subscript o' i' p2] X.env).map (·.2) = assign (.Subscript o' i' p2) X.env :: (assignEach [] X.env).map (·.2) := by rfl) :
    PDS X W (.Assign [.Tuple [.Subscript o i p1, .Subscript o' i' p2] k pt] value pos) (sPut2 fo fi fo' fi' fv) :=
  PS.imp (ps_asg hv (pg_tup hc (pgs_cons (pg_sub ho hi (pset_dict hu) a1) (pgs_cons (pg_sub ho' hi' (pset_dict hu) a2) pgs_nil h3) h2) hn hst) hs hw h1) fun D σ H ⟨μ, ρ, m, hH, hS, q⟩ => seqS q hH hS fun d m1 v H1 μ1 e1 hH1 r1 hS1 q1 => by
    split at q1
    · rename_i x y
      simp only [RV] at r1
      obtain ⟨a, vs, rfl, hs1, hz, hr⟩ := r1
      simp only [RVs] at hr
      obtain ⟨v1, r', rfl, rx, v2, r'', rfl, ry, rfl⟩ := hr
      refine ⟨a, _, rfl, hs1.sq, rfl, v1, _, rfl, ?_⟩
      refine seqS q1 hH1 hS1 fun d2 m2 w H2 μ2 e2 hH2 r2 hS2 q2 => ?_
      refine seqS q2 hH2 hS2 fun k2 m3 u H3 μ3 e3 hH3 r3 hS3 q3 => ?_
      cases e4 : dput m3 d2 k2 x with
      | none => rw [e4] at q3; exact q3.elim
      | some m' =>
        rw [e4] at q3
        obtain ⟨b, H4, rfl, g1, x4, g2⟩ := dput_of hH3 (RV.ext e3 d2 w r2) r3 (RV.ext e3 x v1 (RV.ext e2 x v1 rx)) e4
        refine ⟨b, H4, rfl, g1, v2, _, rfl, ?_⟩
        have hS4 := hS3.ext x4
        refine seqS (OkS.ext q3 x4) g2 hS4 fun d5 m5 w5 H5 μ5 e5 hH5 r5 hS5 q5 => ?_
        refine seqS q5 hH5 hS5 fun k6 m6 u6 H6 μ6 e6 hH6 r6 hS6 q6 => ?_
        cases e7 : dput m6 d5 k6 y with
        | none => rw [e7] at q6; exact q6.elim
        | some m' =>
          rw [e7] at q6
          have ry' := RV.ext e6 y v2 (RV.ext e5 y v2 (RV.ext x4 y v2 (RV.ext e3 y v2 (RV.ext e2 y v2 ry))))
          obtain ⟨c, H7, rfl, g3, x7, g4⟩ := dput_of hH6 (RV.ext e6 d5 w5 r5) r6 ry' e7
          exact ⟨c, H7, rfl, g3, rfl, q6 σ H7 μ6 x7 g4 (hS6.ext x7)⟩
    · exact q1.elim
end
/-! ### a, b = x, y -/
def sPar (i j : Nat) (fa : MA) : MS := fun ρ m => bindS (fa ρ m) ρ fun ds m => match ds with
  | [x, y] => .nx ((ρ.set i (some x)).set j (some y)) m
  | _ => .no
theorem pds_par {X : Cx} {W : WX} {i j : Nat} {x y : Str} {a b : Expr} {fa : MA} {px py pt pos : Pos} {kt k2 pt2} (hc : X.calm = true) (hN : X.N.Nodup) (hi : X.N[i]? = some x) (hj : X.N[j]? = some y) (hij : i ≠ j)
    (hx : X.env.scope.names.lookup x = some .local) (hy : X.env.scope.names.lookup y = some .local) (ha : PDA X W 2 [a, b] fa)
    (hw : swappedStores [.Tuple [.Name x px, .Name y py] kt pt] (.Tuple [a, b] k2 pt2) X.env = pure (some [x, y]))
    (hs : swapsWithSole [.Tuple [.Name x px, .Name y py] kt pt] (.Tuple [a, b] k2 pt2) pos.line X.env = pure false := by rfl) :
    PDS X W (.Assign [.Tuple [.Name x px, .Name y py] kt pt] (.Tuple [a, b] k2 pt2) pos) (sPar i j fa) :=
  PS.imp (ps_par hc hN hi hj hij hx hy ha hw hs) fun D σ H ⟨μ, ρ, m, hH, hS, q⟩ => seqS q hH hS fun ds m1 vs H1 μ1 e1 hH1 r1 hS1 q1 => by
    split at q1
    · rename_i d d'
      have r1 := r1.1
      simp only [RVs] at r1
      obtain ⟨v1, r', rfl, rx, v2, r'', rfl, ry, rfl⟩ := r1
      exact ⟨v1, v2, rfl, q1 _ H1 μ1 .refl hH1 ((hS1.set rx i).set ry j)⟩
    · exact q1.elim
end FL

set_option maxRecDepth 100000
namespace FL
open PySem PySem.Spec PyProof.Rows L2

/-! ### set(xs), xs a list of ints: the road of a tuple's, over the list's iterator -/
abbrev nSet (w : World) : Obj := { cls := .type "set", dict := none, data := .set #[] 0 (.fresh 0 0 (!w.params.followText "set-order")) }
abbrev pSet (w : World) (s : Shared) : Heap := s.heap.push (nSet w)
section
variable {P : Program} {w : World} {A : Around} {E : Value → Shared → Prop} {s : Shared}
set_option maxHeartbeats 3200000 in
theorem set_of_ints {l : Addr} {its : Array Value} (ns : List Int) {Q : Value → Shared → Prop} (h0 : A.handled = none) (hl : s.heap.IsList l its) (hi : IntsAre its.toList ns) (hb : ns.length + 1 < scanBound)
    (h : ∀ (g : Heap) (tk c : Nat), SetR w g s.heap.objs.size (fun j => decide (j ∈ ns)) c → c ≤ ns.length → (∀ b o, s.heap.get? b = some o → g.get? b = some o) → Q (.ref s.heap.objs.size) { s with heap := g, toks := tk }) : wpAny (model P w) A (call (.type "set") [.ref l]) Q E s := by
  have hz : its.size = ns.length := by have q := IntsAre.length hi; rw [Array.length_toList] at q; exact q
  obtain ⟨c0, tl, hmro⟩ := F.called_set.mro
  have made := F.called_set.made
  have sub := F.called_set.sub
  refine wpAny_call (codeAny_of_tree ?_); show wpAny _ _ (callAny (.type "set") _) _ _ _
  refine wpAny_pure ⟨Code.quiet_builtin _ (by decide +kernel), codeAny_builtin F.entry_type_call ?_⟩; rw [Around.under_plain (weight_type_call_type "set" [.ref l] []) rfl]
  have t1 := F.called_set.notType
  have t2 := F.called_set.canCreate
  have t3 := F.typeCall_set_1 (.ref l)
  repeat (any_goals (first | assumption | wp_step))
  refine codeAny_mono (code_set_led1 (.ref l) (E := E) (Q₁ := fun x t => x = .ref s.heap.objs.size ∧ t = { s with heap := pSet w s }) ⟨rfl, rfl⟩) fun r t hr => ?_
  rcases r with e | f
  · exact hr
  · cases f <;> first | exact hr.elim | skip
    obtain ⟨rfl, rfl⟩ := hr
    have hS : (pSet w s).get? s.heap.objs.size = some (nSet w) := Heap.get?_push_size _ rfl
    have hT : Shared.TypeIs { s with heap := pSet w s } (.ref s.heap.objs.size) "set" := ⟨_, hS, rfl⟩
    have hli := F.called_set.init.lookup
    have hbi := F.called_set.init.bind (.ref s.heap.objs.size)
    repeat (any_goals (first | assumption | wp_step))
    refine codeAny_mono (codeAny_call_builtin (R := wants (fun r t => r = .none ∧ ∃ g tk c, t = { s with heap := g, toks := tk } ∧ SetR w g s.heap.objs.size (fun j => decide (j ∈ ns)) c ∧ c ≤ ns.length ∧ (∀ b o, s.heap.get? b = some o → g.get? b = some o)) E) F.called_set.init.plain F.entry_set_init (check_set_init_1 hT ?_)) fun r t hr => ?_
    · obtain ⟨⟨kc, kd, ka, ks⟩, ho, hc, nl, hd⟩ := hl
      simp only at hc hd
      subst hc; subst hd
      have ho' : (pSet w s).get? l = some { cls := .type "list", dict := kd, data := .seq its nl, slots := ks } := Heap.get?_push_of_some _ ho
      have u1 := F.sub_list_set
      have u2 := F.sub_list_frozenset
      have u3 : (Value.type "list" == Value.type "dict") = false := by decide
      have hl1 : (pSet w s).IsList l its := ⟨_, ho', rfl, nl, rfl⟩
      unfold Builtin.«set.__init__» noKeywords Builtin.Frozenset.updateFrom
      generalize hPI : pyIter = PI
      wp_walk
      subst hPI
      refine wpAny_pyIter_list hl1 (wpAny_bind (wpAny_runValue ?_))
      have lt : l < s.heap.objs.size := Heap.lt_size ho
      have h3 : A.in1.in1.in1.handled = none := by simp [h0]
      have ne1 : l ≠ (pSet w s).objs.size := by rw [Heap.size_push]; exact fun z => Nat.ne_of_lt (Nat.lt_succ_of_lt lt) z
      have ne2 : s.heap.objs.size ∉ [(pSet w s).objs.size, l] := by
        rw [Heap.size_push]; simp only [List.mem_cons, List.not_mem_nil, or_false, not_or]; exact ⟨Nat.ne_of_lt (Nat.lt_succ_self _), fun z => Nat.ne_of_lt lt z.symm⟩
      have hv : ∀ (i : Nat) (v : Value), its[i]? = some v → ∃ k t, ns[i]? = some k ∧ v = .int k t := fun i v e => by
        have lt : i < ns.length := by rw [← hz]; exact (Array.getElem?_eq_some_iff.mp e).1
        obtain ⟨t, e⟩ := PyProof.Rows.IntsAre.int_at hi i v (by rw [Array.getElem?_toList]; exact e)
        exact ⟨ns[i], t, List.getElem?_eq_getElem lt, by rw [e, List.getD_eq_getElem?_getD, List.getElem?_eq_getElem lt] <;> rfl⟩
      refine set_update_ints ((Walks.list h3 _ l ne1 its).toS) s.heap.objs.size ne2 ns hz hb hv (its.size - 0) 0 _ (by omega) (Nat.zero_le _) ⟨⟨_, Heap.get?_push_size _ rfl, rfl, rfl⟩, (hl1.push _)⟩ ⟨0, Nat.le_refl 0, setR_new_at (Heap.get?_push_of_some _ hS)⟩ fun t c hm hc hS' => ?_
      obtain ⟨g, g2, d', tk, os'⟩ := t
      obtain rfl : g2 = s.gens := hm.gens
      obtain rfl : d' = s.drawn := hm.drawn
      obtain rfl : os' = s.os := hm.os
      show wpAny _ _ _ _ _ _
      refine wpAny_pure ?_
      show wpAny _ _ (ret Value.none) _ _ _
      rw [hz] at hc
      refine wpAny_pure ⟨rfl, g, tk, c, rfl, hS', hc, fun b o e => ?_⟩
      have hb0 : b < s.heap.objs.size := Heap.lt_size e
      refine hm.heap b o ?_ (Heap.get?_push_of_some _ (Heap.get?_push_of_some _ e))
      rw [Heap.size_push]; simp only [List.mem_cons, List.not_mem_nil, or_false, not_or]; exact ⟨Nat.ne_of_lt hb0, fun z => Nat.ne_of_lt (Nat.lt_succ_of_lt hb0) z⟩
    · rcases r with e | f
      · exact hr
      · cases f <;> first | exact hr.elim | skip
        obtain ⟨rfl, g, tk, c, rfl, k1, k2, k3⟩ := hr
        repeat (any_goals (first | assumption | wp_step))
        exact h _ _ _ k1 k2 k3
end
/-- strictly rising lists with the same members are equal -/
theorem rise_eq : ∀ {a b : List Int}, a.Pairwise (· < ·) → b.Pairwise (· < ·) → (∀ k, k ∈ a ↔ k ∈ b) → a = b
  | [], [], _, _, _ => rfl
  | [], y :: b, _, _, h => absurd ((h y).mpr List.mem_cons_self) (by simp)
  | x :: a, [], _, _, h => absurd ((h x).mp List.mem_cons_self) (by simp)
  | x :: a, y :: b, ha, hb, h => by
    obtain ⟨h1, h2⟩ := List.pairwise_cons.mp ha
    obtain ⟨h3, h4⟩ := List.pairwise_cons.mp hb
    have e : x = y := by
      rcases List.mem_cons.mp ((h x).mp List.mem_cons_self) with e | e
      · exact e
      · rcases List.mem_cons.mp ((h y).mpr List.mem_cons_self) with e' | e'
        · exact e'.symm
        · have := h3 x e; have := h1 y e'; omega
    subst e
    congr 1
    refine rise_eq h2 h4 fun k => ⟨fun hk => ?_, fun hk => ?_⟩
    · rcases List.mem_cons.mp ((h k).mp (List.mem_cons_of_mem _ hk)) with e | e
      · have := h1 k hk; omega
      · exact e
    · rcases List.mem_cons.mp ((h k).mpr (List.mem_cons_of_mem _ hk)) with e | e
      · have := h3 k hk; omega
      · exact e
def insU (k : Int) : List Int → List Int
  | [] => [k]
  | x :: xs => if k < x then k :: x :: xs else if k = x then x :: xs else x :: insU k xs
def sortU (ns : List Int) : List Int := ns.foldr insU []
theorem insU_mem (k j : Int) : ∀ l : List Int, j ∈ insU k l ↔ j = k ∨ j ∈ l
  | [] => by simp [insU]
  | x :: xs => by
    unfold insU
    split
    · simp
    · split
      · rename_i e; subst e; simp
      · simp [insU_mem k j xs]; constructor <;> (intro h; rcases h with h | h | h <;> simp [h])
theorem insU_rise (k : Int) : ∀ l : List Int, l.Pairwise (· < ·) → (insU k l).Pairwise (· < ·)
  | [], _ => by simp [insU]
  | x :: xs, h => by
    obtain ⟨h1, h2⟩ := List.pairwise_cons.mp h
    unfold insU
    split
    · rename_i q
      refine List.pairwise_cons.mpr ⟨fun y hy => ?_, h⟩
      rcases List.mem_cons.mp hy with e | e
      · omega
      · have := h1 y e; omega
    · split
      · exact h
      · refine List.pairwise_cons.mpr ⟨fun y hy => ?_, insU_rise k xs h2⟩
        rcases (insU_mem k y xs).mp hy with e | e
        · omega
        · exact h1 y e
theorem sortU_rise : ∀ ns : List Int, (sortU ns).Pairwise (· < ·)
  | [] => List.Pairwise.nil
  | k :: ns => insU_rise k _ (sortU_rise ns)
theorem sortU_mem (j : Int) : ∀ ns : List Int, j ∈ sortU ns ↔ j ∈ ns
  | [] => by simp [sortU]
  | k :: ns => by
    have := sortU_mem j ns
    simp only [sortU, List.foldr_cons] at this ⊢
    rw [insU_mem, this]; simp
end FL

set_option maxRecDepth 100000
namespace FL
open PySem PySem.Spec PyProof.Rows L2

theorem setR_card {w : World} {h : Heap} {a : Addr} {c : Nat} {ns : List Int} (R : SetR w h a (fun j => decide (j ∈ ns)) c) : c = (sortU ns).length := by
  obtain ⟨o, es, ep, t, _, _, _, _, nd, hm, _, _, hs, _⟩ := R
  have nd2 : (sortU ns).Nodup := (sortU_rise ns).imp fun h => by omega
  have p : (es.toList.map keyOf).Perm (sortU ns) := (List.perm_ext_iff_of_nodup nd nd2).mpr fun k => by rw [← hm k, sortU_mem]; simp
  have := p.length_eq
  rw [List.length_map, Array.length_toList] at this
  omega
theorem rise_len : ∀ (l : List Int) (a b : Int), l.Pairwise (· < ·) → (∀ k ∈ l, a ≤ k ∧ k < b) → (l.length : Int) ≤ max 0 (b - a)
  | [], a, b, _, _ => by simp; omega
  | x :: l, a, b, h, hb => by
    obtain ⟨h1, h2⟩ := List.pairwise_cons.mp h
    have := hb x List.mem_cons_self
    have := rise_len l (x + 1) b h2 fun k hk => ⟨by have := h1 k hk; omega, (hb k (List.mem_cons_of_mem _ hk)).2⟩
    simp only [List.length_cons]; omega
section
variable {X : Cx}
def rSetI (w : World) : List V → Hp → VK → Prop := fun vs H Q => ∃ (a : Addr) (ns : List Int), vs = [V.ref a] ∧ H a = some (.lst (ns.map V.int)) ∧ ns.length + 1 < scanBound ∧ ∀ (n : Nat) (p : Addr), n = (sortU ns).length → H p = none → Q (.ref p) (upd H p (SetO w p (fun j => decide (j ∈ ns)) n))
theorem cr_setI (hc : X.calm = true) : CallR X (.type "set") (rSetI X.w) := by
  intro pins s σ H vs us Q I r h
  obtain ⟨a, ns, rfl, ha, hb, q⟩ := h
  rw [Vals.ref1 r]
  obtain ⟨z, its, n, rr, hl, e⟩ := I.lstM ha
  refine set_of_ints (its := its.toArray) ns (I.ok.hd hc) ⟨_, e, rfl, n, rfl⟩ (by simpa using ints_of_vals rr) hb fun g tk c R hc keep => ?_
  exact ⟨.ref s.heap.objs.size, upd H s.heap.objs.size (SetO X.w s.heap.objs.size (fun j => decide (j ∈ ns)) c), I.laid (t' := tk) (fun b u e => keep b u e) (Nat.le_refl _) (setO_new R), rfl, q c _ (setR_card R) (I.hok.fresh (Nat.le_refl _))⟩
end
/-! ### sorted(set(xs)), xs ints -/
def gSortSet (d : D) (m : Me) : Res D := match view m d with
  | .lst xs => match intsD xs with
    | some ns => if (sortU ns).length < 64 ∧ ns.length < 4095 then .ok (.lst ((sortU ns).map .int)) m else .no
    | none => .no
  | _ => .no
theorem ints_rv {K : PySem.W.Frag} {H : Hp} {μ : Mu} : ∀ (ks : List Int), RVs K H μ (ks.map D.int) (ks.map V.int)
  | [] => by simp [RVs]
  | k :: ks => by simp only [List.map_cons, RVs]; exact ⟨_, _, rfl, by simp [RV], ints_rv ks⟩
theorem pd_sortSet {X : Cx} {W : WX} {x y : Str} {e : Expr} {f : ME} {p1 p2 p3 pos : Pos} (hc : X.calm = true) (g1 : Gl X x) (n1 : X.mg x = none) (b1 : bootBuiltins x = some (.builtin "sorted")) (g2 : Gl X y) (n2 : X.mg y = none) (b2 : bootBuiltins y = some (.type "set")) (he : PD X W e f)
    (hx : x ≠ "__name__" := by decide) (dx : (x == ("__debug__" : Str)) = false := by decide) (hy : y ≠ "__name__" := by decide) (dy : (y == ("__debug__" : Str)) = false := by decide)
    (s1 : starEach [.Call (.Name y p2) [e] [] p3] X.env = (false, eval (.Call (.Name y p2) [e] [] p3) X.env) :: starEach [] X.env := by rfl) (s2 : starEach [e] X.env = (false, eval e X.env) :: starEach [] X.env := by rfl)
    (l1 : (backTo pos (starEach [] X.env)).any (·.1) = false := by rfl) (l2 : (backTo p3 (starEach [] X.env)).any (·.1) = false := by rfl) :
    PD X W (.Call (.Name x p1) [.Call (.Name y p2) [e] [] p3] [] pos) (m1 gSortSet f) :=
  PE.imp (pe_callB (cr_sortedSet hc) g1 n1 b1 (pa_cons (pe_callTy (cr_setI hc) g2 n2 b2 (pa_cons he pa_nil s2) hy dy s2 l2) pa_nil s1) hx dx s1 l1) fun σ H Q ⟨μ, ρ, m, hH, hS, q⟩ => by
    refine seqR q hH hS fun d m1 v H1 μ1 e1 hH1 r1 hS1 q1 => ?_
    unfold gSortSet at q1
    split at q1
    · rename_i xs ev
      split at q1
      · rename_i ns ei
        split at q1
        · rename_i h64
          obtain ⟨a, vs, rfl, ha, hz, w1⟩ := view_lst hH1 r1 ev
          have := intsD_rv w1 ei
          subst this
          refine ⟨a, ns, rfl, ha, by unfold scanBound; omega, fun n p hn hp => ?_⟩
          refine ⟨p, fun j => decide (j ∈ ns), n, rfl, upd_same, by omega, fun ks p' hr hm hl hp' => ?_⟩
          have ek : ks = sortU ns := rise_eq hr (sortU_rise ns) fun k => by rw [hm k, sortU_mem]; simp
          have x1 := Ext.new (o := SetO X.w p (fun j => decide (j ∈ ns)) n) hH1 hp
          have hN := hH1.new (o := SetO X.w p (fun j => decide (j ∈ ns)) n) hp
          have x2 := Ext.new (o := .lst (ks.map V.int)) hN hp'
          refine q1 _ _ μ1 (x1.trans x2) (hN.new hp') ?_
          simp only [RV]
          refine ⟨p', _, rfl, ⟨hN.notin hp', fun z => hN.hid _ z hp'⟩, upd_same, ?_, ?_⟩
          · rw [List.length_map, hl, sizeLine_eq]; omega
          · rw [ek]; exact ints_rv _
        · exact q1.elim
      · exact q1.elim
    · exact q1.elim
end FL

set_option maxRecDepth 100000
namespace FL
open PySem PySem.Spec PyProof.Rows L2

/-! ### index of a tuple, flat items -/
section
variable {X : Cx}
def rIndexT (K : PySem.W.Frag) : V → List V → Hp → VK → Prop := fun x xs H Q => ∃ (a : Addr) (ys : List V) (y : V) (j : Nat) (z : V), x = V.ref a ∧ xs = [y] ∧ SqT K H a ys ∧ flatV y = true ∧ ys.all flatV = true ∧ ys[j]? = some z ∧ eqV z y = true ∧
  (∀ (m : Nat) (z' : V), m < j → ys[m]? = some z' → eqV z' y = false) ∧ Q (.int (j : Nat)) H
theorem mt_indexT : MtR X "tuple.index" (rIndexT X.K) := by
  intro pins s σ H x xs v us Q I rx rxs h
  obtain ⟨a, ys, y, j, z, rfl, rfl, hs, fy, fys, hz, hzj, hno, q⟩ := h
  cases rx
  cases rxs with
  | cons ry rt =>
    rename_i uy ut
    cases rt
    obtain ⟨its, rv, pl, hlen⟩ := I.tuple hs
    obtain ⟨⟨cls, dd, data, sl⟩, ho, hc, n, hd⟩ := pl
    simp only at hc hd
    subst hc hd
    obtain ⟨u, hu, ru⟩ := rv.get hz
    obtain ⟨hjl, hje⟩ := List.getElem?_eq_some_iff.mp hu
    have hvl := rv.length
    have hj : j < its.toArray.size := by simpa using hjl
    refine call_meets PySem.F.slot_tuple_index ⟨_, ho, rfl⟩ PySem.F.entry_tuple_index (PySem.F.args_tuple_index_2 _ _)
      (TI.tuple_indexAt a its.toArray n dd sl uy (eqU y) j hj ?_ ?_) ⟨ho, fun u' hu' => mem_eqAt ry fy rv fys u' (by simpa using hu'), ?_⟩
    · have e1 : its.toArray[j] = u := by simpa using hje
      rw [e1, eqU_of ru (flat_at fys hz)]
      exact hzj
    · intro m hm hmj
      have hml : m < its.length := by simpa using hm
      have hmy : m < ys.length := by omega
      have hy' : ys[m]? = some ys[m] := List.getElem?_eq_getElem hmy
      obtain ⟨u2, hu2, ru2⟩ := rv.get hy'
      obtain ⟨_, hme⟩ := List.getElem?_eq_some_iff.mp hu2
      have e1 : its.toArray[m] = u2 := by simpa using hme
      rw [e1, eqU_of ru2 (flat_at fys hy')]
      exact hno m _ hmj hy'
    · exact ⟨.int (j : Nat), H, I.tok _, ⟨_, rfl⟩, q⟩
variable {o e : Expr} {es : List Expr} {to : TE} {t : TA} {apos cpos : Pos}
/-- x.index(y), x a list or a tuple -/
def tIdx (K : PySem.W.Frag) (to : TE) (t : TA) : TE := fun σ H Q => to σ H fun x H1 => (tyV K "list" x H1 ∧ t σ H1 fun xs H2 => rIndex K x xs H2 Q) ∨ ((∃ a ys, x = .ref a ∧ TupN K H1 a ys) ∧ t σ H1 fun xs H2 => rIndexT K x xs H2 Q)
theorem tupN_ty {pins : List (Addr × Obj)} {σ : L2.St} {H : Hp} {s : Shared} {a : Addr} {ys : List V} (I : Inv X pins σ H s) (h : TupN X.K H a ys) : s.TypeIs (.ref a) "tuple" ∧ ∃ ob, s.heap.get? a = some ob ∧ ob.dict = none := by
  rcases h with ⟨o, h, hd⟩ | ⟨o, its, n, hk, hc, _, _, _, hd⟩
  · obtain ⟨e, _, its, _, ob, e2, hc, _⟩ := I.hok a _ h
    rw [e] at e2; cases e2
    exact ⟨⟨o, e, hc⟩, o, e, hd.1⟩
  · exact ⟨⟨o, I.kIn _ o hk, hc⟩, o, I.kIn _ o hk, hd.1⟩
theorem pe_idx (ho : PE X o to) (ha : PA X (e :: es) t)
    (hbase : attributeBase o "index" X.env (eval o X.env) = eval o X.env := by rfl)
    (hfew : ((backTo cpos (starEach (e :: es) X.env)).all (fun x => !x.1) && (backToKw cpos (keywordEach [] X.env)).all (fun x => x.1.isSome)
      && decide ((e :: es).length + ([] : List Keyword).length + (if ([] : List Keyword).isEmpty then 0 else 1) < 30)) = true := by rfl)
    (hline : (apos.endLine == cpos.line) = true := by rfl) (hs : starEach (e :: es) X.env = (false, eval e X.env) :: starEach es X.env := by rfl) (hplain : (backTo cpos (starEach es X.env)).any (·.1) = false := by rfl) :
    PE X (.Call (.Attribute o "index" apos) (e :: es) [] cpos) (tIdx X.K to t) := by
  refine ⟨fun pins s σ H Q I h => ?_⟩
  refine wpAny_Call_method_late hbase hfew hline rfl (thn (ho.run pins s σ H _ I h) fun v s1 ⟨x, H1, I1, r1, q1⟩ => ?_)
  rcases q1 with ⟨ty, q1⟩ | ⟨⟨a, ys, rfl, ty⟩, q1⟩
  · obtain ⟨h1, h2⟩ := tyV_is I1 r1 ty
    refine ⟨"list", "list.index", PySem.F.plainAttrs_list, PySem.F.slot_list_index, PySem.F.type_list_index, h1, h2, ?_⟩
    have hA := ha.run cpos pins s1 σ H1 _ I1 q1
    rw [hs] at hA ⊢
    refine Calls.callWith_builtin (by show (false || (backTo cpos (starEach es X.env)).any (·.1)) = false; rw [hplain] <;> rfl) (Calls.evalArgs_plain ?_)
    exact thn hA fun us s2 ⟨vs, H2, I2, r2, q2⟩ => mt_index pins s2 σ H2 x vs v us Q I2 r1 r2 q2
  · cases r1
    obtain ⟨h1, h2⟩ := tupN_ty I1 ty
    refine ⟨"tuple", "tuple.index", PySem.F.plainAttrs_tuple, PySem.F.slot_tuple_index, PySem.F.type_tuple_index, h1, fun b e => by cases e; exact h2, ?_⟩
    have hA := ha.run cpos pins s1 σ H1 _ I1 q1
    rw [hs] at hA ⊢
    refine Calls.callWith_builtin (by show (false || (backTo cpos (starEach es X.env)).any (·.1)) = false; rw [hplain] <;> rfl) (Calls.evalArgs_plain ?_)
    exact thn hA fun us s2 ⟨vs, H2, I2, r2, q2⟩ => mt_indexT pins s2 σ H2 (V.ref a) vs (.ref a) us Q I2 (by rfl) r2 q2
end
/-- the first place of an equal flat item -/
def idxD (y : D) : List D → Option Nat
  | [] => none
  | x :: xs => if eqF x y = true then some 0 else (idxD y xs).map (· + 1)
theorem idx_rv {K : PySem.W.Frag} {H : Hp} {μ : Mu} {y : D} {u : V} (ry : RV K H μ y u) (fy : flatD y = true) : ∀ {ds : List D} {vs : List V} {j : Nat}, RVs K H μ ds vs → ds.all flatD = true → idxD y ds = some j →
    ∃ z, vs[j]? = some z ∧ eqV z u = true ∧ ∀ (m : Nat) (z' : V), m < j → vs[m]? = some z' → eqV z' u = false
  | [], _, _, _, _, e => by cases e
  | d :: ds, vs, j, r, f, e => by
    simp only [RVs] at r
    obtain ⟨v, w, rfl, r1, r2⟩ := r
    simp only [List.all_cons, Bool.and_eq_true] at f
    have q := eqF_eq r1 ry f.1 fy
    simp only [idxD] at e
    split at e
    · rename_i h
      cases e
      exact ⟨v, rfl, by rw [← q]; exact h, fun m z hm => by omega⟩
    · rename_i h
      obtain ⟨k, hk, rfl⟩ := Option.map_eq_some_iff.mp e
      obtain ⟨z, h1, h2, h3⟩ := idx_rv ry fy r2 f.2 hk
      refine ⟨z, h1, h2, fun m z' hm hz => ?_⟩
      cases m with
      | zero =>
        cases hz
        rw [← q]; simpa using h
      | succ m => exact h3 m z' (by omega) hz
/-- what may be indexed: a list, a tuple -/
def isSeq (m : Me) (d : D) : Bool := (seqV m d).isSome
def gIndex (d y : D) (m : Me) : Res D := match seqV m d with
  | some xs => if flatD y = true ∧ xs.all flatD = true then match idxD y xs with
    | some j => .ok (.int (j : Int)) m
    | none => .no
    else .no
  | none => .no
def mIndex (fo fe : ME) : ME := fun ρ m => (fo ρ m).bind fun d m => if isSeq m d = true then (fe ρ m).bind fun y m => gIndex d y m else .no
theorem seqV_ty {K : PySem.W.Frag} {H : Hp} {μ : Mu} {m : Me} {d : D} {v : V} {xs : List D} (hH : RH K H μ m) (r : RV K H μ d v) (e : seqV m d = some xs) : ∃ a vs, v = .ref a ∧ RVs K H μ xs vs ∧ ((view m d = .lst xs ∧ SqL K H a vs) ∨ (d = .tup xs ∧ TupN K H a vs)) := by
  unfold seqV at e
  split at e
  · rename_i ys e1
    cases e
    have := view_tup e1; subst this
    obtain ⟨a, vs, rfl, h1, _, h3⟩ := rv_tup r
    exact ⟨a, vs, rfl, h3, .inr ⟨rfl, h1⟩⟩
  · rename_i ys e1
    cases e
    obtain ⟨a, vs, rfl, h1, _, h3⟩ := view_lst hH r e1
    exact ⟨a, vs, rfl, h3, .inl ⟨e1, .of h1⟩⟩
  · cases e
theorem pd_index {X : Cx} {W : WX} {o e : Expr} {apos cpos : Pos} {fo fe : ME} (ho : PD X W o fo) (he : PD X W e fe) (hbase : attributeBase o "index" X.env (eval o X.env) = eval o X.env := by rfl)
    (hfew : ((backTo cpos (starEach [e] X.env)).all (fun x => !x.1) && (backToKw cpos (keywordEach [] X.env)).all (fun x => x.1.isSome)
      && decide (([e] : List Expr).length + ([] : List Keyword).length + (if ([] : List Keyword).isEmpty then 0 else 1) < 30)) = true := by rfl)
    (hline : (apos.endLine == cpos.line) = true := by rfl) (hs : starEach [e] X.env = (false, eval e X.env) :: starEach [] X.env := by rfl) (hplain : (backTo cpos (starEach [] X.env)).any (·.1) = false := by rfl) :
    PD X W (.Call (.Attribute o "index" apos) [e] [] cpos) (mIndex fo fe) :=
  PE.imp (pe_idx ho (pa_cons he pa_nil hs) hbase hfew hline hs hplain) fun σ H Q ⟨μ, ρ, m, hH, hS, q⟩ => by
    refine seqR q hH hS fun d m1 v H1 μ1 e1 hH1 r1 hS1 q1 => ?_
    split at q1
    case isFalse => exact q1.elim
    rename_i hseq
    obtain ⟨xs, ex⟩ := Option.isSome_iff_exists.mp hseq
    obtain ⟨a, vs, rfl, _, hk⟩ := seqV_ty hH1 r1 ex
    have fin : ∀ (y : D) (m2 : Me) (z : V) (H2 : Hp) (μ2 : Mu), Ext X.K H1 μ1 H2 μ2 → RH X.K H2 μ2 m2 → RV X.K H2 μ2 y z → RS X.K H2 μ2 ρ σ → Ok X.K (fun c d H' => W c d σ H') H2 μ2 (RVv X.K) Q (gIndex d y m2) →
        ∃ (vs : List V) (j : Nat) (w : V), ((∃ ys, view m2 d = .lst ys ∧ SqL X.K H2 a vs) ∨ ((∃ ys, d = .tup ys) ∧ SqT X.K H2 a vs)) ∧ flatV z = true ∧ vs.all flatV = true ∧ vs[j]? = some w ∧ eqV w z = true ∧ (∀ (m : Nat) (z' : V), m < j → vs[m]? = some z' → eqV z' z = false) ∧ Q (.int (j : Nat)) H2 := by
      intro y m2 z H2 μ2 x2 hH2 r2 hS2 q2
      unfold gIndex at q2
      split at q2
      case h_2 => exact q2.elim
      rename_i ys ey
      obtain ⟨b, ws, eb, hr, hk2⟩ := seqV_ty hH2 (RV.ext x2 d _ r1) ey
      cases eb
      split at q2
      case isFalse => exact q2.elim
      rename_i hf
      split at q2
      case h_2 => exact q2.elim
      rename_i j ej
      obtain ⟨w, w1, w2, w3⟩ := idx_rv r2 hf.1 hr hf.2 ej
      obtain ⟨f2, _⟩ := inD_eq r2 hf.1 hr hf.2
      refine ⟨ws, j, w, ?_, by rw [← flat_eq r2]; exact hf.1, f2, w1, w2, w3, q2 _ H2 μ2 .refl hH2 (by simp [RV])⟩
      rcases hk2 with ⟨g1, g2⟩ | ⟨g1, g2⟩
      · exact .inl ⟨ys, g1, g2⟩
      · exact .inr ⟨⟨ys, g1⟩, g2.sq⟩
    rcases hk with ⟨g1, g2⟩ | ⟨g1, g2⟩
    · refine .inl ⟨.inl ⟨rfl, _, g2⟩, ?_⟩
      refine seqR q1 hH1 hS1 fun y m2 z H2 μ2 x2 hH2 r2 hS2 q2 => ?_
      obtain ⟨ws, j, w, hk2, h1, h2, h3, h4, h5, h6⟩ := fin y m2 z H2 μ2 x2 hH2 r2 hS2 q2
      rcases hk2 with ⟨_, _, hk2⟩ | ⟨⟨ys, e2⟩, hk2⟩
      · exact ⟨a, ws, z, j, w, rfl, rfl, hk2, h1, h2, h3, h4, h5, h6⟩
      · rw [e2] at g1; cases g1
    · refine .inr ⟨⟨a, _, rfl, g2⟩, ?_⟩
      refine seqR q1 hH1 hS1 fun y m2 z H2 μ2 x2 hH2 r2 hS2 q2 => ?_
      obtain ⟨ws, j, w, hk2, h1, h2, h3, h4, h5, h6⟩ := fin y m2 z H2 μ2 x2 hH2 r2 hS2 q2
      rcases hk2 with ⟨ys, e2, hk2⟩ | ⟨_, hk2⟩
      · rw [g1] at e2; cases e2
      · exact ⟨a, ws, z, j, w, rfl, rfl, hk2, h1, h2, h3, h4, h5, h6⟩
end FL

set_option maxRecDepth 100000
namespace FL
open PySem PySem.Spec PyProof.Rows L2

/-! ### tuple(range(..)), list(range(..)) -/
section
variable {X : Cx} {W : WX} {e a b : Expr} {te : L2.St → Hp → (Int → Int → Hp → Prop) → Prop} {p p2 pos : Pos}
def tTupRgN (te : L2.St → Hp → (Int → Int → Hp → Prop) → Prop) : TE := fun σ H Q => te σ H fun a b H1 => RgOk a b ∧ ∀ q (o : Obj), PlO o → H1 q = none → Q (.ref q) (upd H1 q (.frz o (.tup (rgV a b))))
theorem pe_tupRgN (hc : X.calm = true) (hg : Gl X "tuple") (hm : X.mg "tuple" = none) (he : PRg X e te) (na : starEach [e] X.env = (false, eval e X.env) :: starEach [] X.env := by rfl) : PE X (.Call (.Name "tuple" p) [e] [] pos) (tTupRgN te) := by
  refine ⟨fun pins s σ H Q I h => ?_⟩
  refine Call_ (ld_blt I hg hm boot_tuple (PyProof.Rows.callWith_type1 (args_cons (thn (he pins s σ H _ I h) fun x s1 ⟨r, a, b, t, u, v, H1, ex, hr, I1, ok, q⟩ => args_nil ?_) na) na))
  subst ex
  obtain ⟨b1, b2, b3, b4, b5⟩ := ok
  refine call_tuple_range (n := (b - a).toNat) (I1.ok.hd hc) hr (small_one b1 b2 b3 b4) (rangeSize_nat a b) b5 fun h' tk acc hk hi => ?_
  have I2 : Inv X pins σ H1 { s1 with heap := h', toks := tk } := I1.kept hk
  refine ⟨.ref h'.objs.size, upd H1 h'.objs.size (.frz { cls := .type "tuple", data := .seq acc } (.tup (rgV a b))), I2.laid (t' := tk) (fun c o e => Heap.get?_push_of_some _ e) (Nat.le_refl _) (show ObjOk X.prog X.w _ _ _ (.frz _ (.tup (rgV a b))) from ⟨Heap.get?_push_size _ rfl, ?_, acc.toList, vals_rg hi, ?_⟩), rfl, q _ _ ⟨rfl, rfl⟩ (I2.hok.fresh (Nat.le_refl _))⟩
  · rw [rgV_length, sizeLine_eq]; omega
  · rw [Array.toArray_toList]; exact PyProof.Rows.IsTup.new _ _
/-- an expression that makes a range -/
abbrev PDRg (X : Cx) (W : WX) (e : Expr) (f : En → Me → Res (Int × Int)) : Prop := ∃ te, PRg X e te ∧ ∀ σ H (Q : Int → Int → Hp → Prop), tR X.K W (fun _ _ a b => a = b) f σ H (fun p H => Q p.1 p.2 H) → te σ H Q
def mRg1 (fa : ME) : En → Me → Res (Int × Int) := fun ρ m => (fa ρ m).bind fun d m => match d with
  | .int j => .ok (0, j) m
  | _ => .no
def mRg2 (fa fb : ME) : En → Me → Res (Int × Int) := fun ρ m => (fa ρ m).bind fun d m => (fb ρ m).bind fun d' m => match d, d' with
  | .int i, .int j => .ok (i, j) m
  | _, _ => .no
theorem pdrg_1 {fa : ME} (hg : Gl X "range") (hm : X.mg "range" = none) (ha : PD X W a fa) (na : starEach [a] X.env = (false, eval a X.env) :: starEach [] X.env := by rfl) : PDRg X W (.Call (.Name "range" p) [a] [] pos) (mRg1 fa) :=
  ⟨_, prg_1 hg hm ha na, fun σ H Q ⟨μ, ρ, m, hH, hS, q⟩ => by
    refine seqR q hH hS fun d m1 v H1 μ1 e1 hH1 r1 hS1 q1 => ?_
    cases d with
    | int j => simp only [RVv, RV] at r1; exact ⟨j, r1, q1 (0, j) H1 μ1 .refl hH1 rfl⟩
    | _ => exact q1.elim⟩
theorem pdrg_2 {fa fb : ME} (hg : Gl X "range") (hm : X.mg "range" = none) (ha : PD X W a fa) (hb : PD X W b fb) (na : starEach [a, b] X.env = (false, eval a X.env) :: starEach [b] X.env := by rfl)
    (nb : starEach [b] X.env = (false, eval b X.env) :: starEach [] X.env := by rfl) (hp : (backTo pos (starEach [b] X.env)).any (·.1) = false := by rfl) : PDRg X W (.Call (.Name "range" p) [a, b] [] pos) (mRg2 fa fb) :=
  ⟨_, prg_2 hg hm ha hb na nb hp, fun σ H Q ⟨μ, ρ, m, hH, hS, q⟩ => by
    refine seqR q hH hS fun d m1 v H1 μ1 e1 hH1 r1 hS1 q1 => ?_
    refine seqR q1 hH1 hS1 fun d' m2 v' H2 μ2 e2 hH2 r2 hS2 q2 => ?_
    cases d with
    | int i =>
      cases d' with
      | int j => simp only [RVv, RV] at r1 r2; exact ⟨i, j, r1, r2, q2 (i, j) H2 μ2 .refl hH2 rfl⟩
      | _ => exact q2.elim
    | _ => exact q2.elim⟩
theorem rg_rv {K : PySem.W.Frag} {H : Hp} {μ : Mu} (a b : Int) : RVs K H μ (rngL a (b - a).toNat) (rgV a b) := by
  unfold rngL rgV
  generalize List.range (b - a).toNat = l
  induction l with
  | nil => simp [RVs]
  | cons k l ih => simp only [List.map_cons, RVs]; exact ⟨_, _, rfl, by simp [RV], ih⟩
def mTupRg (g : En → Me → Res (Int × Int)) : ME := fun ρ m => (g ρ m).bind fun p m => if (p.1 ≤ 1000000 ∧ -1000000 ≤ p.1) ∧ p.2 ≤ 1000000 ∧ -1000000 ≤ p.2 then .ok (.tup (rngL p.1 (p.2 - p.1).toNat)) m else .no
def mLstRg (g : En → Me → Res (Int × Int)) : ME := fun ρ m => (g ρ m).bind fun p m => if (p.1 ≤ 1000000 ∧ -1000000 ≤ p.1) ∧ p.2 ≤ 1000000 ∧ -1000000 ≤ p.2 then .ok (.lst (rngL p.1 (p.2 - p.1).toNat)) m else .no
theorem rg_ok {a b : Int} (h : (a ≤ 1000000 ∧ -1000000 ≤ a) ∧ b ≤ 1000000 ∧ -1000000 ≤ b) : RgOk a b := ⟨by omega, by omega, by omega, by omega, by omega⟩
theorem rgV_line {a b : Int} (h : (a ≤ 1000000 ∧ -1000000 ≤ a) ∧ b ≤ 1000000 ∧ -1000000 ≤ b) : (rgV a b).length ≤ sizeLine := by rw [rgV_length, sizeLine_eq]; omega
theorem pd_tupRg {g : En → Me → Res (Int × Int)} (hc : X.calm = true) (hg : Gl X "tuple") (hm : X.mg "tuple" = none) (h : PDRg X W e g) (na : starEach [e] X.env = (false, eval e X.env) :: starEach [] X.env := by rfl) :
    PD X W (.Call (.Name "tuple" p2) [e] [] pos) (mTupRg g) := by
  obtain ⟨te, h1, h2⟩ := h
  refine PE.imp (pe_tupRgN hc hg hm h1 na) fun σ H Q ⟨μ, ρ, m, hH, hS, q⟩ => h2 σ H _ ?_
  refine seqR q hH hS fun pr m1 pr' H1 μ1 e1 hH1 r1 hS1 q1 => ?_
  subst r1
  split at q1
  case isFalse => exact q1.elim
  rename_i hb
  refine ⟨rg_ok hb, fun p o hd hp => ?_⟩
  have ex := Ext.new (o := .frz o (.tup (rgV pr.1 pr.2))) hH1 hp
  refine q1 _ _ μ1 ex (hH1.new hp) ?_
  simp only [RV]
  exact ⟨p, _, rfl, .inl ⟨o, upd_same, hd⟩, rgV_line hb, rg_rv _ _⟩
theorem pd_lstRg {g : En → Me → Res (Int × Int)} (hc : X.calm = true) (hg : Gl X "list") (hm : X.mg "list" = none) (h : PDRg X W e g) (na : starEach [e] X.env = (false, eval e X.env) :: starEach [] X.env := by rfl) :
    PD X W (.Call (.Name "list" p2) [e] [] pos) (mLstRg g) := by
  obtain ⟨te, h1, h2⟩ := h
  refine PE.imp (pe_listRg hc hg hm h1 na) fun σ H Q ⟨μ, ρ, m, hH, hS, q⟩ => h2 σ H _ ?_
  refine seqR q hH hS fun pr m1 pr' H1 μ1 e1 hH1 r1 hS1 q1 => ?_
  subst r1
  split at q1
  case isFalse => exact q1.elim
  rename_i hb
  refine ⟨rg_ok hb, fun p hp => ?_⟩
  have ex := Ext.new (o := .lst (rgV pr.1 pr.2)) hH1 hp
  refine q1 _ _ μ1 ex (hH1.new hp) ?_
  simp only [RV]
  exact ⟨p, _, rfl, ⟨hH1.notin hp, fun z => hH1.hid _ z hp⟩, upd_same, rgV_line hb, rg_rv _ _⟩
end
end FL

set_option maxRecDepth 100000
namespace FL
open PySem PySem.Spec PyProof.Rows L2

/-! ### instances -/
def putA (f : Str) (d : D) : List (Str × D) → List (Str × D)
  | [] => [(f, d)]
  | (g, x) :: r => if g = f then (g, d) :: r else (g, x) :: putA f d r
abbrev FsV (K : PySem.W.Frag) (H : Hp) (μ : Mu) : List (Str × D) → List (Str × V) → Prop := Paired (fun (p : Str × D) (q : Str × V) => p.1 = q.1 ∧ RV K H μ p.2 q.2)
section
variable {K : PySem.W.Frag} {H : Hp} {μ : Mu} {m : Me}
theorem putA_rv {f : Str} {d : D} {v : V} (r : RV K H μ d v) : ∀ {fs : List (Str × D)} {gs : List (Str × V)}, FsV K H μ fs gs → FsV K H μ (putA f d fs) (putF f v gs)
  | [], _, .nil => .cons ⟨rfl, r⟩ .nil
  | (g, x) :: fs, (g', y) :: gs, .cons h t => by
    obtain ⟨e, h2⟩ := h
    dsimp only at e h2
    subst e
    by_cases q : g = f
    · simp only [putA, putF, if_pos q]; exact .cons ⟨rfl, r⟩ t
    · simp only [putA, putF, if_neg q]; exact .cons ⟨rfl, h2⟩ (putA_rv r t)
theorem lookA {f : Str} : ∀ {fs : List (Str × D)} {gs : List (Str × V)}, FsV K H μ fs gs → match fs.lookup f with
    | some d => ∃ v, gs.lookup f = some v ∧ RV K H μ d v
    | none => gs.lookup f = none
  | [], _, .nil => rfl
  | (g, x) :: fs, (g', y) :: gs, .cons h t => by
    obtain ⟨e, h2⟩ := h
    dsimp only at e h2
    subst e
    by_cases q : (f == g) = true
    · simp only [List.lookup, q]; exact ⟨y, rfl, h2⟩
    · simp only [Bool.not_eq_true] at q
      simp only [List.lookup, q]; exact lookA t
theorem ins_of (hH : RH K H μ m) {i : Nat} {v : V} (r : RV K H μ (.ref i) v) {C : Addr} {fs : List (Str × D)} (e : m[i]? = some (.ins C fs)) : ∃ a dx gs, v = .ref a ∧ μ.l[i]? = some a ∧ H a = some (.ins C dx gs) ∧ FsV K H μ fs gs := by
  simp only [RV] at r
  obtain ⟨a, rfl, ha⟩ := r
  obtain ⟨a', e', dx, gs, h1, h2⟩ := hH.at' i _ e
  rw [ha] at e'; cases e'
  exact ⟨a, dx, gs, rfl, ha, h1, h2⟩
end
section
variable {X : Cx} {W : WX} {o e value : Expr} {pos pos' apos tpos p : Pos} {fo fe fv : ME} {x y : Str} {C : Addr} {es : List Expr}
/-- o.x -/
def mFld (C : Addr) (x : Str) (fo : ME) : ME := fun ρ m => (fo ρ m).bind fun d m => match d with
  | .ref i => match m[i]? with
    | some (.ins C' fs) => if C' = C then match fs.lookup x with
      | some d => .ok d m
      | none => .no
      else .no
    | _ => .no
  | _ => .no
theorem pd_fld (c : Cls X.K C) (nA : NoAttr X.K C x) (ho : PD X W o fo) (hb : attributeBase o x X.env (eval o X.env) = eval o X.env := by rfl) : PD X W (.Attribute o x pos) (mFld C x fo) :=
  PE.imp (pe_fld ho hb) fun σ H Q ⟨μ, ρ, m, hH, hS, q⟩ => by
    refine seqR q hH hS fun d m1 v H1 μ1 e1 hH1 r1 hS1 q1 => ?_
    split at q1
    case h_2 => exact q1.elim
    rename_i i
    split at q1
    case h_2 => exact q1.elim
    rename_i C' fs ei
    split at q1
    case isFalse => exact q1.elim
    rename_i hC
    subst hC
    obtain ⟨a, dx, gs, rfl, ha, h1, h2⟩ := ins_of hH1 r1 ei
    have hl := lookA (f := x) h2
    split at q1
    case h_2 => exact q1.elim
    rename_i d' ed
    rw [ed] at hl
    obtain ⟨w, h3, h4⟩ := hl
    exact ⟨a, _, dx, gs, w, rfl, h1, c, nA, h3, q1 w H1 μ1 .refl hH1 h4⟩
/-- o.x = e -/
def sFldD (C : Addr) (x : Str) (fo fv : ME) : MS := fun ρ m => bindS (fv ρ m) ρ fun y m => bindS (fo ρ m) ρ fun d m => match d with
  | .ref i => match m[i]? with
    | some (.ins C' fs) => if C' = C ∧ fs.length < 1000 then .nx ρ (m.set i (.ins C (putA x y fs))) else .no
    | _ => .no
  | _ => .no
theorem fsv_len {K : PySem.W.Frag} {H : Hp} {μ : Mu} {fs : List (Str × D)} {gs : List (Str × V)} (h : FsV K H μ fs gs) : fs.length = gs.length := Paired.length h
theorem pds_fld (c : Cls X.K C) (nA : NoAttr X.K C x) (ho : PD X W o fo) (hv : PD X W value fv) (hs : swapsWith value (some (.Attribute o x pos')) pos.line X.env = pure false := by rfl) : PDS X W (.Assign [.Attribute o x pos'] value pos) (sFldD C x fo fv) :=
  PS.imp (ps_fld ho hv hs) fun D σ H ⟨μ, ρ, m, hH, hS, q⟩ => by
    refine seqS q hH hS fun y m1 z H1 μ1 e1 hH1 r1 hS1 q1 => ?_
    refine seqS q1 hH1 hS1 fun d m2 v H2 μ2 e2 hH2 r2 hS2 q2 => ?_
    split at q2
    case h_2 => exact q2.elim
    rename_i i
    split at q2
    case h_2 => exact q2.elim
    rename_i C' fs ei
    split at q2
    case isFalse => exact q2.elim
    rename_i hC
    obtain ⟨hC, hl⟩ := hC
    subst hC
    obtain ⟨a, dx, gs, rfl, ha, h1, h2⟩ := ins_of hH2 r2 ei
    have ex := Ext.wr (o := .ins C' dx (putF x z gs)) hH2 ha
    refine ⟨a, _, dx, gs, rfl, h1, c, nA, by rw [← fsv_len h2]; exact hl, q2 σ _ μ2 ex (hH2.wr ha ⟨dx, _, upd_same, ?_⟩) (hS2.ext ex)⟩
    exact L2.Paired.mapP (putA_rv (RV.ext e2 y z r1) h2) fun p q z => ⟨z.1, RV.ext ex _ _ z.2⟩
/-- o.x += e, o.x -= e of whole numbers -/
def sFldAug (C : Addr) (x : Str) (g : Int → Int → Int) (fo fe : ME) : MS := fun ρ m => bindS (fo ρ m) ρ fun d m => match d with
  | .ref i => match m[i]? with
    | some (.ins C' fs) => if C' = C then match fs.lookup x with
      | some (.int a) => bindS (fe ρ m) ρ fun y m => match y with
        | .int b => match m[i]? with
          | some (.ins C2 fs2) => if C2 = C ∧ fs2.length < 1000 then .nx ρ (m.set i (.ins C (putA x (.int (g a b)) fs2))) else .no
          | _ => .no
        | _ => .no
      | _ => .no
      else .no
    | _ => .no
  | _ => .no
def rGI (g : Int → Int → Int) : V → V → Hp → VK → Prop := fun x y H Q => ∃ i j, x = .int i ∧ y = .int j ∧ Q (.int (g i j)) H
theorem pds_fldaug {op : Operator} {g : Int → Int → Int} (hop : InOp X op (rGI g)) (c : Cls X.K C) (nA : NoAttr X.K C x) (ho : PD X W o fo) (hv : PD X W e fe) : PDS X W (.AugAssign (.Attribute o x tpos) op e pos) (sFldAug C x g fo fe) :=
  PS.imp (ps_fldaug ho hv hop) fun D σ H ⟨μ, ρ, m, hH, hS, q⟩ => by
    refine seqS q hH hS fun d m1 v H1 μ1 e1 hH1 r1 hS1 q1 => ?_
    split at q1
    case h_2 => exact q1.elim
    rename_i i
    split at q1
    case h_2 => exact q1.elim
    rename_i C' fs ei
    split at q1
    case isFalse => exact q1.elim
    rename_i hC
    subst hC
    obtain ⟨a, dx, gs, rfl, ha, h1, h2⟩ := ins_of hH1 r1 ei
    have hl := lookA (f := x) h2
    split at q1
    case h_2 => exact q1.elim
    rename_i n ed
    rw [ed] at hl
    obtain ⟨w, h3, h4⟩ := hl
    simp only [RV] at h4
    subst h4
    refine ⟨a, _, dx, gs, _, rfl, h1, c, nA, h3, ?_⟩
    refine seqS q1 hH1 hS1 fun y m2 z H2 μ2 e2 hH2 r2 hS2 q2 => ?_
    split at q2
    case h_2 => exact q2.elim
    rename_i b
    simp only [RVv, RV] at r2
    subst r2
    split at q2
    case h_2 => exact q2.elim
    rename_i C2 fs2 ei2
    split at q2
    case isFalse => exact q2.elim
    rename_i hC
    obtain ⟨hC, hl2⟩ := hC
    subst hC
    obtain ⟨a', dx2, gs2, ea, ha2, h1', h2'⟩ := ins_of hH2 (RV.ext e2 _ _ r1) ei2
    cases ea
    have ex := Ext.wr (o := .ins C2 dx2 (putF x (.int (g n b)) gs2)) hH2 ha2
    refine ⟨n, b, rfl, rfl, dx2, gs2, h1', by rw [← fsv_len h2']; exact hl2, q2 σ _ μ2 ex (hH2.wr ha2 ⟨dx2, _, upd_same, ?_⟩) (hS2.ext ex)⟩
    exact L2.Paired.mapP (putA_rv (d := .int (g n b)) (v := .int (g n b)) (by simp [RV]) h2') fun p q z => ⟨z.1, RV.ext ex _ _ z.2⟩
theorem inI_add : InOp X .Add (rGI fun i j => i + j) := in_add
theorem inI_sub : InOp X .Sub (rGI fun i j => i - j) := in_sub
/-- o.x(..) -/
def mMeth (C : Addr) (x : Str) (F : List D → Me → Res D) (fo : ME) (fa : MA) : ME := fun ρ m => (fo ρ m).bind fun d m => match d with
  | .ref i => match m[i]? with
    | some (.ins C' fs) => if C' = C ∧ fs.lookup x = none then (fa ρ m).bind fun ds m => noX (F (.ref i :: ds) m) else .no
    | _ => .no
  | _ => .no
variable {k n : Nat} {f : Addr} {fd : FuncData} {ps : List Str} {Fm : List D → Me → Res D} {fa : MA}
theorem meth_imp {t : TA} {tq : TE} (ht : t = tR X.K W (RVn X.K n) fa) (ho : tq = tR X.K W (RVv X.K) fo) : ∀ σ H Q, tR X.K W (RVv X.K) (mMeth C x Fm fo fa) σ H Q → tMeth C x (spF X.K (n + 1) Fm) [] (fun _ _ _ => False) tq t σ H Q := fun σ H Q ⟨μ, ρ, m, hH, hS, q⟩ => by
  subst ht ho
  refine seqR q hH hS fun d m1 v H1 μ1 e1 hH1 r1 hS1 q1 => ?_
  split at q1
  case h_2 => exact q1.elim
  rename_i i
  split at q1
  case h_2 => exact q1.elim
  rename_i C' fs ei
  split at q1
  case isFalse => exact q1.elim
  rename_i hC
  obtain ⟨hC, hl⟩ := hC
  subst hC
  obtain ⟨a, dx, gs, rfl, ha, h1, h2⟩ := ins_of hH1 r1 ei
  have hl' := lookA (f := x) h2
  rw [hl] at hl'
  refine ⟨a, dx, gs, rfl, h1, hl', ?_⟩
  refine seqR q1 hH1 hS1 fun ds m2 vs H2 μ2 e2 hH2 r2 hS2 q2 => ?_
  refine ⟨μ2, m2, .ref i :: ds, hH2, ?_, by simp [r2.2], Ok.noX' q2⟩
  simp only [RVs]
  exact ⟨_, _, rfl, RV.ext e2 _ _ r1, by simpa using r2.1⟩
theorem pd_meth (pl : Sem Bool) (c : Cls X.K C) (hm : Meth X.K C x f) (G : FnOk X.prog X.w X.K X.mg X.base CX0 k f fd ps (spF X.K (n + 1) Fm)) (hr : Room k X.A) (hb : Binds X.K fd ps []) (ho : PD X W o fo) (ha : PDA X W n (e :: es) fa)
    (hst : starEach (e :: es) X.env = (false, eval e X.env) :: starEach es X.env := by rfl) (hpl : (backTo pos (starEach es X.env)).any (·.1) = false := by rfl)
    (ht : eval (.Call (.Attribute o x apos) (e :: es) [] pos) X.env = (do
      let ov ← eval o X.env
      standAt apos.atName
      let (f, first) ← holding [ov] (getMethod ov x pl)
      callWith pos f first (backTo pos (starEach (e :: es) X.env)) (backToKw pos (keywordEach [] X.env))) := by rfl) : PD X W (.Call (.Attribute o x apos) (e :: es) [] pos) (mMeth C x Fm fo fa) :=
  PE.imp (pe_meth (pl := pl) ho c hm G hr hb .nil pass0 ha hst hpl ht) (meth_imp rfl rfl)
theorem pd_meth0 (pl : Sem Bool) (c : Cls X.K C) (hm : Meth X.K C x f) (G : FnOk X.prog X.w X.K X.mg X.base CX0 k f fd ps (spF X.K (0 + 1) Fm)) (hr : Room k X.A) (hb : Binds X.K fd ps []) (ho : PD X W o fo)
    (ht : eval (.Call (.Attribute o x apos) [] [] pos) X.env = (do
      let ov ← eval o X.env
      standAt apos.atName
      let (f, first) ← holding [ov] (getMethod ov x pl)
      callWith pos f first (backTo pos (starEach [] X.env)) (backToKw pos (keywordEach [] X.env))) := by rfl) : PD X W (.Call (.Attribute o x apos) [] [] pos) (mMeth C x Fm fo mNil) :=
  PE.imp (pe_meth0 (pl := pl) ho c hm G hr hb .nil pass0 ht) fun σ H Q h => by
    have := meth_imp (t := tR X.K W (RVn X.K 0) mNil) (tq := tR X.K W (RVv X.K) fo) rfl rfl σ H Q h
    obtain ⟨μ, ρ, m, hH, hS, q⟩ := h
    refine seqR q hH hS fun d m1 v H1 μ1 e1 hH1 r1 hS1 q1 => ?_
    split at q1
    case h_2 => exact q1.elim
    rename_i i
    split at q1
    case h_2 => exact q1.elim
    rename_i C' fs ei
    split at q1
    case isFalse => exact q1.elim
    rename_i hC
    obtain ⟨hC, hl⟩ := hC
    subst hC
    obtain ⟨a, dx, gs, rfl, ha, h1, h2⟩ := ins_of hH1 r1 ei
    have hl' := lookA (f := x) h2
    rw [hl] at hl'
    refine ⟨a, dx, gs, rfl, h1, hl', μ1, m1, [.ref i], hH1, ?_, rfl, Ok.noX' q1⟩
    simp only [RVs]
    exact ⟨_, _, rfl, r1, rfl⟩
/-! ### a new instance -/
def mkC (C : Addr) (F : List D → Me → Res D) : List D → Me → Res D := fun ds m => (F (.ref m.length :: ds) (m ++ [.ins C []])).bind fun d m' => match d with
  | .non => .ok (.ref m.length) m'
  | _ => .no
def ctF (C : Addr) (Fn : Nat → List D → Me → Res D) : Nat → List D → Me → Res D
  | 0 => fun _ _ => .no
  | k + 1 => mkC C (Fn k)
def CtOk (P : Program) (w : World) (K : PySem.W.Frag) (mg : Str → Option Value) (base : Heap) (f : Addr) (fd : FuncData) (ps : List Str) (np : Nat) (Fn : Nat → List D → Me → Res D) : Nat → Prop
  | 0 => True
  | k + 1 => FnOk P w K mg base CX0 k f fd ps (spF K np (Fn k))
theorem make_imp {H1 : Hp} {μ1 : Mu} {m1 : Me} {ds : List D} {vs : List V} {F : List D → Me → Res D} {np : Nat} {Ex : XK} {Q : VK} (hH1 : RH X.K H1 μ1 m1) (r1 : RVs X.K H1 μ1 ds vs) (hn : ds.length + 1 = np) (q1 : Ok X.K Ex H1 μ1 (RVv X.K) Q (noX (mkC C F ds m1))) :
    ∀ x dx, H1 x = none → H1 dx = none → dx ≠ x → spF X.K np F (.ref x :: vs) (upd (upd H1 dx (.own x)) x (.ins C dx [])) (fun v H2 => v = .non ∧ Q (.ref x) H2) (fun _ _ _ => False) := by
  intro a dx hx hdx hne
  have ex1 := Ext.new (o := .own a) hH1 hdx
  have hH2 := hH1.new (o := .own a) hdx
  have hx2 : upd H1 dx (.own a) a = none := by rw [upd_ne (Ne.symm hne)]; exact hx
  have ex2 := Ext.cell (o := .ins C dx []) hH2 hx2
  have hH3 := hH2.cell (o := .ins C dx []) (c := .ins C []) hx2 ⟨dx, [], upd_same, .nil⟩
  have hlen := hH1.len
  refine ⟨μ1.add a, m1 ++ [.ins C []], .ref m1.length :: ds, hH3, ?_, by simpa using hn, ?_⟩
  · simp only [RVs]
    refine ⟨_, _, rfl, ?_, RVs.ext ex2 _ _ (RVs.ext ex1 _ _ r1)⟩
    simp only [RV]
    exact ⟨a, rfl, by simp [Mu.add, ← hlen]⟩
  · unfold mkC at q1
    cases e : F (.ref m1.length :: ds) (m1 ++ [.ins C []]) with
    | no => rw [e] at q1; exact q1.elim
    | exc y m' => rw [e] at q1; exact q1.elim
    | ok d m' =>
      rw [e] at q1
      simp only [Res.bind_ok] at q1
      cases d with
      | non =>
        intro v H' μ' x' hH' r'
        simp only [RVv, RV] at r'
        refine ⟨r', q1 _ H' μ' (ex1.trans (ex2.trans x')) hH' ?_⟩
        simp only [RVv, RV]
        exact ⟨a, rfl, x'.get (by simp [Mu.add, ← hlen])⟩
      | _ => exact q1.elim
theorem run_ctor {Fn : Nat → List D → Me → Res D} {np : Nat} {H1 : Hp} {μ1 : Mu} {m1 : Me} {ds : List D} {vs : List V} {us : List Value} {Ex : XK} {Q : VK} {pins : List (Addr × Obj)} {σ : L2.St} {s : Shared} (M : Mk X.K C f)
    (h : CtOk X.prog X.w X.K X.mg X.base f fd ps np Fn n) (hr : Room n X.A) (hb : Binds X.K fd ps []) (I : Inv X pins σ H1 s) (r : Vals vs us)
    (hH1 : RH X.K H1 μ1 m1) (r1 : RVs X.K H1 μ1 ds vs) (hn : ds.length + 1 = np) (q1 : Ok X.K Ex H1 μ1 (RVv X.K) Q (noX (ctF C Fn n ds m1))) : wpAny (model X.prog X.w) X.A (call (.ref C) us) (EP X pins σ Q) X.xe s := by
  cases n with
  | zero => exact q1.elim
  | succ n =>
    refine run_make M h hr hb .nil pass0 I r ?_
    have := make_imp hH1 r1 hn q1
    simpa using this
theorem pd_make {Fn : Nat → List D → Me → Res D} {np q : Nat} (M : Mk X.K C f) (h : CtOk X.prog X.w X.K X.mg X.base f fd ps np Fn n) (hr : Room n X.A) (hg : Gl X y) (hm : X.mg y = some (.ref C)) (hb : Binds X.K fd ps [])
    (ha : PDA X W q (e :: es) fa) (hF : Fm = ctF C Fn n) (hq : q + 1 = np := by rfl) (hdb : (y == ("__debug__" : Str)) = false := by decide) (he : starEach (e :: es) X.env = (false, eval e X.env) :: starEach es X.env := by rfl) (hpl : (backTo pos (starEach es X.env)).any (·.1) = false := by rfl) :
    PD X W (.Call (.Name y p) (e :: es) [] pos) (mCall Fm fa) := by
  subst hF
  refine ⟨fun pins s σ H Q I ⟨μ, ρ, m, hH, hS, qq⟩ => ?_⟩
  refine wpAny_Call_Name_kw (ld_glob I hg hm ?_ hdb)
  have h2 : tR X.K W (RVn X.K q) fa σ H (fun vs H1 => ∃ μ1 m1 ds, RH X.K H1 μ1 m1 ∧ RVs X.K H1 μ1 ds vs ∧ ds.length = q ∧ Ok X.K (fun c d H' => W c d σ H') H1 μ1 (RVv X.K) Q (noX (ctF C Fn n ds m1))) :=
    seqR qq hH hS fun ds m1 vs H1 μ1 e1 hH1 r1 hS1 q1 => ⟨μ1, m1, ds, hH1, r1.1, r1.2, q1⟩
  refine PySem.W.callWith_K (h₀ := X.base) I.ok.mod.kin M.kp (thn (ha.run pos pins s σ H _ I h2) fun us s1 ⟨vs, H1, I1, r, μ1, m1, ds, hH1, r1, hn, q1⟩ => ⟨I1.kIn, ?_⟩) he hpl
  exact run_ctor M h hr hb I1 r hH1 r1 (by rw [hn]; exact hq) q1
theorem pd_make0 {Fn : Nat → List D → Me → Res D} {np : Nat} (M : Mk X.K C f) (h : CtOk X.prog X.w X.K X.mg X.base f fd ps np Fn n) (hr : Room n X.A) (hg : Gl X y) (hm : X.mg y = some (.ref C)) (hb : Binds X.K fd ps [])
    (hF : Fm = ctF C Fn n) (hq : 1 = np := by rfl) (hdb : (y == ("__debug__" : Str)) = false := by decide) : PD X W (.Call (.Name y p) [] [] pos) (mCall Fm mNil) := by
  subst hF
  refine ⟨fun pins s σ H Q I ⟨μ, ρ, m, hH, hS, qq⟩ => ?_⟩
  refine wpAny_Call_Name_kw (ld_glob I hg hm ?_ hdb)
  exact PySem.W.callWith_K0 I.kIn M.kp (run_ctor (us := []) (vs := []) (ds := []) M h hr hb I .nil hH rfl hq qq)
end
/-! ### a def that keeps what it made -/
def runDefK (N n : Nat) (f : MS) : List D → Me → Res D := fun ds m => match f (ds.map some ++ List.replicate (N - n) none) m with
  | .nx _ m' => .ok .non m'
  | .rt d m' => .ok d m'
  | _ => .no
section
variable {P : Program} {w : World} {K : PySem.W.Frag} {mg : Str → Option Value} {base : Heap}
theorem fn_okK {x qual : Str} {st : Stmt} {f : Addr} {fd : FuncData} {N ps : List Str} {k : Nat} (F : Fun K x qual st f fd) (S : FnScope N ps (defScope st)) {fm : MS}
    (hbody : ∀ (cdv : Value) (A : Around) (outer : List Env) (s : Shared) (H : Hp) (E : XK), Room k (A.deeper (envOfC qual (defScope st) s.heap.objs.size f cdv)) →
      PDB (cxOf CX0 P w K mg base N qual (defScope st) f cdv A outer s H E).nox WF (defBody st) fm) : FnOk P w K mg base CX0 (k + 1) f fd ps (spF K ps.length (runDefK N.length ps.length fm)) := by
  refine F.ok S (fun vs H Q E h => ?_) (fun cdv A outer s H vs Q E hr h => ?_)
  · obtain ⟨μ, m, ds, _, r, hn, _⟩ := h
    rw [← r.length, hn]
  · obtain ⟨μ, m, ds, hH, r, hn, q⟩ := h
    refine ⟨_, hbody cdv A outer s H E hr, μ, _, m, hH, start_rs r hn, ?_⟩
    unfold runDefK at q
    cases e : fm (ds.map some ++ List.replicate (N.length - ps.length) none) m with
    | no => simp only [e] at q; exact q
    | exc x ρ m' => simp only [e] at q; exact q.elim
    | bk ρ m' => simp only [e] at q; exact q.elim
    | ct ρ m' => simp only [e] at q; exact q.elim
    | nx ρ m' => simp only [e] at q; exact fun σ' H' μ' x hH' hS' => q _ H' μ' x hH' (by simp [RV])
    | rt d m' => simp only [e] at q; exact fun v H' μ' x hH' r' => q v H' μ' x hH' r'
end
end FL

set_option maxRecDepth 100000
namespace FL
open PySem PySem.Spec PyProof.Rows L2

/-! ### dicts whose keys are written tuples -/
section
variable {K : PySem.W.Frag} {H : Hp} {μ : Mu} {m : Me}
theorem dT_of (hH : RH K H μ m) {i : Nat} {v : V} (r : RV K H μ (.ref i) v) {kvs : List (List Key × D)} (e : m[i]? = some (.dT kvs)) : ∃ a ps, v = .ref a ∧ μ.l[i]? = some a ∧ H a = some (.dT ps) ∧ RVq K H μ kvs ps := by
  simp only [RV] at r
  obtain ⟨a, rfl, ha⟩ := r
  obtain ⟨a', e', ps, h1, h2⟩ := hH.at' i _ e
  rw [ha] at e'; cases e'
  exact ⟨a, ps, rfl, ha, h1, h2⟩
/-- the entry at a tuple: none if it is no such dict -/
def lookT (m : Me) (d : D) (ks : List D) : Option (Option D) := match d with
  | .ref i => match m[i]? with
    | some (.dT kvs) => (keysD ks).map fun k => getK kvs k
    | _ => none
  | _ => none
def dputT (m : Me) (d : D) (ks : List D) (y : D) : Option Me := match d, keysD ks with
  | .ref i, some k => match m[i]? with
    | some (.dT kvs) => if kvs.length < 1000000 then some (m.set i (.dT (setK kvs k y))) else none
    | _ => none
  | _, _ => none
theorem lookT_of {d : D} {ks : List D} {v : V} {us : List V} {b : Addr} {o : Option D} (hH : RH K H μ m) (r : RV K H μ d v) (rk : RVs K H μ ks us) (hb : H b = some (.tup us)) (e : lookT m d ks = some o) :
    ∃ a, v = .ref a ∧ match o with
      | some y => ∃ z, DGet H a (.ref b) (some z) ∧ RV K H μ y z
      | none => DGet H a (.ref b) none := by
  obtain ⟨i, kvs, rfl, ei, e⟩ : ∃ i kvs, d = .ref i ∧ m[i]? = some (.dT kvs) ∧ (keysD ks).map (fun k => getK kvs k) = some o := by
    cases d with
    | ref i =>
      cases ei : m[i]? with
      | none => simp [lookT, ei] at e
      | some c =>
        cases c with
        | dT kvs => simp only [lookT, ei] at e; exact ⟨i, kvs, rfl, ei, e⟩
        | _ => simp [lookT, ei] at e
    | _ => simp [lookT] at e
  obtain ⟨k, e2, e3⟩ := Option.map_eq_some_iff.mp e
  obtain ⟨a, ps, rfl, ha, h1, h2⟩ := dT_of hH r ei
  have g := rvq_get (k := k) h2
  have ek := keysD_rv rk e2
  subst ek
  refine ⟨a, rfl, ?_⟩
  rw [e3] at g
  cases o with
  | none => have := DGet.t h1 hb; rw [g] at this; exact this
  | some y => obtain ⟨z, h3, h4⟩ := g; exact ⟨z, by have := DGet.t h1 hb; rw [h3] at this; exact this, h4⟩
theorem dputT_of {m' : Me} {d y : D} {ks : List D} {v z : V} {us : List V} {b : Addr} (hH : RH K H μ m) (r : RV K H μ d v) (rk : RVs K H μ ks us) (hb : H b = some (.tup us)) (ry : RV K H μ y z) (e : dputT m d ks y = some m') :
    ∃ a H', v = .ref a ∧ DPut H a (.ref b) z H' ∧ Ext K H μ H' μ ∧ RH K H' μ m' := by
  unfold dputT at e
  split at e
  case h_2 => cases e
  rename_i i k ek
  split at e
  case h_2 => cases e
  rename_i kvs ei
  split at e
  case isFalse => cases e
  rename_i hl
  cases e
  obtain ⟨a, ps, rfl, ha, h1, h2⟩ := dT_of hH r ei
  have ek' := keysD_rv rk ek
  subst ek'
  have hlen : ps.length < sizeLine := by rw [← rvq_len h2, sizeLine_eq]; omega
  have x := Ext.wr (o := .dT (putK ps k z)) hH ha
  refine ⟨a, _, rfl, DPut.t h1 hb hlen, x, hH.wr ha ⟨_, upd_same, ?_⟩⟩
  exact L2.Paired.mapP (rvq_set ry h2) fun p q z => ⟨z.1, RV.ext x _ _ z.2⟩
end
section
variable {X : Cx} {W : WX} {o i e value : Expr} {es : List Expr} {pos pos' tpos apos cpos : Pos} {fo fv : ME} {fa : MA} {n : Nat} {x1 : Nat}
/-- what the key's tuple leaves: a new object -/
theorem key_new {fa : MA} {R : Hp → Mu → D → V → Prop} {Ex : WX} {H : Hp} {μ : Mu} {m : Me} {ds : List D} {vs : List V} (hH : RH X.K H μ m) (r : RVs X.K H μ ds vs) {p : Addr} (hp : H p = none) :
    Ext X.K H μ (upd H p (.tup vs)) μ ∧ RH X.K (upd H p (.tup vs)) μ m ∧ RVs X.K (upd H p (.tup vs)) μ ds vs ∧ upd H p (.tup vs) p = some (.tup vs) ∧ p ∉ μ.l :=
  have ex := Ext.new (o := .tup vs) hH hp
  ⟨ex, hH.new hp, RVs.ext ex _ _ r, upd_same, hH.notin hp⟩
/-- d[a, b] -/
def mDgetT (fo : ME) (fa : MA) : ME := fun ρ m => (fo ρ m).bind fun d m => (fa ρ m).bind fun ks m => match lookT m d ks with
  | some (some y) => .ok y m
  | _ => .no
theorem pd_dgetT (hu : X.A.units + 1 < cLine) (ho : PD X W o fo) (ha : PDA X W n es fa) (hn : n ≤ 1000 := by decide) (hs : NoSl (.Tuple es x1 tpos) := by exact fun _ _ => rfl) : PD X W (.Subscript o (.Tuple es x1 tpos) pos) (mDgetT fo fa) :=
  PE.imp (pe_dget hu ho (pe_tup ha) hs) fun σ H Q ⟨μ, ρ, m, hH, hS, q⟩ => by
    refine seqR q hH hS fun d m1 v H1 μ1 e1 hH1 r1 hS1 q1 => ?_
    refine seqR q1 hH1 hS1 fun ks m2 us H2 μ2 e2 hH2 r2 hS2 q2 => ?_
    have hl := r2.1.length
    refine ⟨by rw [← hl, r2.2]; exact le_line hn, fun p hp => ?_⟩
    obtain ⟨ex, hH3, r3, hb, hpn⟩ := key_new (fa := fa) (R := RVv X.K) (Ex := W) hH2 r2.1 hp
    split at q2
    case h_2 => exact q2.elim
    rename_i y ey
    obtain ⟨a, rfl, z, h1, h2⟩ := lookT_of hH3 (RV.ext ex _ _ (RV.ext e2 d v r1)) r3 hb ey
    exact ⟨a, z, rfl, h1, q2 z _ μ2 ex hH3 h2⟩
/-- (a, b) in d -/
def mDinT (neg : Bool) (fa : MA) (fo : ME) : ME := fun ρ m => (fa ρ m).bind fun ks m => (fo ρ m).bind fun d m => match lookT m d ks with
  | some o => .ok (.bl (if neg then !o.isSome else o.isSome)) m
  | none => .no
theorem tup_stay {K : PySem.W.Frag} {H H' : Hp} {μ μ' : Mu} {us : List V} {p : Addr} (x : Ext K H μ H' μ') (hp : p ∉ μ.l) (h : H p = some (.tup us)) : H' p = some (.tup us) := (x.dat p (.tup us) hp trivial h).1
theorem pc_inT (hu : X.A.units + 1 < cLine) (ha : PDA X W n es fa) (ho : PD X W o fo) (hn : n ≤ 1000 := by decide) : PC X .In (.Tuple es x1 tpos) o (tR X.K W (RVv X.K) (mDinT false fa fo)) :=
  ⟨fun pins s σ H Q I h => (pc_din hu (pe_tup ha) ho).run pins s σ H Q I (by
    obtain ⟨μ, ρ, m, hH, hS, q⟩ := h
    refine seqR q hH hS fun ks m1 us H1 μ1 e1 hH1 r1 hS1 q1 => ?_
    have hl := r1.1.length
    refine ⟨by rw [← hl, r1.2]; exact le_line hn, fun p hp => ?_⟩
    obtain ⟨ex, hH1', r1', hb, hpn⟩ := key_new (fa := fa) (R := RVv X.K) (Ex := W) hH1 r1.1 hp
    refine seqR (q1.ext ex) hH1' (hS1.ext ex) fun d m2 v H2 μ2 e2 hH2 r2 hS2 q2 => ?_
    split at q2
    case h_2 => exact q2.elim
    rename_i oo eo
    obtain ⟨a, rfl, h1⟩ := lookT_of hH2 r2 (RVs.ext e2 _ _ r1') (tup_stay e2 hpn hb) eo
    cases oo with
    | none => exact ⟨a, none, rfl, h1, q2 _ H2 μ2 .refl hH2 (by simp [RV])⟩
    | some y => obtain ⟨z, h1, _⟩ := h1; exact ⟨a, some z, rfl, h1, q2 _ H2 μ2 .refl hH2 (by simp [RV])⟩)⟩
theorem pc_notinT (hu : X.A.units + 1 < cLine) (ha : PDA X W n es fa) (ho : PD X W o fo) (hn : n ≤ 1000 := by decide) : PC X .NotIn (.Tuple es x1 tpos) o (tR X.K W (RVv X.K) (mDinT true fa fo)) :=
  ⟨fun pins s σ H Q I h => (pc_dnotin hu (pe_tup ha) ho).run pins s σ H Q I (by
    obtain ⟨μ, ρ, m, hH, hS, q⟩ := h
    refine seqR q hH hS fun ks m1 us H1 μ1 e1 hH1 r1 hS1 q1 => ?_
    have hl := r1.1.length
    refine ⟨by rw [← hl, r1.2]; exact le_line hn, fun p hp => ?_⟩
    obtain ⟨ex, hH1', r1', hb, hpn⟩ := key_new (fa := fa) (R := RVv X.K) (Ex := W) hH1 r1.1 hp
    refine seqR (q1.ext ex) hH1' (hS1.ext ex) fun d m2 v H2 μ2 e2 hH2 r2 hS2 q2 => ?_
    split at q2
    case h_2 => exact q2.elim
    rename_i oo eo
    obtain ⟨a, rfl, h1⟩ := lookT_of hH2 r2 (RVs.ext e2 _ _ r1') (tup_stay e2 hpn hb) eo
    cases oo with
    | none => exact ⟨a, none, rfl, h1, q2 _ H2 μ2 .refl hH2 (by simp [RV])⟩
    | some y => obtain ⟨z, h1, _⟩ := h1; exact ⟨a, some z, rfl, h1, q2 _ H2 μ2 .refl hH2 (by simp [RV])⟩)⟩
theorem pd_dinT (hu : X.A.units + 1 < cLine) (ha : PDA X W n es fa) (ho : PD X W o fo) (hn : n ≤ 1000 := by decide) (h1 : behindInMarks .In o = false := by rfl) : PD X W (.Compare (.Tuple es x1 tpos) [.In] [o] pos) (mDinT false fa fo) := pe_cmp (pc_inT hu ha ho hn) h1
theorem pd_dnotinT (hu : X.A.units + 1 < cLine) (ha : PDA X W n es fa) (ho : PD X W o fo) (hn : n ≤ 1000 := by decide) (h1 : behindInMarks .NotIn o = false := by rfl) : PD X W (.Compare (.Tuple es x1 tpos) [.NotIn] [o] pos) (mDinT true fa fo) := pe_cmp (pc_notinT hu ha ho hn) h1
theorem pdt_dinT (hu : X.A.units + 1 < cLine) (ha : PDA X W n es fa) (ho : PD X W o fo) (hn : n ≤ 1000 := by decide) (h1 : behindInMarks .In o = false := by rfl) : PDT X W (.Compare (.Tuple es x1 tpos) [.In] [o] pos) (mB (mDinT false fa fo)) := PT.imp (pt_cmp (pc_inT hu ha ho hn) h1) fun σ H Q h => tB_imp h
theorem pdt_dnotinT (hu : X.A.units + 1 < cLine) (ha : PDA X W n es fa) (ho : PD X W o fo) (hn : n ≤ 1000 := by decide) (h1 : behindInMarks .NotIn o = false := by rfl) : PDT X W (.Compare (.Tuple es x1 tpos) [.NotIn] [o] pos) (mB (mDinT true fa fo)) := PT.imp (pt_cmp (pc_notinT hu ha ho hn) h1) fun σ H Q h => tB_imp h
/-- d[a, b] = v -/
def sDputT (fo : ME) (fa : MA) (fv : ME) : MS := fun ρ m => bindS (fv ρ m) ρ fun y m => bindS (fo ρ m) ρ fun d m => bindS (fa ρ m) ρ fun ks m => match dputT m d ks y with
  | some m' => .nx ρ m'
  | none => .no
theorem pds_dputT (hu : X.A.units + 1 < cLine) (ho : PD X W o fo) (ha : PDA X W n es fa) (hv : PD X W value fv) (hn : n ≤ 1000 := by decide) (hs : swapsWith value (some (.Subscript o (.Tuple es x1 tpos) pos')) pos.line X.env = pure false := by rfl) : PDS X W (.Assign [.Subscript o (.Tuple es x1 tpos) pos'] value pos) (sDputT fo fa fv) :=
  PS.imp (ps_dput hu ho (pe_tup ha) hv hs) fun D σ H ⟨μ, ρ, m, hH, hS, q⟩ => by
    refine seqS q hH hS fun y m1 z H1 μ1 e1 hH1 r1 hS1 q1 => ?_
    refine seqS q1 hH1 hS1 fun d m2 v H2 μ2 e2 hH2 r2 hS2 q2 => ?_
    refine seqS q2 hH2 hS2 fun ks m3 us H3 μ3 e3 hH3 r3 hS3 q3 => ?_
    have hl := r3.1.length
    refine ⟨by rw [← hl, r3.2]; exact le_line hn, fun p hp => ?_⟩
    obtain ⟨ex, hH4, r4, hb, hpn⟩ := key_new (fa := fa) (R := RVv X.K) (Ex := W) hH3 r3.1 hp
    cases e4 : dputT m3 d ks y with
    | none => rw [e4] at q3; exact q3.elim
    | some m' =>
      rw [e4] at q3
      obtain ⟨a, H5, rfl, h1, x, h2⟩ := dputT_of hH4 (RV.ext ex _ _ (RV.ext e3 d v r2)) r4 hb (RV.ext ex _ _ (RV.ext e3 y z (RV.ext e2 y z r1))) e4
      exact ⟨a, H5, rfl, h1, q3 σ H5 μ3 (ex.trans x) h2 ((hS3.ext ex).ext x)⟩
end
end FL

set_option maxRecDepth 100000
namespace FL
open PySem PySem.Spec PyProof.Rows L2

section
variable {X : Cx} {W : WX} {a b c o e : Expr} {es : List Expr} {pos apos cpos : Pos} {fa fb fc fo fe : ME}
/-! ### a < b < c -/
def mChain (g g' : D → D → Me → Res D) (fa fb fc : ME) : ME := fun ρ m => (fa ρ m).bind fun d m => (fb ρ m).bind fun d' m => (g d d' m).bind fun z m => match z with
  | .bl true => (fc ρ m).bind fun d'' m => g' d' d'' m
  | .bl false => .ok (.bl false) m
  | _ => .no
theorem okQ {α β γ δ : Type} {K : PySem.W.Frag} {Ex : XK} {H : Hp} {μ : Mu} {R : Hp → Mu → α → β → Prop} {R' : Hp → Mu → γ → δ → Prop} {Q1 : β → Hp → Prop} {Q : δ → Hp → Prop} {r : Res α} {f : α → Me → Res γ} (q : Ok K Ex H μ R' Q (r.bind f))
    (h : ∀ a m v H1 μ1, Ext K H μ H1 μ1 → RH K H1 μ1 m → R H1 μ1 a v → Ok K Ex H1 μ1 R' Q (f a m) → Q1 v H1) : Ok K Ex H μ R Q1 r ∨ ∃ x m, r = .exc x m := by
  cases r with
  | no => exact q.elim
  | exc x m => exact .inr ⟨x, m, rfl⟩
  | ok a m => exact .inl fun v H1 μ1 x hH1 r1 => h a m v H1 μ1 x hH1 r1 (q.ext x)
theorem chain_imp {r r' : R2} {g g' : D → D → Me → Res D} (hg : G2 X.K r g) (hg' : G2 X.K r' g') (hne : ∀ d d' m x m', g d d' m ≠ .exc x m') {σ : L2.St} {H : Hp} {Q : VK} (h : tR X.K W (RVv X.K) (mChain g g' fa fb fc) σ H Q) :
    tChain r r' (tR X.K W (RVv X.K) fa) (tR X.K W (RVv X.K) fb) (tR X.K W (RVv X.K) fc) σ H Q := by
  obtain ⟨μ, ρ, m, hH, hS, q⟩ := h
  refine seqR q hH hS fun d m1 v H1 μ1 e1 hH1 r1 hS1 q1 => ?_
  refine seqR q1 hH1 hS1 fun d' m2 v' H2 μ2 e2 hH2 r2 hS2 q2 => ?_
  refine hg (fun c d H' => W c d σ H') H2 μ2 m2 d d' v v' _ hH2 (RV.ext e2 _ _ r1) r2 ?_
  have hk : ∀ z m3 u H3 μ3, Ext X.K H2 μ2 H3 μ3 → RH X.K H3 μ3 m3 → RVv X.K H3 μ3 z u → Ok X.K (fun c d H' => W c d σ H') H3 μ3 (RVv X.K) Q (match z with
      | .bl true => (fc ρ m3).bind fun d'' m => g' d' d'' m
      | .bl false => .ok (.bl false) m3
      | _ => .no) → ∃ k, u = .bl k ∧ (if k = true then tR X.K W (RVv X.K) fc σ H3 fun w' H4 => r' v' w' H4 Q else Q (.bl false) H3) := by
    intro z m3 u H3 μ3 e3 hH3 r3 q3
    cases z with
    | bl k =>
      simp only [RVv, RV] at r3
      subst r3
      refine ⟨k, rfl, ?_⟩
      cases k with
      | true =>
        rw [if_pos rfl]
        refine seqR q3 hH3 (hS2.ext e3) fun d'' m4 w H4 μ4 e4 hH4 r4 hS4 q4 => ?_
        exact hg' (fun c d H' => W c d σ H') H4 μ4 m4 d' d'' v' w _ hH4 (RV.ext e4 _ _ (RV.ext e3 _ _ r2)) r4 q4
      | false => rw [if_neg Bool.false_ne_true]; exact q3 _ H3 μ3 .refl hH3 (by simp [RV])
    | _ => exact q3.elim
  rcases okQ q2 hk with h | ⟨x, m', he⟩
  · exact h
  · exact absurd he (hne _ _ _ _ _)
theorem gII_ne {C : Int → Int → Prop} [∀ i j, Decidable (C i j)] {f : Int → Int → D} (d d' : D) (m : Me) (x : Exn) (m' : Me) : gII C f d d' m ≠ .exc x m' := by
  unfold gII
  split
  · split <;> intro h <;> cases h
  · intro h; cases h
theorem pd_chain {op op' : CmpOp} {r r' : R2} {g g' : D → D → Me → Res D} (ho : OpR X (compareOp op) r) (hg : G2 X.K r g) (ho' : OpR X (compareOp op') r') (hg' : G2 X.K r' g') (hne : ∀ d d' m x m', g d d' m ≠ .exc x m') (ha : PD X W a fa) (hb : PD X W b fb) (hc : PD X W c fc)
    (hm : lastMarks [op, op'] [b, c] = false := by with_unfolding_all rfl) : PD X W (.Compare a [op, op'] [b, c] pos) (mChain g g' fa fb fc) :=
  PE.imp (pe_chain ho ho' ha hb hc hm) fun σ H Q h => chain_imp hg hg' hne h
theorem pdt_chain {op op' : CmpOp} {r r' : R2} {g g' : D → D → Me → Res D} (ho : OpR X (compareOp op) r) (hg : G2 X.K r g) (ho' : OpR X (compareOp op') r') (hg' : G2 X.K r' g') (hne : ∀ d d' m x m', g d d' m ≠ .exc x m') (ha : PD X W a fa) (hb : PD X W b fb) (hc : PD X W c fc)
    (hm : lastMarks [op, op'] [b, c] = false := by with_unfolding_all rfl) : PDT X W (.Compare a [op, op'] [b, c] pos) (mB (mChain g g' fa fb fc)) :=
  PT.imp (pt_chain ho ho' ha hb hc hm) fun σ H Q h => chain_imp hg hg' hne (tB_imp h)
theorem ne_lt (d d' : D) (m : Me) (x : Exn) (m' : Me) : gLt d d' m ≠ .exc x m' := gII_ne d d' m x m'
theorem ne_le (d d' : D) (m : Me) (x : Exn) (m' : Me) : gLe d d' m ≠ .exc x m' := gII_ne d d' m x m'
/-! ### max, min -/
def maxI : List Int → Option Int
  | [] => none
  | a :: r => some (r.foldl (fun x y => if y > x then y else x) a)
def minI : List Int → Option Int
  | [] => none
  | a :: r => some (r.foldl (fun x y => if y < x then y else x) a)
theorem foldmax (r : List Int) : ∀ a : Int, a ≤ r.foldl (fun x y => if y > x then y else x) a ∧ (∀ y ∈ r, y ≤ r.foldl (fun x y => if y > x then y else x) a) ∧ (r.foldl (fun x y => if y > x then y else x) a = a ∨ r.foldl (fun x y => if y > x then y else x) a ∈ r) := by
  induction r with
  | nil => intro a; simp
  | cons b r ih =>
    intro a
    rw [List.foldl_cons]
    obtain ⟨h1, h2, h3⟩ := ih (if b > a then b else a)
    by_cases q : b > a
    · rw [if_pos q] at h1 h2 h3 ⊢
      refine ⟨by omega, fun y hy => ?_, .inr ?_⟩
      · rcases List.mem_cons.mp hy with rfl | hy
        · exact h1
        · exact h2 y hy
      · rcases h3 with h3 | h3
        · rw [h3]; exact List.mem_cons_self
        · exact List.mem_cons_of_mem _ h3
    · rw [if_neg q] at h1 h2 h3 ⊢
      refine ⟨h1, fun y hy => ?_, ?_⟩
      · rcases List.mem_cons.mp hy with rfl | hy
        · omega
        · exact h2 y hy
      · rcases h3 with h3 | h3
        · exact .inl h3
        · exact .inr (List.mem_cons_of_mem _ h3)
theorem foldmin (r : List Int) : ∀ a : Int, r.foldl (fun x y => if y < x then y else x) a ≤ a ∧ (∀ y ∈ r, r.foldl (fun x y => if y < x then y else x) a ≤ y) ∧ (r.foldl (fun x y => if y < x then y else x) a = a ∨ r.foldl (fun x y => if y < x then y else x) a ∈ r) := by
  induction r with
  | nil => intro a; simp
  | cons b r ih =>
    intro a
    rw [List.foldl_cons]
    obtain ⟨h1, h2, h3⟩ := ih (if b < a then b else a)
    by_cases q : b < a
    · rw [if_pos q] at h1 h2 h3 ⊢
      refine ⟨by omega, fun y hy => ?_, .inr ?_⟩
      · rcases List.mem_cons.mp hy with rfl | hy
        · exact h1
        · exact h2 y hy
      · rcases h3 with h3 | h3
        · rw [h3]; exact List.mem_cons_self
        · exact List.mem_cons_of_mem _ h3
    · rw [if_neg q] at h1 h2 h3 ⊢
      refine ⟨h1, fun y hy => ?_, ?_⟩
      · rcases List.mem_cons.mp hy with rfl | hy
        · omega
        · exact h2 y hy
      · rcases h3 with h3 | h3
        · exact .inl h3
        · exact .inr (List.mem_cons_of_mem _ h3)
theorem maxI_is {ns : List Int} {k : Int} (h : maxI ns = some k) : k ∈ ns ∧ ∀ y ∈ ns, y ≤ k := by
  cases ns with
  | nil => cases h
  | cons a r =>
    obtain ⟨h1, h2, h3⟩ := foldmax r a
    simp only [maxI, Option.some.injEq] at h
    rw [h] at h1 h2 h3
    refine ⟨?_, fun y hy => ?_⟩
    · rcases h3 with h3 | h3
      · rw [h3]; exact List.mem_cons_self
      · exact List.mem_cons_of_mem _ h3
    · rcases List.mem_cons.mp hy with rfl | hy
      · exact h1
      · exact h2 y hy
theorem minI_is {ns : List Int} {k : Int} (h : minI ns = some k) : k ∈ ns ∧ ∀ y ∈ ns, k ≤ y := by
  cases ns with
  | nil => cases h
  | cons a r =>
    obtain ⟨h1, h2, h3⟩ := foldmin r a
    simp only [minI, Option.some.injEq] at h
    rw [h] at h1 h2 h3
    refine ⟨?_, fun y hy => ?_⟩
    · rcases h3 with h3 | h3
      · rw [h3]; exact List.mem_cons_self
      · exact List.mem_cons_of_mem _ h3
    · rcases List.mem_cons.mp hy with rfl | hy
      · exact h1
      · exact h2 y hy
def gMaxL (ds : List D) (m : Me) : Res D := match ds with
  | [d] => match ((lstV m d).bind intsD).bind maxI with
    | some k => .ok (.int k) m
    | none => .no
  | _ => .no
def gMinL (ds : List D) (m : Me) : Res D := match ds with
  | [d] => match ((lstV m d).bind intsD).bind minI with
    | some k => .ok (.int k) m
    | none => .no
  | _ => .no
theorem g_maxL {K : PySem.W.Frag} : GC K (rMax K) gMaxL := fun Ex H μ m ds vs Q hH rr q => by
  unfold gMaxL at q
  split at q
  · obtain ⟨v, rfl, r⟩ := rvs1 rr
    split at q
    · rename_i d k e
      obtain ⟨ns, e0, e3⟩ := Option.bind_eq_some_iff.mp e
      obtain ⟨xs, e1, e2⟩ := Option.bind_eq_some_iff.mp e0
      obtain ⟨a, vs, rfl, s1, z1, w1⟩ := lstV_of hH r e1
      have := intsD_rv w1 e2; subst this
      obtain ⟨h1, h2⟩ := maxI_is e3
      refine ⟨a, ns, rfl, .of s1, List.length_pos_of_mem h1, fun m' hm hle => ?_⟩
      have : m' = k := Int.le_antisymm (h2 m' hm) (hle k h1)
      subst this
      exact q _ H μ .refl hH (by simp [RV])
    · exact q.elim
  · exact q.elim
theorem g_minL {K : PySem.W.Frag} : GC K (rMin K) gMinL := fun Ex H μ m ds vs Q hH rr q => by
  unfold gMinL at q
  split at q
  · obtain ⟨v, rfl, r⟩ := rvs1 rr
    split at q
    · rename_i d k e
      obtain ⟨ns, e0, e3⟩ := Option.bind_eq_some_iff.mp e
      obtain ⟨xs, e1, e2⟩ := Option.bind_eq_some_iff.mp e0
      obtain ⟨a, vs, rfl, s1, z1, w1⟩ := lstV_of hH r e1
      have := intsD_rv w1 e2; subst this
      obtain ⟨h1, h2⟩ := minI_is e3
      refine ⟨a, ns, rfl, .of s1, List.length_pos_of_mem h1, fun m' hm hle => ?_⟩
      have : m' = k := Int.le_antisymm (hle k h1) (h2 m' hm)
      subst this
      exact q _ H μ .refl hH (by simp [RV])
    · exact q.elim
  · exact q.elim
def gMin2 (ds : List D) (m : Me) : Res D := match ds with
  | [.int i, .int j] => .ok (.int (if j < i then j else i)) m
  | _ => .no
theorem g_min2 {K : PySem.W.Frag} : GC K (fun xs H Q => ∃ i j, xs = [.int i, .int j] ∧ Q (.int (if j < i then j else i)) H) gMin2 := fun Ex H μ m ds vs Q hH rr q => by
  unfold gMin2 at q
  split at q
  · have := ints2 rr; subst this
    exact ⟨_, _, rfl, q _ H μ .refl hH (by simp [RV])⟩
  · exact q.elim
/-! ### pop, remove, count -/
def mPop (fo : ME) : ME := fun ρ m => (fo ρ m).bind fun d m => match d with
  | .ref i => match m[i]? with
    | some (.lst xs) => match xs[xs.length - 1]? with
      | some y => .ok y (m.set i (.lst xs.dropLast))
      | none => .no
    | _ => .no
  | _ => .no
theorem rvs_dropLast {K : PySem.W.Frag} {H : Hp} {μ : Mu} {ds : List D} {vs : List V} (r : RVs K H μ ds vs) : RVs K H μ ds.dropLast vs.dropLast := by
  rw [List.dropLast_eq_take, List.dropLast_eq_take, r.length]; exact r.take _
theorem pd_pop (ho : PD X W o fo) (hbase : attributeBase o "pop" X.env (eval o X.env) = eval o X.env := by rfl) (hline : (apos.endLine == cpos.line) = true := by rfl) : PD X W (.Call (.Attribute o "pop" apos) [] [] cpos) (mPop fo) :=
  PE.imp (pe_bm0 PySem.F.plainAttrs_list PySem.F.slot_list_pop PySem.F.type_list_pop mt_pop ho hbase hline) fun σ H Q ⟨μ, ρ, m, hH, hS, q⟩ => by
    refine seqR q hH hS fun d m1 v H1 μ1 e1 hH1 r1 hS1 q1 => ?_
    cases d with
    | ref i =>
      simp only [RVv, RV] at r1
      obtain ⟨a, rfl, ha⟩ := r1
      cases e2 : m1[i]? with
      | none => simp only [e2] at q1; exact q1.elim
      | some c =>
        cases c with
        | lst xs =>
          simp only [e2] at q1
          obtain ⟨a', ea, vs, hs, hz, hr⟩ := hH1.at' i _ e2
          rw [ha] at ea; cases ea
          cases e3 : xs[xs.length - 1]? with
          | none => simp only [e3] at q1; exact q1.elim
          | some y =>
            simp only [e3] at q1
            obtain ⟨w, h1, h2⟩ := hr.get e3
            have ex := Ext.wr (o := .lst vs.dropLast) hH1 ha
            refine ⟨.inl ⟨rfl, vs, .of hs⟩, a, vs, w, rfl, rfl, hs, by rw [← hr.length]; exact h1, q1 _ _ μ1 ex (hH1.wr ha ⟨_, upd_same, ?_, RVs.ext ex _ _ (rvs_dropLast hr)⟩) (RV.ext ex _ _ h2)⟩
            rw [List.length_dropLast]; omega
        | _ => simp only [e2] at q1; exact q1.elim
    | _ => exact q1.elim
def idxI (k : Int) : List Int → Option Nat
  | [] => none
  | a :: r => if a = k then some 0 else (idxI k r).map (· + 1)
theorem idxI_is {k : Int} : ∀ {ns : List Int} {j : Nat}, idxI k ns = some j → ns[j]? = some k ∧ ∀ m, m < j → ns[m]? ≠ some k
  | [], _, h => by cases h
  | a :: r, j, h => by
    simp only [idxI] at h
    split at h
    · rename_i q; cases h; subst q; exact ⟨rfl, fun m hm => by omega⟩
    · rename_i q
      obtain ⟨j', e, rfl⟩ := Option.map_eq_some_iff.mp h
      obtain ⟨h1, h2⟩ := idxI_is e
      refine ⟨h1, fun m hm => ?_⟩
      cases m with
      | zero => intro z; simp at z; exact q z
      | succ m => exact h2 m (by omega)
def mRemove (fo fe : ME) : ME := fun ρ m => (fo ρ m).bind fun d m => match d with
  | .ref i => match m[i]? with
    | some (.lst _) => (fe ρ m).bind fun y m => match y with
      | .int k => match m[i]? with
        | some (.lst xs) => match intsD xs with
          | some ns => match idxI k ns with
            | some j => .ok .non (m.set i (.lst ((ns.eraseIdx j).map .int)))
            | none => .no
          | none => .no
        | _ => .no
      | _ => .no
    | _ => .no
  | _ => .no
theorem rvs_ints {K : PySem.W.Frag} {H : Hp} {μ : Mu} : ∀ ns : List Int, RVs K H μ (ns.map D.int) (ns.map V.int)
  | [] => by simp [RVs]
  | a :: r => by simp only [List.map_cons, RVs]; exact ⟨_, _, rfl, by simp [RV], rvs_ints r⟩
theorem pd_remove (ho : PD X W o fo) (he : PD X W e fe) (hbase : attributeBase o "remove" X.env (eval o X.env) = eval o X.env := by rfl)
    (hfew : ((backTo cpos (starEach [e] X.env)).all (fun x => !x.1) && (backToKw cpos (keywordEach [] X.env)).all (fun x => x.1.isSome)
      && decide (([e] : List Expr).length + ([] : List Keyword).length + (if ([] : List Keyword).isEmpty then 0 else 1) < 30)) = true := by rfl)
    (hline : (apos.endLine == cpos.line) = true := by rfl) (hs : starEach [e] X.env = (false, eval e X.env) :: starEach [] X.env := by rfl) (hplain : (backTo cpos (starEach [] X.env)).any (·.1) = false := by rfl) :
    PD X W (.Call (.Attribute o "remove" apos) [e] [] cpos) (mRemove fo fe) :=
  PE.imp (pe_bm PySem.F.plainAttrs_list PySem.F.slot_list_remove PySem.F.type_list_remove mt_remove ho (pa_cons he pa_nil hs) hbase hfew hline hs hplain) fun σ H Q ⟨μ, ρ, m, hH, hS, q⟩ => by
    refine seqR q hH hS fun d m1 v H1 μ1 e1 hH1 r1 hS1 q1 => ?_
    cases d with
    | ref i =>
      simp only [RVv, RV] at r1
      obtain ⟨a, rfl, ha⟩ := r1
      cases e2 : m1[i]? with
      | none => simp only [e2] at q1; exact q1.elim
      | some c =>
        cases c with
        | lst xs0 =>
          simp only [e2] at q1
          obtain ⟨a', ea, vs0, hs0, _, _⟩ := hH1.at' i _ e2
          rw [ha] at ea; cases ea
          refine ⟨.inl ⟨rfl, vs0, .of hs0⟩, ?_⟩
          refine seqR q1 hH1 hS1 fun y m2 z H2 μ2 e2' hH2 r2 hS2 q2 => ?_
          split at q2
          case h_2 => exact q2.elim
          rename_i k
          simp only [RVv, RV] at r2
          subst r2
          split at q2
          case h_2 => exact q2.elim
          rename_i xs e3
          split at q2
          case h_2 => exact q2.elim
          rename_i ns e4
          split at q2
          case h_2 => exact q2.elim
          rename_i j e5
          have ha2 := e2'.get ha
          obtain ⟨a', ea, vs, hs, hz, hr⟩ := hH2.at' i _ e3
          rw [ha2] at ea; cases ea
          have := intsD_rv hr e4; subst this
          obtain ⟨h1, h2⟩ := idxI_is e5
          have ex := Ext.wr (o := .lst ((ns.eraseIdx j).map V.int)) hH2 ha2
          refine ⟨a, ns, k, j, rfl, rfl, hs, h1, h2, q2 _ _ μ2 ex (hH2.wr ha2 ⟨_, upd_same, ?_, rvs_ints _⟩) (by simp [RV])⟩
          rw [List.length_map] at hz ⊢
          have := List.length_eraseIdx_le ns j
          omega
        | _ => simp only [e2] at q1; exact q1.elim
    | _ => exact q1.elim
def mCount (fo fe : ME) : ME := fun ρ m => (fo ρ m).bind fun d m => match lstV m d with
  | some _ => (fe ρ m).bind fun y m => match y, (lstV m d).bind intsD with
    | .int k, some ns => .ok (.int (ns.count k : Nat)) m
    | _, _ => .no
  | none => .no
theorem pd_count (ho : PD X W o fo) (he : PD X W e fe) (hbase : attributeBase o "count" X.env (eval o X.env) = eval o X.env := by rfl)
    (hfew : ((backTo cpos (starEach [e] X.env)).all (fun x => !x.1) && (backToKw cpos (keywordEach [] X.env)).all (fun x => x.1.isSome)
      && decide (([e] : List Expr).length + ([] : List Keyword).length + (if ([] : List Keyword).isEmpty then 0 else 1) < 30)) = true := by rfl)
    (hline : (apos.endLine == cpos.line) = true := by rfl) (hs : starEach [e] X.env = (false, eval e X.env) :: starEach [] X.env := by rfl) (hplain : (backTo cpos (starEach [] X.env)).any (·.1) = false := by rfl) :
    PD X W (.Call (.Attribute o "count" apos) [e] [] cpos) (mCount fo fe) :=
  PE.imp (pe_bm PySem.F.plainAttrs_list PySem.F.slot_list_count PySem.F.type_list_count mt_lcount ho (pa_cons he pa_nil hs) hbase hfew hline hs hplain) fun σ H Q ⟨μ, ρ, m, hH, hS, q⟩ => by
    refine seqR q hH hS fun d m1 v H1 μ1 e1 hH1 r1 hS1 q1 => ?_
    split at q1
    case h_2 => exact q1.elim
    rename_i xs0 e2
    obtain ⟨a, vs0, rfl, s1, _, _⟩ := lstV_of hH1 r1 e2
    refine ⟨.inl ⟨rfl, vs0, .of s1⟩, ?_⟩
    refine seqR q1 hH1 hS1 fun y m2 z H2 μ2 e2' hH2 r2 hS2 q2 => ?_
    split at q2
    case h_2 => exact q2.elim
    rename_i k ns e3
    simp only [RVv, RV] at r2
    subst r2
    obtain ⟨xs, e4, e5⟩ := Option.bind_eq_some_iff.mp e3
    obtain ⟨a', vs, ea, s2, _, w1⟩ := lstV_of hH2 (RV.ext e2' _ _ r1) e4
    cases ea
    have := intsD_rv w1 e5; subst this
    exact ⟨a, ns, k, rfl, rfl, .of s2, q2 _ H2 μ2 .refl hH2 (by simp [RV])⟩
end
end FL

set_option maxRecDepth 100000
namespace FL
open PySem PySem.Spec PyProof.Rows L2

/-! ### the end, with classes -/
def spScr (K : PySem.W.Frag) : Sp := fun vs H Q _ => ∃ (a : Addr) (ns : List Int), vs = [.ref a] ∧ SqL K H a (ns.map V.int) ∧ ns.length ≤ 63 ∧ ∀ H', Q (.bl true) H'
theorem spScr_imp {K : PySem.W.Frag} {F0 : List D → Me → Res D} (L : ∀ ns : List Int, ns.length ≤ 63 → ∃ m', F0 [.scr ns] [] = .ok (.bl true) m') {vs : List V} {H : Hp} {Q : VK} {E : XK} (h : spScr K vs H Q E) : spF K 1 F0 vs H Q E := by
  obtain ⟨a, ns, rfl, hS, hl, q⟩ := h
  obtain ⟨m', e⟩ := L ns hl
  refine ⟨⟨[], []⟩, [], [.scr ns], ⟨rfl, List.nodup_nil, fun i c h => by simp at h, fun a h => by simp at h, fun a h => by simp at h⟩, ?_, rfl, ?_⟩
  · simp only [RVs, RV]
    refine ⟨.ref a, [], rfl, ⟨a, rfl, ?_⟩, rfl⟩
    rcases hS with hS | hS
    · exact .inl ⟨⟨by simp, by simp⟩, hS⟩
    · exact .inr (.inr hS)
  · rw [e]
    intro v H' μ' _ _ r
    simp only [RVv, RV] at r
    subst r
    exact q H'
theorem fn_imp {P : Program} {w : World} {K : PySem.W.Frag} {mg : Str → Option Value} {base : Heap} {k : Nat} {f : Addr} {fd : FuncData} {ps : List Str} {sp sp' : Sp} (F : FnOk P w K mg base CX0 k f fd ps sp) (h : ∀ vs H Q E, sp' vs H Q E → sp vs H Q E) : FnOk P w K mg base CX0 k f fd ps sp' :=
  ⟨fun vs H Q E q => F.len vs H Q E (h _ _ _ _ q), fun A outer s H args us vs Q E h1 h2 h3 h4 q => F.run A outer s H args us vs Q E h1 h2 h3 h4 (h _ _ _ _ q)⟩
theorem walk_fnC {l : PySem.W.OpenLaw} {q : Program} {loose : List Str} {XP : (Str → Option Value) → Heap → Prop} {YP : World → Heap → Prop} {d : DefRec} {K : Params → PySem.W.Frag} {x : Str}
    (hn : l.most = some 63) (hdf : d.params.defaults = []) (hY : ∀ (w : World) (h : Heap), YP w h → (K w.params).In h)
    (F : ∀ (w : World) (mg : Str → Option Value) (fa : Addr) (h : Heap), (K w.params).In h → h.Ns mainGlobals mg → mg d.name = some (.ref fa) →
      ∃ (fd : FuncData) (F0 : List D → Me → Res D), (∀ ns : List Int, ns.length ≤ 63 → ∃ m', F0 [.scr ns] [] = .ok (.bl true) m') ∧ (∀ (s : Shared) (u : Value), BindsTo s fd ⟨[u], []⟩ [(x, u)]) ∧
        ∀ base : Heap, (K w.params).In base → base.Ns mainGlobals mg → FnOk l.prog w (K w.params) mg base CX0 230 fa fd [x] (spF (K w.params) 1 F0)) :
    PySem.W.WalkO q loose XP YP l.row.toRowW d [] (fun f vs => PySem.call f vs) :=
  L2.walk_of (n := 63) (k := 230) (x := x) (CX := fun _ => CX0) (sp := fun w => spScr (K w.params)) hn (by decide) hdf ⟨rfl, by decide, by decide⟩ hY (fun w mg fa h h1 h2 h3 =>
    have ⟨fd, F0, L, b, G⟩ := F w mg fa h h1 h2 h3
    ⟨fd, b, fun base k1 k2 => fn_imp (G base k1 k2) fun vs H Q E z => spScr_imp L z⟩) (fun w H a ns hl _ hS => ⟨a, ns, rfl, hS, hl, fun _ => rfl⟩) fun _ _ _ _ _ z => z
end FL

set_option maxRecDepth 100000
namespace FL
open PySem PySem.Spec PyProof.Rows L2

section
variable {X : Cx} {W : WX} {o e : Expr} {apos cpos : Pos} {fo fe : ME}
/-! ### xs.extend(t), t a tuple -/
def rExtendT (K : PySem.W.Frag) : V → List V → Hp → VK → Prop := fun x vs H Q => ∃ l b xs zs, x = .ref l ∧ vs = [.ref b] ∧ H l = some (.lst xs) ∧ TupN K H b zs ∧ xs.length + zs.length ≤ sizeLine ∧ Q .non (upd H l (.lst (xs ++ zs)))
theorem tupN_obj {pins : List (Addr × Obj)} {σ : L2.St} {H : Hp} {s : Shared} {a : Addr} {ys : List V} (I : Inv X pins σ H s) (h : TupN X.K H a ys) : ∃ (its : List Value) (n : Nat), Vals ys its ∧ s.heap.get? a = some { cls := .type "tuple", dict := none, data := .seq its.toArray n, slots := #[] } := by
  rcases h with ⟨o, h, hd⟩ | ⟨o, its, n, hk, hc, hda, _, hv, hd⟩
  · obtain ⟨e, _, its, hv, ob, e2, hc, n, hda⟩ := I.hok a _ h
    rw [e] at e2; cases e2
    refine ⟨its, n, hv, ?_⟩
    rw [e]
    obtain ⟨cls, dict, data, slots⟩ := o
    obtain ⟨h1, h2⟩ := hd
    dsimp only at h1 h2 hc hda
    subst h1 h2 hc hda; rfl
  · refine ⟨its.toList, n, hv, ?_⟩
    rw [I.kIn _ o hk]
    obtain ⟨cls, dict, data, slots⟩ := o
    obtain ⟨h1, h2⟩ := hd
    dsimp only at h1 h2 hc hda
    subst h1 h2 hc hda
    rw [Array.toArray_toList]
theorem mt_extendT : MtM X "list.extend" (rExtendT X.K) := by
  intro pins s σ H x vs v us Q I rx rv h
  obtain ⟨l, b, xs, zs, rfl, rfl, hH, hB, hz, q⟩ := h
  cases rx
  obtain ⟨u, rfl, ru⟩ := rv.one
  cases ru
  obtain ⟨z, its, n, r, hl, e⟩ := I.lstM hH
  obtain ⟨its2, n2, r2, e2⟩ := tupN_obj I hB
  have hl2 := r2.length
  have hsz : its.toArray.size + its2.toArray.size ≤ sizeLine := by rw [List.size_toArray, List.size_toArray]; omega
  have hlong : ¬ (!its.toArray.isEmpty && Builtin.List.listTooLong (its.toArray.size + its2.toArray.size)) = true := by
    rw [notLongL hsz, Bool.and_false]
    exact Bool.false_ne_true
  refine call_meets F.slot_list_extend ⟨_, e, rfl⟩ F.entry_list_extend (F.args_list_extend_2 _ _)
    (AutoSeq1.list_extend_list_tuple_0 l its.toArray n b its2.toArray n2 hlong (by rw [List.size_toArray]; omega) (by omega)) ⟨e, e2, ?_⟩
  refine ⟨.non, _, I.lset (its' := its ++ its2) hH e (by simp) (r.append r2) ?_, rfl, q⟩
  rw [List.length_append]
  omega
def mExtendT (fo fe : ME) : ME := fun ρ m => (fo ρ m).bind fun d m => match d with
  | .ref i => match m[i]? with
    | some (.lst _) => (fe ρ m).bind fun y m => match m[i]?, y with
      | some (.lst xs), .tup ys => if xs.length + ys.length < 1000000 then .ok .non (m.set i (.lst (xs ++ ys))) else .no
      | _, _ => .no
    | _ => .no
  | _ => .no
theorem pd_extendT (ho : PD X W o fo) (he : PD X W e fe) (hbase : attributeBase o "extend" X.env (eval o X.env) = eval o X.env := by rfl)
    (hfew : ((backTo cpos (starEach [e] X.env)).all (fun x => !x.1) && (backToKw cpos (keywordEach [] X.env)).all (fun x => x.1.isSome)
      && decide (([e] : List Expr).length + ([] : List Keyword).length + (if ([] : List Keyword).isEmpty then 0 else 1) < 30)) = true := by rfl)
    (hline : (apos.endLine == cpos.line) = true := by rfl) (hs : starEach [e] X.env = (false, eval e X.env) :: starEach [] X.env := by rfl) (hplain : (backTo cpos (starEach [] X.env)).any (·.1) = false := by rfl) :
    PD X W (.Call (.Attribute o "extend" apos) [e] [] cpos) (mExtendT fo fe) :=
  PE.imp (pe_bm PySem.F.plainAttrs_list PySem.F.slot_list_extend PySem.F.type_list_extend mt_extendT ho (pa_cons he pa_nil hs) hbase hfew hline hs hplain) fun σ H Q ⟨μ, ρ, m, hH, hS, q⟩ => by
    refine seqR q hH hS fun d m1 v H1 μ1 e1 hH1 r1 hS1 q1 => ?_
    cases d with
    | ref i =>
      simp only [RVv, RV] at r1
      obtain ⟨a, rfl, ha⟩ := r1
      cases e2 : m1[i]? with
      | none => simp only [e2] at q1; exact q1.elim
      | some c =>
        cases c with
        | lst xs0 =>
          simp only [e2] at q1
          obtain ⟨a', ea, vs0, hs0, _, _⟩ := hH1.at' i _ e2
          rw [ha] at ea; cases ea
          refine ⟨.inl ⟨rfl, vs0, .of hs0⟩, ?_⟩
          refine seqR q1 hH1 hS1 fun y m2 z H2 μ2 e2' hH2 r2 hS2 q2 => ?_
          split at q2
          case h_2 => exact q2.elim
          rename_i xs ys e3
          split at q2
          case isFalse => exact q2.elim
          rename_i hl
          have ha2 := e2'.get ha
          obtain ⟨a', ea, vs, hs, hz, hr⟩ := hH2.at' i _ e3
          rw [ha2] at ea; cases ea
          obtain ⟨b, us, rfl, hb, hzb, hrb⟩ := rv_tup r2
          have hlen := hr.length
          have hlenb := hrb.length
          have ex := Ext.wr (o := .lst (vs ++ us)) hH2 ha2
          refine ⟨a, b, vs, us, rfl, rfl, hs, hb, by rw [sizeLine_eq]; omega, ?_⟩
          refine q2 _ _ μ2 ex (hH2.wr ha2 ⟨_, upd_same, ?_, RVs.ext ex _ _ (hr.append hrb)⟩) (by simp [RV])
          rw [List.length_append, sizeLine_eq]; omega
        | _ => simp only [e2] at q1; exact q1.elim
    | _ => exact q1.elim
/-! ### max of three -/
theorem vals3 {x y z : V} {us : List Value} (r : Vals [x, y, z] us) : ∃ a b c, us = [a, b, c] ∧ RelV x a ∧ RelV y b ∧ RelV z c := by
  cases r with
  | cons r1 r =>
    cases r with
    | cons r2 r =>
      cases r with
      | cons r3 r => cases r; exact ⟨_, _, _, rfl, r1, r2, r3⟩
def max3 (i j k : Int) : Int := if j > i then (if k > j then k else j) else (if k > i then k else i)
theorem call_max3 (hc : X.calm = true) : CallR X (.builtin "max") (fun xs H Q => ∃ i j k, xs = [.int i, .int j, .int k] ∧ Q (.int (max3 i j k)) H) := by
  intro pins s σ H xs us Q I r h
  obtain ⟨i, j, k, rfl, q⟩ := h
  obtain ⟨u, v, w', rfl, ⟨t, rfl⟩, ⟨t', rfl⟩, ⟨t'', rfl⟩⟩ := vals3 r
  refine max_three_ints (I.ok.hd hc) fun h' tk kk => ⟨_, H, I.kept kk, ?_, q⟩
  unfold max3
  by_cases h1 : j > i
  · rw [if_pos h1, if_pos h1]
    by_cases h2 : k > j
    · rw [if_pos h2, if_pos h2]; exact ⟨_, rfl⟩
    · rw [if_neg h2, if_neg h2]; exact ⟨_, rfl⟩
  · rw [if_neg h1, if_neg h1]
    by_cases h2 : k > i
    · rw [if_pos h2, if_pos h2]; exact ⟨_, rfl⟩
    · rw [if_neg h2, if_neg h2]; exact ⟨_, rfl⟩
def gMax3 (ds : List D) (m : Me) : Res D := match ds with
  | [.int i, .int j, .int k] => .ok (.int (max3 i j k)) m
  | _ => .no
theorem g_max3 {K : PySem.W.Frag} : GC K (fun xs H Q => ∃ i j k, xs = [.int i, .int j, .int k] ∧ Q (.int (max3 i j k)) H) gMax3 := fun Ex H μ m ds vs Q hH rr q => by
  unfold gMax3 at q
  split at q
  · simp only [RVs, RV] at rr
    obtain ⟨v, r, rfl, h1, v2, r2, rfl, h2, v3, r3, rfl, h3, rfl⟩ := rr
    subst h1 h2 h3
    exact ⟨_, _, _, rfl, q _ H μ .refl hH (by simp [RV])⟩
  · exact q.elim
end
end FL

set_option maxRecDepth 100000
namespace FL
open PySem PySem.Spec PyProof.Rows L2

/-! ### zip of two: ranges, lists, tuples -/
section
variable {prog : Program} {w : World} {A : Around} {E : Value → Shared → Prop} {s : Shared}
theorem nextOf_range_item {it : Addr} {x left step : Int} {Q : Value → Shared → Prop} (hit : IsRangeIter s.heap it x left step) (hleft : 0 < left)
    (hQ : ∀ h', IsRangeIter h' it (x + step) (left - 1) step → Heap.SameBut it s.heap h' → Q (.int x s.toks) { s with heap := h', toks := s.toks + 1 }) :
    wpAny (model prog w) A (Builtin.SmallTypes.nextOf (.ref it)) Q E s := by
  have hT : s.TypeIs (.ref it) "range_iterator" := ⟨_, hit, rfl⟩
  unfold Builtin.SmallTypes.nextOf
  refine wpAny_bind (wpAny_callSpecial?_slot (name := Str.ofString "__next__") hT F.slot_range_iterator_next
    (call_meets F.slot_range_iterator_next hT F.entry_range_iterator_next (F.args_range_iterator_next_1 _) (AutoRange.range_iterator___next___range_iterator_1 it x left step (by omega)) ⟨hit, ?_⟩))
  exact wpAny_pure (hQ _ (Heap.get?_update_self _ (Heap.get?_update_self _ hit rfl) rfl) ((Heap.SameBut.update ..).trans (Heap.SameBut.update ..)))
theorem nextOf_range_end {it : Addr} {x left step : Int} {Q : Value → Shared → Prop} (hh : A.handled = none) (hit : IsRangeIter s.heap it x left step) (hleft : left ≤ 0)
    (hE : ∀ h' e, Heap.ExtBut it s.heap h' → (∃ o, h'.get? e = some o ∧ o.cls = .type "StopIteration") → E (.ref e) { s with heap := h' }) :
    wpAny (model prog w) A (Builtin.SmallTypes.nextOf (.ref it)) Q E s := by
  have hT : s.TypeIs (.ref it) "range_iterator" := ⟨_, hit, rfl⟩
  unfold Builtin.SmallTypes.nextOf
  refine wpAny_bind (wpAny_callSpecial?_slot (name := Str.ofString "__next__") hT F.slot_range_iterator_next
    (wpAny_call_entry F.slot_range_iterator_next hT F.entry_range_iterator_next ?_ (F.args_range_iterator_next_1 _)))
  show wpAny _ _ (field (.ref it) 0 >>= _) _ _ s
  refine wpAny_bind (wpAny_field hit rfl (x := rawInt x) rfl ?_)
  show wpAny _ _ (field (.ref it) 1 >>= _) _ _ s
  refine wpAny_bind (wpAny_field hit rfl (x := rawInt left) rfl ?_)
  show wpAny _ _ (field (.ref it) 2 >>= _) _ _ s
  refine wpAny_bind (wpAny_field hit rfl (x := rawInt step) rfl ?_)
  show wpAny _ _ (if left ≤ 0 then _ else _) _ _ s
  rw [if_pos hleft]
  refine wpAny_bind (wpAny_rule ?_)
  refine wpAny_bind ?_
  show wpAny _ _ (newExc (.type "StopIteration") [] >>= _) _ _ _
  refine wpAny_bind ?_
  simp only [newExc, newTuple]
  refine wpAny_bind (wpAny_newObj_type ?_ (by size_fits))
  refine wpAny_bind (m := firstArgMember _ _) (wpAny_of_eq (a := Value.none) (by first | rfl | (simp only [firstArgMember]; rfl)) ?_)
  refine wpAny_newObj_type ?_ (by size_fits)
  simp only [raiseNew]
  refine wpAny_bind (wpAny_handled ?_)
  first | rw [show A.in1.handled = none from hh] | rw [hh]
  refine wpAny_bind (wpAny_pure (wpAny_throw ?_))
  exact hE _ _ (((Heap.ExtBut.refl it s.heap).push _).push _) ⟨_, Heap.get?_push_size _ rfl, rfl⟩
end
theorem draws_range {prog : Program} {w : World} {A : Around} (hh : A.handled = none) (it : Addr) (lo : Int) (n : Nat) :
    Draws prog w A it [it] n (fun i v => ∃ t, v = .int (lo + (i : Nat)) t) (fun i h => IsRangeIter h it (lo + (i : Nat)) ((n : Int) - (i : Nat)) 1) where
  live := fun _ _ st => ⟨_, st⟩
  frame := fun _ _ _ st hk => hk it (by simp) _ st
  item := fun i s Q E hi st hQ => by
    refine nextOf_range_item st (by omega) fun h' st' sb => hQ _ h' _ ⟨_, rfl⟩ ?_ sb
    have e1 : lo + ((i + 1 : Nat) : Int) = lo + (i : Nat) + 1 := by omega
    have e2 : (n : Int) - ((i + 1 : Nat) : Int) = (n : Int) - (i : Nat) - 1 := by omega
    rw [e1, e2]; exact st'
  done := fun s Q E st hE => nextOf_range_end hh st (by omega) hE

/-- what is zipped -/
inductive Src
  | rng (lo : Int) (n : Nat)
  | lst (a : Addr)
  | tup (a : Addr)
def Src.at : Src → Option Addr
  | .rng _ _ => none
  | .lst a => some a
  | .tup a => some a
def Src.st (k : Src) (it : Addr) (i : Nat) (h : Heap) : Prop := match k with
  | .rng lo n => IsRangeIter h it (lo + (i : Nat)) ((n : Int) - (i : Nat)) 1
  | .lst a => h.IsListIter it a i
  | .tup a => h.IsTupleIter it a i
def rngV (lo : Int) (n : Nat) : List V := (List.range n).map fun (k : Nat) => .int (lo + k)
def Src.has (K : PySem.W.Frag) (H : Hp) (k : Src) (vs : List V) : Prop := match k with
  | .rng lo n => vs = rngV lo n
  | .lst a => SqL K H a vs
  | .tup a => SqT K H a vs
theorem Src.st_obj {k : Src} {it : Addr} {i : Nat} {h : Heap} (s : k.st it i h) : ∃ o, h.get? it = some o ∧ ∀ v, o.data ≠ .cell v := by
  cases k with
  | rng lo n => exact ⟨_, s, fun v z => by have z' : Data.fields _ = Data.cell v := z; cases z'⟩
  | lst a => obtain ⟨o, e, _, d⟩ := s; exact ⟨o, e, fun v z => by rw [d] at z; cases z⟩
  | tup a => obtain ⟨o, e, _, d⟩ := s; exact ⟨o, e, fun v z => by rw [d] at z; cases z⟩
theorem Src.st_keep {k : Src} {it : Addr} {i : Nat} {h h' : Heap} (s : k.st it i h) (q : ∀ o, h.get? it = some o → h'.get? it = some o) : k.st it i h' := by
  cases k with
  | rng lo n => exact q _ s
  | lst a => exact s.at q
  | tup a => exact s.at q
theorem Src.has_inj {X : Cx} {pins : List (Addr × Obj)} {σ : L2.St} {H : Hp} {s : Shared} (I : Inv X pins σ H s) {k : Src} {xs ys : List V} (h1 : k.has X.K H xs) (h2 : k.has X.K H ys) : xs = ys := by
  cases k with
  | rng lo n => exact h1.trans h2.symm
  | lst a => exact I.list_inj h1 h2
  | tup a => exact I.tuple_inj h1 h2
theorem rel_at {vs : List V} {its : List Value} (rv : Vals vs its) {i : Nat} {x : Value} (h : its[i]? = some x) : ∃ v, vs[i]? = some v ∧ RelV v x := by
  have hi := (List.getElem?_eq_some_iff.mp h).1
  have hl := rv.length
  have hv : vs[i]? = some vs[i] := List.getElem?_eq_getElem (by omega)
  obtain ⟨u, hu, r⟩ := rv.get hv
  rw [h] at hu; cases hu
  exact ⟨_, hv, r⟩
theorem src_draws {X : Cx} {pins : List (Addr × Obj)} {σ : L2.St} {H : Hp} {s : Shared} {A : Around} (hh : A.handled = none) (I : Inv X pins σ H s) {k : Src} {it : Addr} (hk : k.at ≠ some it) {vs : List V} (hq : k.has X.K H vs) :
    ∃ (fp : List Addr) (P : Nat → Value → Prop) (S : Nat → Heap → Prop), Draws X.prog X.w A it fp vs.length P S ∧ it ∈ fp ∧ (∀ i h, S i h → k.st it i h) ∧ (∀ i, k.st it i s.heap → S i s.heap) ∧
      (∀ i x, P i x → ∃ v, vs[i]? = some v ∧ RelV v x) ∧ ∀ b ∈ fp, b = it ∨ k.at = some b := by
  cases k with
  | rng lo n =>
    cases hq
    have hl : (rngV lo n).length = n := by simp [rngV]
    rw [hl]
    have D := draws_range (prog := X.prog) (w := X.w) hh it lo n
    refine ⟨[it], fun i v => i < n ∧ ∃ t, v = .int (lo + (i : Nat)) t, _, ⟨D.live, D.frame, fun i s Q E hi st hQ => D.item i s Q E hi st fun x h' tk hx => hQ x h' tk ⟨hi, hx⟩, D.done⟩, by simp, fun _ _ h => h, fun _ h => h, ?_, fun b hb => .inl (by simpa using hb)⟩
    rintro i x ⟨hi, t, rfl⟩
    exact ⟨.int (lo + i), by simp [rngV, hi], t, rfl⟩
  | lst a =>
    obtain ⟨its, rv, p, _⟩ := I.list hq
    have hne : a ≠ it := fun z => hk (by rw [z]; rfl)
    have D := Draws.list (prog := X.prog) (w := X.w) hh it a hne its.toArray
    have hl : its.toArray.size = vs.length := by simpa using rv.length.symm
    rw [hl] at D
    refine ⟨_, _, _, D, by simp, fun _ _ h => h.1, fun _ h => ⟨h, p.isList⟩, fun i x hx => rel_at rv (by simpa using hx), fun b hb => ?_⟩
    simp only [List.mem_cons, List.not_mem_nil, or_false] at hb
    rcases hb with rfl | rfl
    · exact .inl rfl
    · exact .inr rfl
  | tup a =>
    obtain ⟨its, rv, p, _⟩ := I.tuple hq
    have hne : a ≠ it := fun z => hk (by rw [z]; rfl)
    have D := Draws.tuple (prog := X.prog) (w := X.w) hh it a hne its.toArray
    have hl : its.toArray.size = vs.length := by simpa using rv.length.symm
    rw [hl] at D
    refine ⟨_, _, _, D, by simp, fun _ _ h => h.1, fun _ h => ⟨h, p⟩, fun i x hx => rel_at rv (by simpa using hx), fun b hb => ?_⟩
    simp only [List.mem_cons, List.not_mem_nil, or_false] at hb
    rcases hb with rfl | rfl
    · exact .inl rfl
    · exact .inr rfl

/-- the pairs -/
def ItzS (K : PySem.W.Frag) (k1 k2 : Src) : It :=
  ⟨fun i H => ∃ (xs ys : List V), k1.has K H xs ∧ k2.has K H ys ∧ i < xs.length ∧ i < ys.length,
    fun i H v H' => ∃ (T : Addr) (o : Obj) (x y : V), v = .ref T ∧ H T = none ∧ PlO o ∧ H' = upd H T (.frz o (.tup [x, y])) ∧ (∀ xs, k1.has K H xs → xs[i]? = some x) ∧ ∀ ys, k2.has K H ys → ys[i]? = some y,
    fun i H => ∃ xs ys : List V, k1.has K H xs ∧ k2.has K H ys ∧ i ≤ xs.length ∧ i ≤ ys.length ∧ (i = xs.length ∨ i = ys.length)⟩
structure ZipAp (k1 k2 : Src) (z TI TO i1 i2 : Addr) : Prop where
  TIz : TI ≠ z
  TOz : TO ≠ z
  TITO : TI ≠ TO
  TIi1 : TI ≠ i1
  TIi2 : TI ≠ i2
  zi1 : z ≠ i1
  zi2 : z ≠ i2
  Ti1 : TO ≠ i1
  Ti2 : TO ≠ i2
  i12 : i1 ≠ i2
  a1 : ∀ a, k1.at = some a → a ≠ z ∧ a ≠ TO ∧ a ≠ i1 ∧ a ≠ i2
  a2 : ∀ a, k2.at = some a → a ≠ z ∧ a ≠ TO ∧ a ≠ i1 ∧ a ≠ i2
theorem ZipAp.sep {k1 k2 : Src} {z TI TO i1 i2 : Addr} (D : ZipAp k1 k2 z TI TO i1 i2) {fp1 fp2 : List Addr} (m1 : i1 ∈ fp1) (m2 : i2 ∈ fp2) (h1 : ∀ b ∈ fp1, b = i1 ∨ k1.at = some b) (h2 : ∀ b ∈ fp2, b = i2 ∨ k2.at = some b) : ZipSep2 z TI TO i1 i2 fp1 fp2 where
  TIz := D.TIz
  TOz := D.TOz
  TITO := D.TITO
  TIi1 := D.TIi1
  TIi2 := D.TIi2
  mem1 := m1
  mem2 := m2
  zf1 := fun h => by rcases h1 _ h with e | e; exact D.zi1 e; exact (D.a1 _ e).1 rfl
  Tf1 := fun h => by rcases h1 _ h with e | e; exact D.Ti1 e; exact (D.a1 _ e).2.1 rfl
  zf2 := fun h => by rcases h2 _ h with e | e; exact D.zi2 e; exact (D.a2 _ e).1 rfl
  Tf2 := fun h => by rcases h2 _ h with e | e; exact D.Ti2 e; exact (D.a2 _ e).2.1 rfl
  sep1_2 := fun h => by rcases h2 _ h with e | e; exact D.i12 e; exact (D.a2 _ e).2.2.1 rfl
  sep2_1 := fun h => by rcases h1 _ h with e | e; exact D.i12 e.symm; exact (D.a1 _ e).2.2.2 rfl
theorem turn_zipS {P : Program} {w : World} {K : PySem.W.Frag} {elts : List Expr} {kk : Nat} {tpos : Pos} {k1 k2 : Src} {z TI TO i1 i2 : Addr} (D : ZipAp k1 k2 z TI TO i1 i2) :
    Turn P w K (.Tuple elts kk tpos) (ItzS K k1 k2) [z, TI, TO, i1, i2] z (fun i h => IsZip h z TI TO .none ∧ IsTupOf2 h TI (.ref i1) (.ref i2) ∧ (∃ x y, IsTupOf2 h TO x y) ∧ k1.st i1 i h ∧ k2.st i2 i h) where
  mem := by simp
  obj := fun i h st c hc => by
    obtain ⟨hz, hTI, ⟨x, y, hTO⟩, s1, s2⟩ := st
    have e' : c = z ∨ c = TI ∨ c = TO ∨ c = i1 ∨ c = i2 := by simpa using hc
    rcases e' with q | q | q | q | q
    · rw [q]; exact ⟨_, hz, fun v q => nomatch q⟩
    · rw [q]; exact ⟨_, hTI, fun v q => nomatch q⟩
    · rw [q]; exact ⟨_, hTO, fun v q => nomatch q⟩
    · rw [q]; exact Src.st_obj s1
    · rw [q]; exact Src.st_obj s2
  keep := fun i h h' st k => by
    obtain ⟨hz, hTI, ⟨x, y, hTO⟩, s1, s2⟩ := st
    exact ⟨k z (by simp) _ hz, k TI (by simp) _ hTI, ⟨x, y, k TO (by simp) _ hTO⟩, Src.st_keep s1 fun o q => k i1 (by simp) o q, Src.st_keep s2 fun o q => k i2 (by simp) o q⟩
  item := by
    intro X hP hw hK hc i pins s σ H E I hf st hg
    subst hP hw hK
    obtain ⟨hz, hTI, ⟨x0, y0, hTO⟩, s1, s2⟩ := st
    obtain ⟨xs, ys, hqx, hqy, l1, l2⟩ := hg
    have hh : X.A.in1.handled = none := I.ok.hd hc
    obtain ⟨fp1, P1, S1, D1, m1, b1, c1, p1, f1⟩ := src_draws hh I (it := i1) (fun e => (D.a1 _ e).2.2.1 rfl) hqx
    obtain ⟨fp2, P2, S2, D2, m2, b2, c2, p2, f2⟩ := src_draws hh I (it := i2) (fun e => (D.a2 _ e).2.2.2 rfl) hqy
    have hzl : z < s.heap.objs.size := Heap.lt_size hz
    refine wpAny_pyNext_zipD2_item (D.sep m1 m2 f1 f2) D1 D2 hz hTI hTO (c1 i s1) (c2 i s2) l1 l2 fun x y h' tk hx hy z' TO' t1 t2 hT hsz hk => ?_
    obtain ⟨v1, hv1, r1⟩ := p1 _ _ hx
    obtain ⟨v2, hv2, r2⟩ := p2 _ _ hy
    refine ⟨_, rfl, wpAny_letOwnedTupleGo_zip (s := { s with heap := h', toks := tk }) z' fun h'' z'' sb => ?_⟩
    have hT2 : h''.get? s.heap.objs.size = some { cls := .type "tuple", data := .seq #[x, y] } := (sb.2 _ (Nat.ne_of_gt hzl)).trans hT
    have new : ObjOk X.prog X.w (upd H s.heap.objs.size (.frz { cls := .type "tuple", data := .seq #[x, y] } (.tup [v1, v2]))) h'' s.heap.objs.size (.frz { cls := .type "tuple", data := .seq #[x, y] } (.tup [v1, v2])) :=
      ⟨hT2, by show 2 ≤ sizeLine; decide, [x, y], .cons r1 (.cons r2 .nil), ⟨_, hT2, rfl, _, rfl⟩⟩
    have I1 : Inv X pins σ (upd H s.heap.objs.size (.frz { cls := .type "tuple", data := .seq #[x, y] } (.tup [v1, v2]))) { s with heap := h'', toks := tk } :=
      I.turnedNew (t' := tk) (ch := [z, TI, TO, i1, i2]) (fun c o hb q => (sb.2 c (fun q' => hb (by simp [q']))).trans (hk c o (fun q' => hb (by simp [q'])) (fun q' => hb (by simp [q'])) (fun q' => hb (by simp [q'])) (fun q' => hb (by simp [q'])) q)) hf (Nat.le_refl _) new
    refine ⟨.ref s.heap.objs.size, _, I1, rfl, ⟨_, _, v1, v2, rfl, I.hok.fresh (Nat.le_refl _), ⟨rfl, rfl⟩, rfl, fun l hl => by rw [Src.has_inj I hl hqx]; exact hv1, fun l hl => by rw [Src.has_inj I hl hqy]; exact hv2⟩, ⟨z'', ?_, ⟨x, y, ?_⟩, ?_, ?_⟩, fun c hcm => ?_⟩
    · exact (sb.2 _ D.TIz).trans (hk _ _ D.TIz D.TITO D.TIi1 D.TIi2 hTI)
    · exact (sb.2 _ D.TOz).trans TO'
    · exact Src.st_keep (b1 _ _ t1) fun o q => (sb.2 _ D.zi1.symm).trans q
    · exact Src.st_keep (b2 _ _ t2) fun o q => (sb.2 _ D.zi2.symm).trans q
    · have hlt : c < s.heap.objs.size := by
        have e' : c = z ∨ c = TI ∨ c = TO ∨ c = i1 ∨ c = i2 := by simpa using hcm
        rcases e' with q | q | q | q | q
        · rw [q]; exact hzl
        · rw [q]; exact Heap.lt_size hTI
        · rw [q]; exact Heap.lt_size hTO
        · rw [q]; obtain ⟨_, e1, _⟩ := Src.st_obj s1; exact Heap.lt_size e1
        · rw [q]; obtain ⟨_, e2, _⟩ := Src.st_obj s2; exact Heap.lt_size e2
      rw [upd_ne (Nat.ne_of_lt hlt)]
      exact (hf c hcm).1
  done := by
    intro X hP hw hK hc i pins s σ H E I hf st hg
    subst hP hw hK
    obtain ⟨hz, hTI, ⟨x0, y0, hTO⟩, s1, s2⟩ := st
    obtain ⟨xs, ys, hqx, hqy, l1, l2, hend⟩ := hg
    have hh : X.A.in1.handled = none := I.ok.hd hc
    obtain ⟨fp1, P1, S1, D1, m1, b1, c1, p1, f1⟩ := src_draws hh I (it := i1) (fun e => (D.a1 _ e).2.2.1 rfl) hqx
    obtain ⟨fp2, P2, S2, D2, m2, b2, c2, p2, f2⟩ := src_draws hh I (it := i2) (fun e => (D.a2 _ e).2.2.2 rfl) hqy
    refine wpAny_pyNext_zipD2_end (D.sep m1 m2 f1 f2) D1 D2 hz hTI hTO (c1 i s1) (c2 i s2) l1 l2 hend fun h' tk hk => ⟨rfl, I.turnedL (t' := tk) (ch := [z, TI, TO, i1, i2]) (fun c o hb q =>
      hk c o (fun q' => hb (by simp [q'])) (fun q' => hb (by simp [q'])) (fun q' => hb (by simp [q'])) (fun q' => hb (by simp [q'])) q) hf⟩
  self := fun A i s Q E st h => wpAny_pyIter_zip st.1 h

/-! ### zip begins -/
/-- the value of a source -/
def SrcV (K : PySem.W.Frag) (H : Hp) : Src → V → Prop
  | .rng lo n, x => ∃ (a : Addr) (o : Obj) (hi : Int), x = .ref a ∧ H a = some (.frz o (.rng lo hi)) ∧ n = (hi - lo).toNat ∧ (-(2 ^ 62) ≤ lo ∧ lo < 2 ^ 62 ∧ -(2 ^ 62) ≤ hi ∧ hi < 2 ^ 62)
  | .lst a, x => x = .ref a ∧ ∃ vs, SqL K H a vs
  | .tup a, x => x = .ref a ∧ ∃ vs, SqT K H a vs
theorem begins_rangeR {a : Addr} {lo hi : Int} (h1 : -(2 ^ 62) ≤ lo ∧ lo < 2 ^ 62 ∧ -(2 ^ 62) ≤ hi ∧ hi < 2 ^ 62) :
    Begins (.ref a) { cls := .type "range_iterator", data := .fields #[rawInt lo, rawInt (Builtin.Range.rangeSize lo hi 1), rawInt 1] } fun h => ∃ t u v, IsRange h a lo hi 1 t u v where
  iter := fun prog w A E s Q ⟨t, u, v, hr⟩ h => wpAny_pyIter_range hr (small_one h1.1 h1.2.1 h1.2.2.1 h1.2.2.2) h
  keeps := fun h h' ⟨t, u, v, hr⟩ hk => ⟨t, u, v, hk a _ hr⟩
  free := rfl
theorem src_begins {X : Cx} {pins : List (Addr × Obj)} {σ : L2.St} {H : Hp} {s : Shared} (I : Inv X pins σ H s) {k : Src} {x : V} {u : Value} (hv : SrcV X.K H k x) (r : RelV x u) :
    ∃ (o : Obj) (S : Heap → Prop), Begins u o S ∧ S s.heap ∧ (∀ it h, h.get? it = some o → k.st it 0 h) ∧ ∀ a, k.at = some a → a < s.heap.objs.size := by
  cases k with
  | rng lo n =>
    obtain ⟨a, o, hi, rfl, e, rfl, hb⟩ := hv
    obtain rfl : u = Value.ref a := r
    obtain ⟨_, t, u, v, hr⟩ := I.hok a _ e
    refine ⟨_, _, begins_rangeR hb, ⟨t, u, v, hr⟩, fun it h q => ?_, fun a z => nomatch z⟩
    have e1 : lo + ((0 : Nat) : Int) = lo := by simp
    have e2 : (((hi - lo).toNat : Nat) : Int) - ((0 : Nat) : Int) = Builtin.Range.rangeSize lo hi 1 := by rw [rangeSize_one]; split <;> omega
    show IsRangeIter _ _ (lo + ((0 : Nat) : Int)) ((((hi - lo).toNat : Nat) : Int) - ((0 : Nat) : Int)) 1
    rw [e1, e2]; exact q
  | lst a =>
    obtain ⟨rfl, vs, hq⟩ := hv
    obtain rfl : u = Value.ref a := r
    obtain ⟨its, rv, p, _⟩ := I.list hq
    exact ⟨_, _, begins_list a its.toArray, p.isList, fun it h q => ⟨_, q, rfl, rfl⟩, fun b z => by cases z; exact p.lt⟩
  | tup a =>
    obtain ⟨rfl, vs, hq⟩ := hv
    obtain rfl : u = Value.ref a := r
    obtain ⟨its, rv, p, _⟩ := I.tuple hq
    exact ⟨_, _, begins_tuple a its.toArray, p, fun it h q => ⟨_, q, rfl, rfl⟩, fun b z => by cases z; exact p.lt⟩
theorem ZipAp.mk' {k1 k2 : Src} (n : Nat) (h1 : ∀ a, k1.at = some a → a < n) (h2 : ∀ a, k2.at = some a → a < n) : ZipAp k1 k2 (n + 4) (n + 2) (n + 3) n (n + 1) := by
  have ne : ∀ {a b : Nat}, a ≠ b → @Ne Addr a b := fun h => h
  have lt : ∀ {a : Addr}, a < n → @Ne Addr a (n + 4) ∧ @Ne Addr a (n + 3) ∧ @Ne Addr a n ∧ @Ne Addr a (n + 1) := fun {a} h => by
    have h' : @LT.lt Nat _ a n := h
    exact ⟨ne (by omega), ne (by omega), ne (by omega), ne (by omega)⟩
  exact ⟨ne (by omega), ne (by omega), ne (by omega), ne (by omega), ne (by omega), ne (by omega), ne (by omega), ne (by omega), ne (by omega), ne (by omega), fun a z => lt (h1 a z), fun a z => lt (h2 a z)⟩
def iZipS (K : PySem.W.Frag) (ta : TA) : TI := fun σ H R => ta σ H fun vs H1 => ∃ (k1 k2 : Src) (x y : V), vs = [x, y] ∧ SrcV K H1 k1 x ∧ SrcV K H1 k2 y ∧ R (ItzS K k1 k2) H1
theorem pi_zipS {X : Cx} {e e2 : Expr} {ta : TA} {p pos tpos : Pos} {elts : List Expr} {kk : Nat} (hg : Gl X "zip") (hm : X.mg "zip" = none) (ha : PA X [e, e2] ta)
    (hs : starEach [e, e2] X.env = (false, eval e X.env) :: starEach [e2] X.env := by rfl) (hpl : (backTo pos (starEach [e2] X.env)).any (·.1) = false := by rfl) :
    PI X (.Tuple elts kk tpos) (.Call (.Name "zip" p) [e, e2] [] pos) (iZipS X.K ta) := by
  refine ⟨fun pins s σ H R I h => ?_⟩
  refine Call_ (ld_blt I hg hm PyProof.Rows.boot_zip (PyProof.Rows.callWith_type1 (thn (ha.run pos pins s σ H _ I h) fun us s1 ⟨vs, H1, I1, r1, q1⟩ => ?_) hs hpl))
  obtain ⟨k1, k2, x, y, ex, v1, v2, q⟩ := q1
  subst ex
  obtain ⟨u1, u2, rfl, ri, rj⟩ := vals2 r1
  obtain ⟨o1, S1, B1, h1, st1, lt1⟩ := src_begins I1 v1 ri
  obtain ⟨o2, S2, B2, h2, st2, lt2⟩ := src_begins I1 v2 rj
  have fresh5 : ∀ c, c ∈ [s1.heap.objs.size + 4, s1.heap.objs.size + 2, s1.heap.objs.size + 3, s1.heap.objs.size, s1.heap.objs.size + 1] → FpOk X pins H1 c := fun c hcm => by
    have e' : c = s1.heap.objs.size + 4 ∨ c = s1.heap.objs.size + 2 ∨ c = s1.heap.objs.size + 3 ∨ c = s1.heap.objs.size ∨ c = s1.heap.objs.size + 1 := by simpa using hcm
    have hle : s1.heap.objs.size ≤ c := by omega
    exact I1.fpOk hle (I1.hok.fresh hle)
  refine zip_begins2 B1 B2 h1 h2 fun h' hz hTI hTO g1 g2 hsz hk => wpAny_pyIter_zip hz ?_
  have I2 : Inv X pins σ H1 { s1 with heap := h' } := I1.kept (t' := s1.toks) hk
  exact ⟨s1.heap.objs.size + 4, [s1.heap.objs.size + 4, s1.heap.objs.size + 2, s1.heap.objs.size + 3, s1.heap.objs.size, s1.heap.objs.size + 1], _, _, H1, rfl, I2,
    turn_zipS (ZipAp.mk' _ lt1 lt2),
    ⟨hz, hTI, ⟨_, _, hTO⟩, st1 _ _ g1, st2 _ _ g2⟩, fresh5, q⟩
/-- a range as a value, kept as it is -/
theorem cr_rangeF1 {X : Cx} : CallR X (.type "range") (fun vs H Q => ∃ j, vs = [V.int j] ∧ ∀ p (o : Obj), H p = none → Q (.ref p) (upd H p (.frz o (.rng 0 j)))) := by
  intro pins s σ H vs us Q I r h
  obtain ⟨j, rfl, q⟩ := h
  obtain ⟨u1, rfl, rj⟩ := vals1 r
  obtain ⟨u, rfl⟩ := rj
  refine call_range_1 ⟨.ref s.heap.objs.size, upd H s.heap.objs.size (.frz { cls := .type "range", data := .fields #[.int 0 s.toks, .int j u, .int 1 (s.toks + 1)] } (.rng 0 j)), I.laid (t' := s.toks + 1 + 1) (fun b o e => Heap.get?_push_of_some _ e) (Nat.le_refl _) ?_, rfl, q _ _ (I.hok.fresh (Nat.le_refl _))⟩
  exact ⟨Heap.get?_push_size _ rfl, s.toks, u, s.toks + 1, Heap.get?_push_size _ rfl⟩
theorem cr_rangeF2 {X : Cx} : CallR X (.type "range") (fun vs H Q => ∃ i j, vs = [V.int i, V.int j] ∧ ∀ p (o : Obj), H p = none → Q (.ref p) (upd H p (.frz o (.rng i j)))) := by
  intro pins s σ H vs us Q I r h
  obtain ⟨i, j, rfl, q⟩ := h
  obtain ⟨u1, u2, rfl, ri, rj⟩ := vals2 r
  obtain ⟨t, rfl⟩ := ri
  obtain ⟨u, rfl⟩ := rj
  refine call_range_2 ⟨.ref s.heap.objs.size, upd H s.heap.objs.size (.frz { cls := .type "range", data := .fields #[.int i t, .int j u, .int 1 s.toks] } (.rng i j)), I.laid (t' := s.toks + 1) (fun b o e => Heap.get?_push_of_some _ e) (Nat.le_refl _) ?_, rfl, q _ _ (I.hok.fresh (Nat.le_refl _))⟩
  exact ⟨Heap.get?_push_size _ rfl, t, u, s.toks, Heap.get?_push_size _ rfl⟩
/-! ### what is zipped, as plain data -/
inductive ZD
  | rng (lo hi : Int)
  | dat (d : D)
def RZ (K : PySem.W.Frag) (H : Hp) (μ : Mu) : ZD → V → Prop
  | .rng lo hi, v => ∃ (a : Addr) (o : Obj), v = .ref a ∧ a ∉ μ.l ∧ H a = some (.frz o (.rng lo hi))
  | .dat d, v => RV K H μ d v
abbrev MZ := En → Me → Res ZD
abbrev PDZ (X : Cx) (W : WX) (e : Expr) (f : MZ) : Prop := PE X e (tR X.K W (RZ X.K) f)
def zDat (f : ME) : MZ := fun ρ m => (f ρ m).bind fun d m => .ok (.dat d) m
def zRng1 (f : MA) : MZ := fun ρ m => (f ρ m).bind fun ds m => match ds with
  | [.int j] => .ok (.rng 0 j) m
  | _ => .no
def zRng2 (f : MA) : MZ := fun ρ m => (f ρ m).bind fun ds m => match ds with
  | [.int i, .int j] => .ok (.rng i j) m
  | _ => .no
noncomputable def zItems (z : ZD) (m : Me) : Res (List D × (Me → Bool)) := match z with
  | .rng lo hi => if (hi ≤ 1000000 ∧ -1000000 ≤ hi) ∧ lo ≤ 1000000 ∧ -1000000 ≤ lo then .ok (rngL lo (hi - lo).toNat, gdY) m else .no
  | .dat d => asIt d m
noncomputable def iZip (f g : MZ) : MI := fun ρ m => (f ρ m).bind fun z m => (g ρ m).bind fun z' m => (zItems z m).bind fun p m => (zItems z' m).bind fun p' m => .ok (List.zipWith (fun a b => D.tup [a, b]) p.1 p'.1, fun m => p.2 m && p'.2 m) m
/-- a source gives these data as long as the heap goes on -/
def Zok (K : PySem.W.Frag) (H0 : Hp) (μ0 : Mu) (k : Src) (ds : List D) (gd : Me → Bool) : Prop := ∀ H μ m, Tr K H0 μ0 H μ → RH K H μ m → gd m = true → ∃ vs, k.has K H vs ∧ RVs K H μ ds vs
theorem RZ.ext {K : PySem.W.Frag} {H H' : Hp} {μ μ' : Mu} (e : Ext K H μ H' μ') {z : ZD} {v : V} (h : RZ K H μ z v) : RZ K H' μ' z v := by
  cases z with
  | rng lo hi =>
    obtain ⟨a, o, rfl, hn, ha⟩ := h
    obtain ⟨h1, n1⟩ := e.frz a o _ hn ha
    exact ⟨a, o, rfl, n1, h1⟩
  | dat d => exact RV.ext e d v h
theorem zok_of {K : PySem.W.Frag} {H : Hp} {μ : Mu} {m m' : Me} {z : ZD} {v : V} {p : List D × (Me → Bool)} (hH : RH K H μ m) (r : RZ K H μ z v) (e : zItems z m = .ok p m') : m' = m ∧ p.1.length ≤ sizeLine ∧ ∃ k : Src, SrcV K H k v ∧ Zok K H μ k p.1 p.2 := by
  cases z with
  | rng lo hi =>
    simp only [zItems] at e
    split at e
    · rename_i hb
      cases e
      obtain ⟨a, o, rfl, hn, ha⟩ := r
      refine ⟨rfl, rng_len (by omega), .rng lo (hi - lo).toNat, ⟨a, o, hi, rfl, ha, rfl, (small62 hb.2).1, (small62 hb.2).2, (small62 hb.1).1, (small62 hb.1).2⟩, fun H μ m _ _ _ => ⟨_, rfl, ?_⟩⟩
      have : ∀ (n : Nat) (l : List Nat), RVs K H μ (l.map fun (k : Nat) => D.int (lo + k)) (l.map fun (k : Nat) => V.int (lo + k)) := fun n l => by
        induction l with
        | nil => simp [RVs]
        | cons x l ih => simp only [List.map_cons, RVs, RV]; exact ⟨_, _, rfl, rfl, ih⟩
      exact this 0 _
    · cases e
  | dat d =>
    simp only [zItems] at e
    cases d with
    | tup ds =>
      cases e
      simp only [RZ, RV] at r
      obtain ⟨a, vs, rfl, hs, hz, hr⟩ := r
      exact ⟨rfl, by rw [hr.length]; exact hz, .tup a, ⟨rfl, vs, hs.sq⟩, fun H1 μ1 m1 x hH1 _ => ⟨vs, (x.tup a vs hs).sq, RVs.map x _ _ hr⟩⟩
    | lst ds =>
      cases e
      simp only [RZ, RV] at r
      obtain ⟨a, vs, rfl, hn, hs, hz, hr⟩ := r
      exact ⟨rfl, by rw [hr.length]; exact hz, .lst a, ⟨rfl, vs, .of hs⟩, fun H1 μ1 m1 x hH1 _ => ⟨vs, SqL.ext x hn hs, RVs.map x _ _ hr⟩⟩
    | ref i =>
      simp only [RZ, RV] at r
      obtain ⟨a, rfl, ha⟩ := r
      unfold asIt at e
      cases e2 : m[i]? with
      | none => simp only [e2] at e; cases e
      | some c =>
        cases c with
        | lst ds =>
          simp only [e2] at e
          cases e
          obtain ⟨a', e', vs, h1, hz, r2⟩ := hH.at' i _ e2
          rw [ha] at e'; cases e'
          refine ⟨rfl, by rw [r2.length]; exact hz, .lst a, ⟨rfl, vs, .of h1⟩, fun H1 μ1 m1 x hH1 g => ?_⟩
          have g' : m1[i]? = some (.lst ds) := @of_decide_eq_true _ (Classical.propDecidable _) g
          obtain ⟨a', e, vs, h1, hz, r1⟩ := hH1.at' i _ g'
          rw [x.get i a ha] at e; cases e
          exact ⟨vs, .of h1, r1⟩
        | _ => simp only [e2] at e; cases e
    | _ => simp only [asIt] at e; cases e
theorem goes_zip {K : PySem.W.Frag} {H : Hp} {μ : Mu} {k1 k2 : Src} {ds1 ds2 : List D} {g1 g2 : Me → Bool} (z1 : Zok K H μ k1 ds1 g1) (z2 : Zok K H μ k2 ds2 g2) :
    Goes1 K (ItzS K k1 k2) H μ (List.zipWith (fun a b => D.tup [a, b]) ds1 ds2) fun m => g1 m && g2 m := by
  intro H1 μ1 m x hH g
  simp only [Bool.and_eq_true] at g
  obtain ⟨vs1, h1, r1⟩ := z1 H1 μ1 m x hH g.1
  obtain ⟨vs2, h2, r2⟩ := z2 H1 μ1 m x hH g.2
  have l1 := r1.length
  have l2 := r2.length
  refine ⟨fun i d e => ?_, vs1, vs2, h1, h2, ?_, ?_, ?_⟩
  · obtain ⟨d1, d2, e1, e2, rfl⟩ := List.getElem?_zipWith_eq_some.mp e
    obtain ⟨v1, q1, w1⟩ := r1.get e1
    obtain ⟨v2, q2, w2⟩ := r2.get e2
    refine ⟨⟨vs1, vs2, h1, h2, (List.getElem?_eq_some_iff.mp q1).1, (List.getElem?_eq_some_iff.mp q2).1⟩, ?_⟩
    rintro v H' ⟨T, o, y1, y2, rfl, hT, po, rfl, f1, f2⟩
    have e1 := f1 vs1 h1
    have e2 := f2 vs2 h2
    rw [q1] at e1; cases e1
    rw [q2] at e2; cases e2
    have ex := Ext.new (o := .frz o (.tup [v1, v2])) hH hT
    refine ⟨ex, hH.new hT, ?_⟩
    simp only [RV]
    refine ⟨T, [v1, v2], rfl, .inl ⟨o, upd_same, po⟩, by rw [sizeLine_eq]; simp, ?_⟩
    simp only [RVs]
    exact ⟨_, _, rfl, RV.ext ex _ _ w1, _, _, rfl, RV.ext ex _ _ w2, rfl⟩
  all_goals simp only [List.length_zipWith]; omega
section
variable {X : Cx} {W : WX} {e e2 a b : Expr} {p pos tpos : Pos} {elts : List Expr} {kk : Nat}
theorem pdz_dat {f : ME} (h : PD X W e f) : PDZ X W e (zDat f) :=
  h.imp fun σ H Q ⟨μ, ρ, m, hH, hS, q⟩ => seqR q hH hS fun d m1 v H1 μ1 e1 hH1 r1 hS1 q1 => q1 v H1 μ1 .refl hH1 r1
theorem pdz_range1 {f : MA} (hg : Gl X "range") (hm : X.mg "range" = none) (ha : PDA X W 1 [a] f)
    (he : starEach [a] X.env = (false, eval a X.env) :: starEach [] X.env := by rfl) (hpl : (backTo pos (starEach [] X.env)).any (·.1) = false := by rfl) : PDZ X W (.Call (.Name "range" p) [a] [] pos) (zRng1 f) :=
  PE.imp (pe_callTy cr_rangeF1 hg hm boot_range ha (by decide) (by decide) he hpl) fun σ H Q ⟨μ, ρ, m, hH, hS, q⟩ => seqR q hH hS fun ds m1 vs H1 μ1 e1 hH1 r1 hS1 q1 => by
    split at q1
    · rename_i j
      refine ⟨j, ints1 r1.1, fun l o hp => ?_⟩
      have ex := Ext.new (o := .frz o (.rng 0 j)) hH1 hp
      exact q1 _ _ μ1 ex (hH1.new hp) ⟨l, o, rfl, hH1.notin hp, upd_same⟩
    · exact q1.elim
theorem pdz_range2 {f : MA} (hg : Gl X "range") (hm : X.mg "range" = none) (ha : PDA X W 2 [a, b] f)
    (he : starEach [a, b] X.env = (false, eval a X.env) :: starEach [b] X.env := by rfl) (hpl : (backTo pos (starEach [b] X.env)).any (·.1) = false := by rfl) : PDZ X W (.Call (.Name "range" p) [a, b] [] pos) (zRng2 f) :=
  PE.imp (pe_callTy cr_rangeF2 hg hm boot_range ha (by decide) (by decide) he hpl) fun σ H Q ⟨μ, ρ, m, hH, hS, q⟩ => seqR q hH hS fun ds m1 vs H1 μ1 e1 hH1 r1 hS1 q1 => by
    split at q1
    · rename_i i j
      refine ⟨i, j, ints2 r1.1, fun l o hp => ?_⟩
      have ex := Ext.new (o := .frz o (.rng i j)) hH1 hp
      exact q1 _ _ μ1 ex (hH1.new hp) ⟨l, o, rfl, hH1.notin hp, upd_same⟩
    · exact q1.elim
theorem pdi_zip {f g : MZ} (hg : Gl X "zip") (hm : X.mg "zip" = none) (h1 : PDZ X W e f) (h2 : PDZ X W e2 g)
    (hs : starEach [e, e2] X.env = (false, eval e X.env) :: starEach [e2] X.env := by rfl) (hs2 : starEach [e2] X.env = (false, eval e2 X.env) :: starEach [] X.env := by rfl) (hpl : (backTo pos (starEach [e2] X.env)).any (·.1) = false := by rfl) :
    PDI X W (.Tuple elts kk tpos) (.Call (.Name "zip" p) [e, e2] [] pos) (iZip f g) :=
  PI.imp (pi_zipS hg hm (pa_cons h1 (pa_cons h2 pa_nil hs2) hs) hs hpl) fun σ H R ⟨μ, ρ, m, hH, hS, q⟩ => by
    refine seqR q hH hS fun z m1 v H1 μ1 e1 hH1 r1 hS1 q1 => ?_
    refine seqR q1 hH1 hS1 fun z' m2 v' H2 μ2 e2 hH2 r2 hS2 q2 => ?_
    have r1 := r1.ext e2
    cases i1 : zItems z m2 with
    | no => rw [i1] at q2; exact q2.elim
    | exc x m => cases z with
      | rng lo hi => simp only [zItems] at i1; split at i1 <;> cases i1
      | dat d => cases d <;> simp only [zItems, asIt] at i1 <;> try cases i1
                 split at i1 <;> cases i1
    | ok p m3 =>
      obtain ⟨rfl, lz, k1, s1, o1⟩ := zok_of hH2 r1 i1
      rw [i1] at q2
      simp only [Res.bind_ok] at q2
      cases i2 : zItems z' m3 with
      | no => rw [i2] at q2; exact q2.elim
      | exc x m => cases z' with
        | rng lo hi => simp only [zItems] at i2; split at i2 <;> cases i2
        | dat d => cases d <;> simp only [zItems, asIt] at i2 <;> try cases i2
                   split at i2 <;> cases i2
      | ok p' m4 =>
        obtain ⟨rfl, lz2, k2, s2, o2⟩ := zok_of hH2 r2 i2
        rw [i2] at q2
        exact ⟨k1, k2, v, v', rfl, s1, s2, q2 _ H2 μ2 .refl hH2 ⟨by simp only [List.length_zipWith]; omega, goes_zip o1 o2⟩⟩
end
end FL

set_option maxRecDepth 100000
namespace FL
open PySem PySem.Spec PyProof.Rows L2

/-! ### lists that will change, made by a comprehension or of a range -/
theorem Tr.show {K : PySem.W.Frag} {H : Hp} {l h : List Addr} {A : Addr} : Tr K H ⟨l, A :: h⟩ H ⟨l ++ [A], h⟩ := by
  have key : ∀ {a}, a ∉ l ∧ a ∉ A :: h → a ∉ l ++ [A] ∧ a ∉ h := fun {a} n => ⟨fun z => by
    rcases List.mem_append.mp z with z | z
    · exact n.1 z
    · exact n.2 (by rw [List.mem_singleton.mp z]; exact List.mem_cons_self), fun z => n.2 (List.mem_cons_of_mem _ z)⟩
  exact ⟨fun i a q => by rw [List.getElem?_append_left (List.getElem?_eq_some_iff.mp q).1]; exact q, fun _ _ q => q, fun a u n _ q => ⟨q, key n⟩, fun a o u n q => ⟨q, key n⟩, fun a kvs n q => ⟨.inl q, key n⟩, fun _ _ _ q => q⟩
theorem RH.show {K : PySem.W.Frag} {H : Hp} {l h : List Addr} {A : Addr} {m : Me} {ys : List D} {vs : List V} (z2 : RH K H ⟨l, A :: h⟩ m) (z3 : H A = some (.lst vs)) (z4 : A ∉ l) (z5 : RVs K H ⟨l, A :: h⟩ ys vs) (z6 : vs.length ≤ sizeLine) (nh : A ∉ h) : RH K H ⟨l ++ [A], h⟩ (m ++ [.lst ys]) := by
  have hl : l.length = m.length := z2.len
  refine ⟨by simp [hl], List.nodup_append.mpr ⟨z2.nd, by simp, fun a ha b hb z => ?_⟩, fun i c q => ?_, fun a z => z2.hid a (List.mem_cons_of_mem _ z), fun a z y => ?_⟩
  · rw [List.mem_singleton.mp hb] at z; rw [z] at ha; exact z4 ha
  · by_cases hi : i < m.length
    · rw [List.getElem?_append_left hi] at q
      obtain ⟨a, e, rc⟩ := z2.at' i c q
      exact ⟨a, by rw [List.getElem?_append_left (by show i < l.length; omega)]; exact e, rc.map Tr.show rfl⟩
    · rw [List.getElem?_append_right (by omega)] at q
      have hi0 : i = m.length := by
        have := (List.getElem?_eq_some_iff.mp q).1
        simp at this; omega
      subst hi0
      simp at q; subst q
      exact ⟨A, by rw [List.getElem?_append_right (by omega), hl]; simp, vs, z3, z6, RVs.map Tr.show _ _ z5⟩
  · rcases List.mem_append.mp z with z | z
    · exact z2.sep a z (List.mem_cons_of_mem _ y)
    · rw [List.mem_singleton.mp z] at y; exact nh y
theorem Ext.show {K : PySem.W.Frag} {H H' : Hp} {μ : Mu} {l : List Addr} {A : Addr} (x : Ext K H μ H' ⟨l, μ.h⟩) (n : H A = none) : Ext K H μ H' ⟨l ++ [A], μ.h⟩ := by
  obtain ⟨p, e⟩ := x.pre
  have e' : l = μ.l ++ p := e
  have key : ∀ {a u}, H a = some u → a ∉ l → a ∉ l ++ [A] := fun {a u} q na z => by
    rcases List.mem_append.mp z with z | z
    · exact na z
    · rw [List.mem_singleton.mp z, n] at q; cases q
  exact ⟨⟨p ++ [A], by simp [e']⟩, rfl, x.tup, fun a u na d q => let ⟨h1, h2⟩ := x.dat a u na d q; ⟨h1, key q h2⟩, fun a o u na q => let ⟨h1, h2⟩ := x.frz a o u na q; ⟨h1, key q h2⟩, fun a kvs na q => let ⟨h1, h2⟩ := x.dct a kvs na q; ⟨h1, key q h2⟩, x.fz, x.xd⟩
def mCompC (it : MI) (vs : List Nat) (gt : D → En → Option En) (c : MT) (e : ME) : ME := fun ρ m => (it ρ m).bind fun p m => (noX (compF gt c e p.2 (wipeD ρ vs) p.1 m)).bind fun ys m => .ok (.ref m.length) (m ++ [.lst ys])
section
variable {X : Cx} {W : WX} {elt tg iter c e : Expr} {scope : Scope} {own : List (Str × Nat)} {pos p2 : Pos} {it : MI} {g : TG} {is : List Nat} {gt : D → En → Option En} {fc : MT} {fe : ME}
theorem comp_impC (ht : TgOk X.K g is gt) (hin : ∀ i ∈ is, i ∈ own.map (·.2)) : ∀ σ H Q, tR X.K W (RVv X.K) (mCompC it (own.map (·.2)) gt fc fe) σ H Q → tLc (tR X.K W (RIt X.K) it) g (tR X.K WF RVB fc) (tR X.K WF (RVv X.K) fe) (own.map (·.2)) σ H Q := by
  rintro σ H Q ⟨μ, ρ, m, hH, hS, q⟩
  refine seqR q hH hS fun pr m1 J H1 μ1 e1 hH1 r1 hS1 q1 => ?_
  obtain ⟨ds, gd⟩ := pr
  refine comp_core ht hin r1.1 r1.2 hH1 hS1 fun A nA => ?_
  dsimp only at q1
  cases e : compF gt fc fe gd (wipeD ρ (own.map (·.2))) ds m1 with
  | no => simp only [e] at q1; exact q1.elim
  | exc x mm => simp only [e] at q1; exact q1.elim
  | ok ys m2 =>
    simp only [e, noX_ok, Res.bind_ok] at q1
    intro H' l' vs z1 z2 z3 z4 z5 z6
    have z5' : RVs X.K H' ⟨l', A :: μ1.h⟩ ys vs := by simpa using z5
    refine q1 _ H' ⟨l' ++ [A], μ1.h⟩ (z1.show nA) (z2.show z3 z4 z5' z6 fun z => hH1.hid A z nA) ?_
    simp only [RV]
    have hl : l'.length = m2.length := z2.len
    exact ⟨A, rfl, by rw [List.getElem?_append_right (by omega), hl]; simp⟩
theorem pd_lcC {ifs : List Expr} (hc : X.calm = true) (hN : X.N.Nodup) (hi : PDI X W tg iter it) (ok : BlkOk X.N X.env.scope scope own) (ht : TgOk X.K g is gt) (hin : ∀ i ∈ is, i ∈ own.map (·.2))
    (hg : ∀ (s : Shared) (H : Hp) (C : Addr) (cl : List (Str × Addr)) (fp : List Addr), PG (X.blk s H scope (compEnvC scope cl C X.env) fp) tg g) (hif : ∀ (s : Shared) (H : Hp) (C : Addr) (cl : List (Str × Addr)) (fp : List Addr), PTs (X.blk s H scope (compEnvC scope cl C X.env) fp) ifs (tR X.K WF RVB fc))
    (he : ∀ (s : Shared) (H : Hp) (C : Addr) (cl : List (Str × Addr)) (fp : List Addr), PD (X.blk s H scope (compEnvC scope cl C X.env) fp) WF elt fe) (hs : ∀ x, foldedSetIterable iter X.env x = pure x := by intro _; rfl) :
    PD X W (.ListComp elt [⟨tg, iter, ifs, 0⟩] scope pos) (mCompC it (own.map (·.2)) gt fc fe) :=
  PE.imp (pe_lc hc hN hi ok hg hif he hs) (comp_impC ht hin)
theorem pds_setLcC {ifs : List Expr} (i : Nat) {y : Str} {py spos : Pos} (hc : X.calm = true) (hN : X.N.Nodup) (hi : PDI X W tg iter it) (ok : BlkOk X.N X.env.scope scope own) (ht : TgOk X.K g is gt) (hin : ∀ i ∈ is, i ∈ own.map (·.2))
    (hg : ∀ (s : Shared) (H : Hp) (C : Addr) (cl : List (Str × Addr)) (fp : List Addr), PG (X.blk s H scope (compEnvC scope cl C X.env) fp) tg g) (hif : ∀ (s : Shared) (H : Hp) (C : Addr) (cl : List (Str × Addr)) (fp : List Addr), PTs (X.blk s H scope (compEnvC scope cl C X.env) fp) ifs (tR X.K WF RVB fc))
    (he : ∀ (s : Shared) (H : Hp) (C : Addr) (cl : List (Str × Addr)) (fp : List Addr), PD (X.blk s H scope (compEnvC scope cl C X.env) fp) WF elt fe)
    (hsw : swapsWith (.ListComp elt [⟨tg, iter, ifs, 0⟩] scope pos) (some (.Name y py)) spos.line X.env = pure true) (hy : X.N[i]? = some y := by rfl) (hyl : X.env.scope.names.lookup y = some .local := by rfl) (hs : ∀ x, foldedSetIterable iter X.env x = pure x := by intro _; rfl) :
    PDS X W (.Assign [.Name y py] (.ListComp elt [⟨tg, iter, ifs, 0⟩] scope pos) spos) (sSet i (mCompC it (own.map (·.2)) gt fc fe)) :=
  PS.imp (ps_setLc hc hN hy hyl hsw hi ok hg hif he hs) fun D σ H ⟨μ, ρ, m, hH, hS, q⟩ =>
    comp_impC ht hin σ H _ (seqS q hH hS fun d m1 v H1 μ1 e1 hH1 r1 hS1 q1 => q1 _ H1 μ1 .refl hH1 (hS1.set r1 i))
def mLstRgC (g : En → Me → Res (Int × Int)) : ME := fun ρ m => (g ρ m).bind fun p m => if (p.1 ≤ 1000000 ∧ -1000000 ≤ p.1) ∧ p.2 ≤ 1000000 ∧ -1000000 ≤ p.2 then .ok (.ref m.length) (m ++ [.lst (rngL p.1 (p.2 - p.1).toNat)]) else .no
theorem pd_lstRgC {g : En → Me → Res (Int × Int)} (hc : X.calm = true) (hg : Gl X "list") (hm : X.mg "list" = none) (h : PDRg X W e g) (na : starEach [e] X.env = (false, eval e X.env) :: starEach [] X.env := by rfl) :
    PD X W (.Call (.Name "list" p2) [e] [] pos) (mLstRgC g) := by
  obtain ⟨te, h1, h2⟩ := h
  refine PE.imp (pe_listRg hc hg hm h1 na) fun σ H Q ⟨μ, ρ, m, hH, hS, q⟩ => h2 σ H _ ?_
  refine seqR q hH hS fun pr m1 pr' H1 μ1 e1 hH1 r1 hS1 q1 => ?_
  subst r1
  split at q1
  case isFalse => exact q1.elim
  rename_i hb
  refine ⟨rg_ok hb, fun p hp => ?_⟩
  have ex := Ext.cell (o := .lst (rgV pr.1 pr.2)) hH1 hp
  refine q1 _ _ (μ1.add p) ex (hH1.cell hp ⟨_, upd_same, rgV_line hb, rg_rv _ _⟩) ?_
  simp only [RV]
  exact ⟨p, rfl, by simp [Mu.add, ← hH1.len]⟩
end
end FL

set_option maxRecDepth 100000
namespace FL
open PySem PySem.Spec PyProof.Rows L2

/-! ### sorted(xs), xs a list or a tuple of data that can be compared -/
abbrev DV := V × PyData
def dvLe : DV → DV → Bool := PySem.W.dataLe false (fun b : DV => b.2)
def rSortG (K : PySem.W.Frag) : List V → Hp → VK → Prop := fun vs H Q => ∃ (a : Addr) (bs : List DV), vs = [.ref a] ∧ SqL K H a (bs.map (·.1)) ∧ (∀ b ∈ bs, Dp K H b.1 b.2 ∧ b.2.depth ≤ 60) ∧ PySem.W.AllAlike (bs.map (·.2)) ∧ PySem.W.Sortable (bs.map (·.2)) ∧ bs.length ≤ 1000000 ∧
  ∀ p, H p = none → Q (.ref p) (upd H p (.lst ((bs.mergeSort dvLe).map (·.1))))
theorem each_dv {X : Cx} {pins : List (Addr × Obj)} {σ : L2.St} {H : Hp} {s : Shared} (I : Inv X pins σ H s) : ∀ {vs : List Value} {bs : List DV}, Vals (bs.map (·.1)) vs → (∀ b ∈ bs, Dp X.K H b.1 b.2) → PySem.W.EachIs (fun u (b : DV) => RelV b.1 u) vs bs ∧ PySem.W.EachIs (fun u (b : DV) => ∃ as, Reads s.heap u b.2 as) vs bs
  | _, [], r, _ => by cases r; exact ⟨.nil, .nil⟩
  | _, b :: bs, r, h => by
    cases r with
    | cons r1 r2 =>
      obtain ⟨e1, e2⟩ := each_dv I r2 fun x hx => h x (List.mem_cons_of_mem _ hx)
      exact ⟨.cons r1 e1, .cons (Dp.reads I _ _ _ (h b List.mem_cons_self) r1) e2⟩
theorem each_vals : ∀ {vs : List Value} {bs : List DV}, PySem.W.EachIs (fun u (b : DV) => RelV b.1 u) vs bs → Vals (bs.map (·.1)) vs
  | _, _, .nil => .nil
  | _, _, .cons r t => .cons r (each_vals t)
theorem cr_sortedG {X : Cx} (hu : X.A.units + 64 < cLine) : CallR X (.builtin "sorted") (rSortG X.K) := by
  intro pins s σ H xs us Q I r h
  obtain ⟨a, bs, rfl, hq, hb, hal, hs, hz, q⟩ := h
  obtain ⟨u, rfl, ru⟩ := vals1 r
  cases ru
  obtain ⟨its, rv, p, _⟩ := I.list hq
  obtain ⟨e1, e2⟩ := each_dv I rv fun b hb' => (hb b hb').1
  refine PySem.W.sorted_data (enc := fun b : DV => b.2) p.isList e1 e2 hal hs (by rw [sizeLine_eq]; omega) (fun b hb' => by have := (hb b hb').2; omega) fun out hl eo => ?_
  obtain ⟨ep, he'⟩ := PyProof.Rows.sortedAll_at s.heap its out.toArray
  have hv := each_vals eo
  have hlen : ((bs.mergeSort dvLe).map (·.1)).length ≤ sizeLine := by rw [List.length_map, List.length_mergeSort, sizeLine_eq]; omega
  exact ⟨.ref _, upd H (s.heap.objs.size + 1) (.lst ((bs.mergeSort dvLe).map (·.1))), I.laid (t' := s.toks) (fun _ _ => PyProof.Rows.sortedAll_old) (Nat.le_succ _) ⟨hlen, out, ep, hv, he'⟩, rfl, q _ (I.hok.fresh (Nat.le_succ _))⟩

/-! ### sorted, as plain data -/
noncomputable def enc (d : D) : PyData := (py d).getD .none
noncomputable def leD : D → D → Bool := PySem.W.dataLe false enc
structure OkSort (xs : List D) : Prop where
  py : ∀ x ∈ xs, (py x).isSome = true ∧ (enc x).depth ≤ 60
  al : PySem.W.AllAlike (xs.map enc)
  st : PySem.W.Sortable (xs.map enc)
  few : xs.length ≤ 1000000
open Classical in
noncomputable def gSort (ds : List D) (m : Me) : Res D := match ds with
  | [d] => match lstV m d with
    | some xs => if OkSort xs then .ok (.lst (xs.mergeSort leD)) m else .no
    | none => .no
  | _ => .no
theorem rvs_pairs {K : PySem.W.Frag} {H : Hp} {μ : Mu} : ∀ {ts : List (D × V)}, (∀ t ∈ ts, RV K H μ t.1 t.2) → RVs K H μ (ts.map (·.1)) (ts.map (·.2))
  | [], _ => by simp [RVs]
  | t :: ts, h => by
    simp only [List.map_cons, RVs]
    exact ⟨_, _, rfl, h t List.mem_cons_self, rvs_pairs fun x hx => h x (List.mem_cons_of_mem _ hx)⟩
theorem pairs_rvs {K : PySem.W.Frag} {H : Hp} {μ : Mu} : ∀ {ds : List D} {vs : List V}, RVs K H μ ds vs → ∃ ts : List (D × V), ds = ts.map (·.1) ∧ vs = ts.map (·.2) ∧ ∀ t ∈ ts, RV K H μ t.1 t.2
  | [], vs, r => by simp only [RVs] at r; subst r; exact ⟨[], rfl, rfl, fun _ h => nomatch h⟩
  | d :: ds, vs, r => by
    simp only [RVs] at r
    obtain ⟨v, w, rfl, r1, r2⟩ := r
    obtain ⟨ts, rfl, rfl, h⟩ := pairs_rvs r2
    exact ⟨(d, v) :: ts, rfl, rfl, fun t ht => by
      rcases List.mem_cons.mp ht with rfl | ht
      · exact r1
      · exact h t ht⟩
theorem enc_dp {K : PySem.W.Frag} {H : Hp} {μ : Mu} {d : D} {v : V} (r : RV K H μ d v) (h : (py d).isSome = true) : Dp K H v (enc d) := by
  obtain ⟨p, hp⟩ := Option.isSome_iff_exists.mp h
  have : enc d = p := by unfold enc; rw [hp]; rfl
  rw [this]
  exact dp_of d v p r hp
theorem g_sort {K : PySem.W.Frag} : GC K (rSortG K) gSort := fun Ex H μ m ds vs Q hH rr q => by
  unfold gSort at q
  split at q
  case h_2 => exact q.elim
  rename_i d
  obtain ⟨v, rfl, r⟩ := rvs1 rr
  split at q
  case h_2 => exact q.elim
  rename_i xs e
  split at q
  case isFalse => exact q.elim
  rename_i ok
  obtain ⟨a, vs, rfl, ha, hz, hr⟩ := lstV_of hH r e
  obtain ⟨ts, rfl, rfl, ht⟩ := pairs_rvs hr
  refine ⟨a, ts.map fun t => (t.2, enc t.1), rfl, ?_, ?_, ?_, ?_, ?_, fun p hp => ?_⟩
  · rw [List.map_map]; exact .of ha
  · intro b hb
    obtain ⟨t, h1, rfl⟩ := List.mem_map.mp hb
    obtain ⟨h2, h3⟩ := ok.py t.1 (List.mem_map_of_mem h1)
    exact ⟨enc_dp (ht t h1) h2, h3⟩
  · have := ok.al; rw [List.map_map] at this ⊢; exact this
  · have := ok.st; rw [List.map_map] at this ⊢; exact this
  · have := ok.few; simpa using this
  · have e1 : ((ts.map fun t => (t.2, enc t.1)).mergeSort dvLe) = (ts.mergeSort fun a b => leD a.1 b.1).map fun t => (t.2, enc t.1) :=
      (List.map_mergeSort (r := fun a b : D × V => leD a.1 b.1) (f := fun t : D × V => (t.2, enc t.1)) (fun a _ b _ => rfl)).symm
    have e2 : (ts.map (·.1)).mergeSort leD = (ts.mergeSort fun a b => leD a.1 b.1).map (·.1) := (List.map_mergeSort (r := fun a b : D × V => leD a.1 b.1) (f := fun t : D × V => t.1) (fun a _ b _ => rfl)).symm
    rw [e1, List.map_map]
    have ex := Ext.new (o := .lst ((ts.mergeSort fun a b => leD a.1 b.1).map ((fun b : DV => b.1) ∘ fun t => (t.2, enc t.1)))) hH hp
    refine q _ _ μ ex (hH.new hp) ?_
    rw [e2]
    simp only [RV]
    refine ⟨p, _, rfl, ⟨hH.notin hp, fun z => hH.hid _ z hp⟩, upd_same, ?_, ?_⟩
    · rw [List.length_map, List.length_mergeSort]; rw [List.length_map] at hz; exact hz
    · exact RVs.ext ex _ _ (rvs_pairs fun t h => ht t ((List.mergeSort_perm ts _).mem_iff.mp h))

/-! ### sorted(d.items()) -/
/-- data without lists -/
def noL : PyData → Bool
  | .int _ => true
  | .str _ => true
  | .none => true
  | .bool _ => true
  | _ => false
theorem reads_noL {h : Heap} {v : Value} {d : PyData} {as : List Addr} (r : Reads h v d as) (n : noL d = true) : as = [] := by
  cases r <;> first | rfl | cases n
def encK : Key → PyData
  | .inl i => .int i
  | .inr x => .str x
/-- a pair of a dict as it is sorted -/
abbrev KVP := Key × V × PyData
def kvEnc (b : KVP) : PyData := .tuple [encK b.1, b.2.2]
def kvLe : KVP → KVP → Bool := PySem.W.dataLe false kvEnc
abbrev pairO (k v : Value) : Obj := { cls := .type "tuple", data := .seq #[k, v] }
def rSortIt2 (K : PySem.W.Frag) : V → Hp → VK → Prop := fun x H Q => ∃ (d : Addr) (bs : List KVP), x = .ref d ∧ Rd H d (.dK (bs.map fun b => (b.1, b.2.1))) ∧ (∀ b ∈ bs, Dp K H b.2.1 b.2.2 ∧ noL b.2.2 = true) ∧ PySem.W.AllAlike (bs.map kvEnc) ∧ bs.length ≤ 1000000 ∧
  ∀ (H' : Hp) (p : Addr) (ts : List (Addr × KVP)), (∀ b o, H b = some o → H' b = some o) → H p = none → ts.map (·.2) = bs.mergeSort kvLe → H' p = some (.lst (ts.map fun t => V.ref t.1)) → (∀ t ∈ ts, ∃ o, PlO o ∧ H t.1 = none ∧ H' t.1 = some (.frz o (.tup [kV t.2.1, t.2.2.1]))) → Q (.ref p) H'
theorem pairs_get {P : Program} {w : World} {es : List DictEntry} {vs : List (Key × Value)} (h : PySem.Pairs (mixKind P w) es vs) : ∀ {j : Nat} {en : DictEntry}, es[j]? = some en → ∃ k v, vs[j]? = some (k, v) ∧ keyIs k en.key = true ∧ en.val = v := by
  induction h with
  | nil => intro j en e; cases e
  | cons h1 h2 _ ih =>
    intro j en e
    cases j with
    | zero => cases e; exact ⟨_, _, rfl, h1, h2⟩
    | succ j => exact ih e
theorem takeF {X : Cx} {pins : List (Addr × Obj)} {σ : L2.St} {H0 : Hp} {s : Shared} {h' : Heap} {tk : Nat} (I0 : Inv X pins σ H0 s) : ∀ (L : List (Addr × Obj × List V)) (H1 : Hp), Inv X pins σ H1 { s with heap := h', toks := tk } → (L.map (·.1)).Nodup →
    (∀ a ∈ L, s.heap.objs.size ≤ a.1 ∧ H1 a.1 = none ∧ ∀ H2, ObjOk X.prog X.w H2 h' a.1 (.frz a.2.1 (.tup a.2.2))) →
    ∃ H2, Inv X pins σ H2 { s with heap := h', toks := tk } ∧ (∀ b o, H1 b = some o → H2 b = some o) ∧ ∀ a ∈ L, H2 a.1 = some (.frz a.2.1 (.tup a.2.2))
  | [], H1, I1, _, _ => ⟨H1, I1, fun _ _ e => e, fun _ h => nomatch h⟩
  | a :: L, H1, I1, hn, h => by
    obtain ⟨hb, hnone, ok⟩ := h a (List.mem_cons_self ..)
    have I2 : Inv X pins σ (upd H1 a.1 (.frz a.2.1 (.tup a.2.2))) { s with heap := h', toks := tk } := I1.take (h' := h') (t' := tk) (fun b ob _ e => e) (I0.fpOk hb hnone) (ok _)
    rw [List.map_cons, List.nodup_cons] at hn
    obtain ⟨H2, I3, g, q⟩ := takeF I0 L _ I2 hn.2 fun c hc => by
      obtain ⟨c1, c2, c3⟩ := h c (List.mem_cons_of_mem _ hc)
      exact ⟨c1, by rw [upd_ne (fun z => hn.1 (by rw [← z]; exact List.mem_map_of_mem hc))]; exact c2, c3⟩
    refine ⟨H2, I3, fun b o e => g b o (by rw [upd_ne (ne_of_none e hnone)]; exact e), fun c hc => ?_⟩
    rcases List.mem_cons.mp hc with rfl | hc
    · exact g _ _ upd_same
    · exact q c hc
theorem each_ix {α β : Type} {R : α → β → Prop} : ∀ {xs : List α} {ys : List β}, xs.length = ys.length → (∀ (j : Nat) (x : α) (y : β), xs[j]? = some x → ys[j]? = some y → R x y) → PySem.W.EachIs R xs ys
  | [], [], _, _ => .nil
  | [], _ :: _, h, _ => by simp at h
  | _ :: _, [], h, _ => by simp at h
  | x :: xs, y :: ys, h, f => .cons (f 0 x y rfl rfl) (each_ix (by simpa using h) fun j a b e1 e2 => f (j + 1) a b (by simpa using e1) (by simpa using e2))
theorem ix_each {α β : Type} {R : α → β → Prop} {xs : List α} {ys : List β} (e : PySem.W.EachIs R xs ys) : xs.length = ys.length ∧ ∀ (j : Nat) (y : β), ys[j]? = some y → ∃ x, xs[j]? = some x ∧ R x y := by
  induction e with
  | nil => exact ⟨rfl, fun j y h => by simp at h⟩
  | cons h _ ih =>
    refine ⟨by simp [ih.1], fun j y hy => ?_⟩
    cases j with
    | zero => cases hy; exact ⟨_, rfl, h⟩
    | succ j => exact ih.2 j y (by simpa using hy)
section
variable {X : Cx} {e : Expr} {te : TE} {p apos cpos pos : Pos}
theorem pe_sortItems (hc : X.calm = true) (hu : X.A.units + 64 < cLine) (he : PE X e te) (hg : Gl X "sorted") (hm : X.mg "sorted" = none) (hv : bootBuiltins "sorted" = some (.builtin "sorted")) (hbase : attributeBase e "items" X.env (eval e X.env) = eval e X.env := by rfl) (hline : (apos.endLine == cpos.line) = true := by rfl)
    (hs : starEach [.Call (.Attribute e "items" apos) [] [] cpos] X.env = (false, eval (.Call (.Attribute e "items" apos) [] [] cpos) X.env) :: starEach [] X.env := by rfl) :
    PE X (.Call (.Name "sorted" p) [.Call (.Attribute e "items" apos) [] [] cpos] [] pos) (fun σ H Q => te σ H fun x H1 => rSortIt2 X.K x H1 Q) := by
  refine ⟨fun pins s σ H Q I hq => ?_⟩
  refine wpAny_Call_Name_kw (ld_blt I hg hm hv ?_)
  refine PyProof.Rows.callWith_builtin1 ?_ hs rfl
  rw [hs]
  show wpAny _ _ (spliced ((false, eval (.Call (.Attribute e "items" apos) [] [] cpos) X.env) :: backTo pos (starEach [] X.env))) _ _ s
  refine Calls.spliced_cons ?_
  refine wpAny_Call_method (T := "dict") (id := "dict.items") hbase rfl hline F.plainAttrs_dict F.slot_dict_items F.type_dict_items (thn (he.run pins s σ H _ I hq) fun u s1 ⟨x, H1, I1, rx, d, bs, ex, hd, hb, hal, hfew, q⟩ => ?_)
  subst ex
  obtain rfl : u = Value.ref d := rx
  obtain ⟨hz, hs0, vs, kv, hdo⟩ := hd.ok I1.hok
  have lk : (bs.map fun b => (b.1, b.2.1)).length = vs.length := Paired.length kv
  rw [List.length_map] at lk
  have I2 : Inv X pins σ H1 { s1 with heap := s1.heap.push { cls := .type "dict_items", data := .fields #[.ref d] } } := I1.kept (t' := s1.toks) fun b ob q => Heap.get?_push_of_some _ q
  refine ⟨hdo.typeIs, hdo.mapOf.noDict, ?_⟩
  show wpAny _ _ (callWith cpos (.builtin "dict.items") [.ref d] [] []) _ X.xe s1
  refine method_meetsIn F.slot_dict_items F.entry_dict_items rfl (PySem.evalArgs_none ⟨rfl, hdo.typeIs, F.args_dict_items_1 _, _, meets_dict_items (mixKind X.prog X.w) d hs0, ⟨vs, hdo⟩, ?_⟩)
  refine Calls.spliced_nil ?_
  obtain ⟨o, es, ep, ho, hx, hdat, hko, hpr, hnd⟩ := hdo
  have les : es.size = vs.length := by
    have : ∀ {l : List DictEntry} {vs : List (Key × Value)}, PySem.Pairs (mixKind X.prog X.w) l vs → l.length = vs.length := fun {l vs} h => by induction h with | nil => rfl | cons _ _ _ ih => simp [ih]
    rw [← Array.length_toList]; exact this hpr
  generalize hS2 : ({ s1 with heap := s1.heap.push { cls := .type "dict_items", data := .fields #[.ref d] } } : Shared) = s2 at I2
  have hview : s2.heap.IsItemsView s1.heap.objs.size d := by rw [← hS2]; exact ⟨_, Heap.get?_push_size _ rfl, rfl, rfl⟩
  have hraw : DT.Raw s2.heap d es ep := by rw [← hS2]; exact DT.Raw.push ⟨o, ho, hx, hdat⟩ _
  refine DT.sortedI (es := es) (ep := ep) (I1.ok.hd hc) hview hraw (by rw [sizeLine_eq]; omega) fun h' tk as hk hlt hl hG => ?_
  have lak : as.length = bs.length := by omega
  have nd : as.Nodup := List.Pairwise.imp (fun h => Nat.ne_of_lt h) hG.rise
  have pr : ∀ (j : Nat) (b : Addr) (bk : KVP), as[j]? = some b → bs[j]? = some bk → ∃ en : DictEntry, es.toList[j]? = some en ∧ RelV (kV bk.1) en.key ∧ RelV bk.2.1 en.val ∧ keyIs bk.1 en.key = true ∧ h'.get? b = some (pairO en.key en.val) := by
    intro j b bk hj hbk
    obtain ⟨en, he, hg⟩ := hG.pairs j b hj
    have he' : es.toList[j]? = some en := by rw [Array.getElem?_toList]; exact he
    obtain ⟨k, v, hv1, hk1, hv2⟩ := pairs_get hpr he'
    obtain ⟨y, hy, r1, r2⟩ := LiI.paired_get kv (i := j) (x := (bk.1, bk.2.1)) (by rw [List.getElem?_map, hbk]; rfl)
    rw [hv1] at hy
    cases hy
    dsimp only at r1 r2
    subst r1
    exact ⟨en, he', relV_key hk1, by rw [hv2]; exact r2, hk1, hg⟩
  have hob : (h'.push { cls := .type "list", data := .seq (as.map Value.ref).toArray }).get? h'.objs.size = some (seqObj "list" (as.map Value.ref).toArray 0) := Heap.get?_push_size _ rfl
  have kb : ∀ b o, s2.heap.get? b = some o → (h'.push { cls := .type "list", data := .seq (as.map Value.ref).toArray }).get? b = some o := fun b o e => Heap.get?_push_of_some _ (hk b o e)
  have ne0 : ∀ b o, h'.get? b = some o → b ≠ h'.objs.size := fun b o e => Nat.ne_of_lt (Heap.lt_size e)
  generalize hh2 : h'.push { cls := .type "list", data := .seq (as.map Value.ref).toArray } = h2 at hob kb ⊢
  have ka : ∀ b o, h'.get? b = some o → h2.get? b = some o := fun b o e => by rw [← hh2]; exact Heap.get?_push_of_some _ e
  have zmap : (as.zip bs).map (·.2) = bs := List.map_snd_zip (by rw [lak]; exact Nat.le_refl _)
  have zget : ∀ (j : Nat) (z : Addr × KVP), (as.zip bs)[j]? = some z → as[j]? = some z.1 ∧ bs[j]? = some z.2 := fun j z h => List.getElem?_zip_eq_some.mp h
  have rdK : ∀ {k : Key} {u : Value} {h : Heap}, keyIs k u = true → Reads h u (encK k) [] := fun {k u h} hk => by
    rcases keyIs_shape hk with ⟨i, t, rfl, rfl⟩ | ⟨x, t, rfl, rfl⟩
    · exact .int _ _
    · exact .str _ _
  have k12 : ∀ b o, s1.heap.get? b = some o → s2.heap.get? b = some o := fun b o e => by rw [← hS2]; exact Heap.get?_push_of_some _ e
  have dep : ∀ b ∈ bs, (kvEnc b).depth ≤ 1 := fun b hb' => by
    have h1 : (encK b.1).depth = 0 := by cases b.1 <;> rfl
    have h2 : b.2.2.depth = 0 := by
      have := (hb b hb').2
      cases hp : b.2.2 <;> rw [hp] at this <;> first | rfl | cases this
    simp [kvEnc, PyData.depth, PyData.depthAll, h1, h2]
  refine PySem.W.list_sort_data (R := fun u (b : Addr × KVP) => u = .ref b.1) (enc := fun b : Addr × KVP => kvEnc b.2) (bs := as.zip bs) (s := { s2 with heap := h2, toks := tk }) hob ?_ ?_ ?_ ?_ ?_ ?_ fun out hlo eo => ?_
  · refine each_ix (by simp; omega) fun j u z e1 e2 => ?_
    obtain ⟨z1, z2⟩ := zget j z e2
    rw [List.getElem?_map, z1] at e1
    cases e1; rfl
  · refine each_ix (by simp; omega) fun j u z e1 e2 => ?_
    obtain ⟨z1, z2⟩ := zget j z e2
    rw [List.getElem?_map, z1] at e1
    cases e1
    obtain ⟨en, _, r1, r2, hk1, hg⟩ := pr j _ _ z1 z2
    obtain ⟨hd1, hn1⟩ := hb z.2 (List.mem_of_getElem? z2)
    obtain ⟨as2, rd⟩ := Dp.reads I1 _ _ _ hd1 r2
    have := reads_noL rd hn1
    subst this
    refine ⟨[] ++ ([] ++ []), .tuple (ka _ _ hg) rfl rfl (.cons (rdK hk1) (.cons (PyProof.Rows.Reads.keeps (fun b o e => kb b o (k12 b o e)) rd) .nil)), by simp⟩
  · have e : (as.zip bs).map (fun b : Addr × KVP => kvEnc b.2) = bs.map kvEnc := by
      rw [← zmap, List.map_map, zmap]; rfl
    rw [e]; exact hal
  · exact PySem.W.Sortable.tuples fun _ => ⟨_, _, rfl⟩
  · simp only [List.length_zip]; rw [sizeLine_eq]; omega
  · intro z hz'
    have := dep z.2 (by rw [← zmap]; exact List.mem_map_of_mem hz')
    have hu1 : X.A.in1.units = X.A.units + 1 := rfl
    omega
  · have kF : ∀ b o, b ≠ h'.objs.size → h2.get? b = some o → (sortedHeap h2 h'.objs.size (as.map Value.ref) (List.toArray out)).get? b = some o := fun b o hb e => (PyProof.Rows.sortedHeap_old hb (Heap.lt_size e)).trans e
    have kS : ∀ b o, s2.heap.get? b = some o → (sortedHeap h2 h'.objs.size (as.map Value.ref) (List.toArray out)).get? b = some o := fun b o e => kF b o (ne0 _ _ (hk b o e)) (kb b o e)
    obtain ⟨eF, heF⟩ := PyProof.Rows.sortedHeap_at (vs := as.map Value.ref) (out := List.toArray out) hob
    have J1 : Inv X pins σ H1 { s2 with heap := sortedHeap h2 h'.objs.size (as.map Value.ref) (List.toArray out), toks := tk } := I2.kept (t' := tk) kS
    have hn0 : H1 h'.objs.size = none := I2.hok.fresh (Nat.le_of_lt hlt)
    generalize hts : (as.zip bs).mergeSort (PySem.W.dataLe false fun b : Addr × KVP => kvEnc b.2) = ts at eo
    have hperm : ts.Perm (as.zip bs) := by rw [← hts]; exact List.mergeSort_perm _ _
    have hto : out = ts.map fun t => Value.ref t.1 := by
      obtain ⟨l1, l2⟩ := ix_each eo
      refine List.ext_getElem? fun j => ?_
      by_cases hj : j < ts.length
      · obtain ⟨u, h1, h2⟩ := l2 j _ (List.getElem?_eq_getElem hj)
        rw [h1, h2, List.getElem?_map, List.getElem?_eq_getElem hj]; rfl
      · rw [List.getElem?_eq_none (by omega), List.getElem?_eq_none (by simp; omega)]
    have hlen : (ts.map fun t => V.ref t.1).length ≤ sizeLine := by
      rw [List.length_map, hperm.length_eq, List.length_zip, sizeLine_eq]; omega
    have rv : Vals (ts.map fun t => V.ref t.1) out := by
      rw [hto]
      exact vals_maps (fun z : Addr × KVP => V.ref z.1) (fun z => Value.ref z.1) ts fun _ _ => rfl
    have J2 : Inv X pins σ (upd H1 h'.objs.size (.lst (ts.map fun t => V.ref t.1))) { s2 with heap := sortedHeap h2 h'.objs.size (as.map Value.ref) (List.toArray out), toks := tk } :=
      J1.take (h' := sortedHeap h2 h'.objs.size (as.map Value.ref) (List.toArray out)) (t' := tk) (fun b ob _ e => e) (I2.fpOk (Nat.le_of_lt hlt) hn0) ⟨hlen, out, eF, rv, heF⟩
    have lz : as.length = (es.toList.zip bs).length := by simp; omega
    have mget : ∀ x ∈ List.zipWith (fun (a : Addr) (p : DictEntry × KVP) => (a, pairO p.1.key p.1.val, [kV p.2.1, p.2.2.1])) as (es.toList.zip bs), ∃ (j : Nat) (a : Addr) (en : DictEntry) (bk : KVP), as[j]? = some a ∧ es.toList[j]? = some en ∧ bs[j]? = some bk ∧ x = (a, pairO en.key en.val, [kV bk.1, bk.2.1]) := fun x hx => by
      obtain ⟨j, hj⟩ := List.mem_iff_getElem?.mp hx
      obtain ⟨a, p, e1, e2, rfl⟩ := List.getElem?_zipWith_eq_some.mp hj
      obtain ⟨e3, e4⟩ := List.getElem?_zip_eq_some.mp e2
      exact ⟨j, a, p.1, p.2, e1, e3, e4, rfl⟩
    obtain ⟨H2, J3, g, qt⟩ := takeF I2 (List.zipWith (fun (a : Addr) (p : DictEntry × KVP) => (a, pairO p.1.key p.1.val, [kV p.2.1, p.2.2.1])) as (es.toList.zip bs)) _ J2 (by
        have : (List.zipWith (fun (a : Addr) (p : DictEntry × KVP) => (a, pairO p.1.key p.1.val, [kV p.2.1, p.2.2.1])) as (es.toList.zip bs)).map (·.1) = as := by
          rw [List.map_zipWith]
          refine List.ext_getElem? fun j => ?_
          rw [List.getElem?_zipWith]
          by_cases hj : j < as.length
          · rw [List.getElem?_eq_getElem hj, List.getElem?_eq_getElem (show j < (es.toList.zip bs).length by omega)]
          · rw [List.getElem?_eq_none (by omega)]
        rw [this]; exact nd) fun x hx => by
      obtain ⟨j, a, en, bk, e1, e2, e3, rfl⟩ := mget x hx
      obtain ⟨en', f1, r1, r2, hk1, hg⟩ := pr j a bk e1 e3
      rw [e2] at f1; cases f1
      refine ⟨Nat.le_of_lt (hG.above a (List.mem_of_getElem? e1)), ?_, fun H3 => ⟨kF _ _ (ne0 _ _ hg) (ka _ _ hg), by show 2 ≤ sizeLine; decide, [en.key, en.val], .cons r1 (.cons r2 .nil), ⟨_, kF _ _ (ne0 _ _ hg) (ka _ _ hg), rfl, 0, rfl⟩⟩⟩
      rw [upd_ne (ne0 _ _ hg)]
      exact I2.hok.fresh (Nat.le_of_lt (hG.above a (List.mem_of_getElem? e1)))
    refine ⟨.ref h'.objs.size, H2, J3, rfl, q H2 h'.objs.size ts (fun b o e => g b o (by rw [upd_ne (ne_of_none e hn0)]; exact e)) hn0 ?_ (g _ _ upd_same) fun t ht => ?_⟩
    · have := List.map_mergeSort (r := PySem.W.dataLe false fun b : Addr × KVP => kvEnc b.2) (s := kvLe) (f := fun x : Addr × KVP => x.2) (l := as.zip bs) (fun a _ b _ => rfl)
      rw [← hts, this, zmap]
    · obtain ⟨j, hj⟩ := List.mem_iff_getElem?.mp (hperm.mem_iff.mp ht)
      obtain ⟨z1, z2⟩ := zget j t hj
      obtain ⟨en, f1, r1, r2, hk1, hg⟩ := pr j t.1 t.2 z1 z2
      have hm : (t.1, pairO en.key en.val, [kV t.2.1, t.2.2.1]) ∈ List.zipWith (fun (a : Addr) (p : DictEntry × KVP) => (a, pairO p.1.key p.1.val, [kV p.2.1, p.2.2.1])) as (es.toList.zip bs) := by
        refine List.mem_iff_getElem?.mpr ⟨j, ?_⟩
        rw [List.getElem?_zipWith, z1, show (es.toList.zip bs)[j]? = some (en, t.2) from List.getElem?_zip_eq_some.mpr ⟨f1, z2⟩]
      exact ⟨_, ⟨rfl, rfl⟩, I2.hok.fresh (Nat.le_of_lt (hG.above t.1 (List.mem_of_getElem? z1))), qt _ hm⟩
end

/-! ### sorted(d.items()), as plain data -/
def kyD : Key → D
  | .inl i => .int i
  | .inr x => .str x
def prrD (p : Key × D) : D := .tup [kyD p.1, p.2]
structure OkSortIt (kvs : List (Key × D)) : Prop where
  py : ∀ p ∈ kvs, (py p.2).isSome = true ∧ noL (enc p.2) = true
  al : PySem.W.AllAlike ((kvs.map prrD).map enc)
  few : kvs.length ≤ 1000000
open Classical in
noncomputable def gSortIt (d : D) (m : Me) : Res D := match view m d with
  | .dct kvs => if OkSortIt kvs then .ok (.lst ((kvs.map prrD).mergeSort leD)) m else .no
  | _ => .no
theorem enc_pr {p : Key × D} (h : (py p.2).isSome = true) : enc (prrD p) = .tuple [encK p.1, enc p.2] := by
  obtain ⟨q, hq⟩ := Option.isSome_iff_exists.mp h
  have e : enc p.2 = q := by unfold enc; rw [hq]; rfl
  rw [e]
  unfold enc prrD
  obtain ⟨k, d⟩ := p
  cases k <;> simp [kyD, FL.py, FL.pyL, encK, hq] at hq ⊢ <;> simp [hq]
theorem Tr.keeps {K : PySem.W.Frag} {H H' : Hp} {μ : Mu} (k : ∀ b o, H b = some o → H' b = some o) : Tr K H μ H' μ :=
  ⟨fun _ _ q => q, fun a xs q => by
    rcases q with ⟨o', q, hd⟩ | q
    · exact .inl ⟨o', k _ _ q, hd⟩
    · exact .inr q, fun a u n _ q => ⟨k _ _ q, n⟩, fun a o u n q => ⟨k _ _ q, n⟩, fun a kvs n q => ⟨.inl (k _ _ q), n⟩, fun a o u q => k _ _ q⟩
theorem Ext.keeps {K : PySem.W.Frag} {H H' : Hp} {μ : Mu} (k : ∀ b o, H b = some o → H' b = some o) : Ext K H μ H' μ :=
  ⟨⟨[], by simp⟩, rfl, (Tr.keeps (K := K) (μ := μ) k).tup, fun a u na _ q => ⟨k _ _ q, na⟩, fun a o u na q => ⟨k _ _ q, na⟩, fun a kvs na q => ⟨.inl (k _ _ q), na⟩, fun a o u q => k _ _ q, fun a fs q => k _ _ q⟩
theorem RH.keeps {K : PySem.W.Frag} {H H' : Hp} {μ : Mu} {m : Me} (h : RH K H μ m) (k : ∀ b o, H b = some o → H' b = some o) : RH K H' μ m := by
  refine ⟨h.len, h.nd, fun i c q => ?_, fun a z => ?_, h.sep⟩
  · obtain ⟨a, e, r⟩ := h.at' i c q
    obtain ⟨u, hu, _⟩ := r.some
    exact ⟨a, e, r.map (Tr.keeps k) ((k _ _ hu).trans hu.symm)⟩
  · cases e : H a with
    | none => exact absurd e (h.hid a z)
    | some o => rw [k _ _ e]; exact fun w => nomatch w
theorem rvq_pairs {K : PySem.W.Frag} {H : Hp} {μ : Mu} : ∀ {kvs : List (Key × D)} {ps : List (Key × V)}, RVk K H μ kvs ps → ∃ ts : List (Key × D × V), kvs = ts.map (fun t => (t.1, t.2.1)) ∧ ps = ts.map (fun t => (t.1, t.2.2)) ∧ ∀ t ∈ ts, RV K H μ t.2.1 t.2.2
  | [], ps, r => by simp only [RVk] at r; subst r; exact ⟨[], rfl, rfl, fun _ h => nomatch h⟩
  | (k, d) :: kvs, ps, r => by
    simp only [RVk, RVp] at r
    obtain ⟨v, w, rfl, r1, r2⟩ := r
    obtain ⟨ts, rfl, rfl, h⟩ := rvq_pairs r2
    exact ⟨(k, d, v) :: ts, rfl, rfl, fun t ht => by
      rcases List.mem_cons.mp ht with rfl | ht
      · exact r1
      · exact h t ht⟩
section
variable {X : Cx} {W : WX} {e : Expr} {f : ME} {p apos cpos pos : Pos}
theorem pd_sortIt (hc : X.calm = true) (hu : X.A.units + 64 < cLine) (hg : Gl X "sorted") (hm : X.mg "sorted" = none) (hv : bootBuiltins "sorted" = some (.builtin "sorted")) (he : PD X W e f) (hbase : attributeBase e "items" X.env (eval e X.env) = eval e X.env := by rfl) (hline : (apos.endLine == cpos.line) = true := by rfl)
    (hs : starEach [.Call (.Attribute e "items" apos) [] [] cpos] X.env = (false, eval (.Call (.Attribute e "items" apos) [] [] cpos) X.env) :: starEach [] X.env := by rfl) :
    PD X W (.Call (.Name "sorted" p) [.Call (.Attribute e "items" apos) [] [] cpos] [] pos) (m1 gSortIt f) :=
  PE.imp (pe_sortItems hc hu he hg hm hv hbase hline hs) fun σ H Q ⟨μ, ρ, m, hH, hS, q⟩ => seqR q hH hS fun d m1 v H1 μ1 e1 hH1 r1 hS1 q1 => by
    unfold gSortIt at q1
    split at q1
    case h_2 => exact q1.elim
    rename_i kvs ev
    split at q1
    case isFalse => exact q1.elim
    rename_i ok
    obtain ⟨a, ps, rfl, hrd, hrk⟩ := view_dct hH1 r1 ev
    obtain ⟨ts, rfl, rfl, ht⟩ := rvq_pairs hrk
    have okt : ∀ t ∈ ts, (py t.2.1).isSome = true ∧ noL (enc t.2.1) = true := fun t h => ok.py (t.1, t.2.1) (List.mem_map_of_mem h)
    have hen : ∀ t ∈ ts, enc (prrD (t.1, t.2.1)) = kvEnc (t.1, t.2.2, enc t.2.1) := fun t h => enc_pr (p := (t.1, t.2.1)) (okt t h).1
    refine ⟨a, ts.map fun t => (t.1, t.2.2, enc t.2.1), rfl, by rw [List.map_map]; exact hrd, fun b hb => ?_, ?_, by have := ok.few; simpa using this, fun H' pl us hk hp hus hl hpr => ?_⟩
    · obtain ⟨t, h1, rfl⟩ := List.mem_map.mp hb
      exact ⟨enc_dp (ht t h1) (okt t h1).1, (okt t h1).2⟩
    · have := ok.al
      rw [List.map_map, List.map_map] at this
      rw [List.map_map]
      have e : ts.map (kvEnc ∘ fun t => (t.1, t.2.2, enc t.2.1)) = ts.map ((enc ∘ prrD) ∘ fun t => (t.1, t.2.1)) := List.map_congr_left fun t h => (hen t h).symm
      rw [e]; exact this
    · have ex := Ext.keeps (K := X.K) (μ := μ1) hk
      refine q1 _ H' μ1 ex (hH1.keeps hk) ?_
      have m1' : (ts.map fun t => (t.1, t.2.2, enc t.2.1)).mergeSort kvLe = (ts.mergeSort fun a b => leD (prrD (a.1, a.2.1)) (prrD (b.1, b.2.1))).map fun t => (t.1, t.2.2, enc t.2.1) :=
        (List.map_mergeSort (r := fun a b : Key × D × V => leD (prrD (a.1, a.2.1)) (prrD (b.1, b.2.1))) (f := fun t : Key × D × V => (t.1, t.2.2, enc t.2.1)) (fun a ha b hb => by
          show (!PySem.W.dataLt (enc (prrD (b.1, b.2.1))) (enc (prrD (a.1, a.2.1)))) = (!PySem.W.dataLt (kvEnc (b.1, b.2.2, enc b.2.1)) (kvEnc (a.1, a.2.2, enc a.2.1)))
          rw [hen a ha, hen b hb])).symm
      have m2' : ((ts.map fun t => (t.1, t.2.1)).map prrD).mergeSort leD = (ts.mergeSort fun a b => leD (prrD (a.1, a.2.1)) (prrD (b.1, b.2.1))).map fun t => prrD (t.1, t.2.1) := by
        rw [List.map_map]
        exact (List.map_mergeSort (r := fun a b : Key × D × V => leD (prrD (a.1, a.2.1)) (prrD (b.1, b.2.1))) (f := fun t : Key × D × V => prrD (t.1, t.2.1)) (fun a _ b _ => rfl)).symm
      rw [m1'] at hus
      rw [m2']
      have hsub : ∀ t ∈ (ts.mergeSort fun a b => leD (prrD (a.1, a.2.1)) (prrD (b.1, b.2.1))), t ∈ ts := fun t h => (List.mergeSort_perm ts _).mem_iff.mp h
      have hlen : (ts.mergeSort fun a b => leD (prrD (a.1, a.2.1)) (prrD (b.1, b.2.1))).length ≤ 1000000 := by rw [List.length_mergeSort]; have := ok.few; simpa using this
      generalize (ts.mergeSort fun a b => leD (prrD (a.1, a.2.1)) (prrD (b.1, b.2.1))) = zs at *
      simp only [RV]
      refine ⟨pl, _, rfl, ⟨hH1.notin hp, fun z => hH1.hid _ z hp⟩, hl, ?_, ?_⟩
      · have := congrArg List.length hus
        rw [List.length_map, List.length_map] at this
        rw [List.length_map, this, sizeLine_eq]; omega
      · have key : ∀ (us : List (Addr × KVP)) (zs : List (Key × D × V)), us.map (·.2) = zs.map (fun t => (t.1, t.2.2, enc t.2.1)) → (∀ t ∈ us, ∃ o, PlO o ∧ H1 t.1 = none ∧ H' t.1 = some (.frz o (.tup [kV t.2.1, t.2.2.1]))) → (∀ t ∈ zs, t ∈ ts) → RVs X.K H' μ1 (zs.map fun t => prrD (t.1, t.2.1)) (us.map fun t => V.ref t.1) := by
          intro us
          induction us with
          | nil => intro zs e _ _; cases zs with | nil => simp [RVs] | cons => simp at e
          | cons u us ih =>
            intro zs e h1 h2
            cases zs with
            | nil => simp at e
            | cons z zs =>
              simp only [List.map_cons, List.cons.injEq] at e
              simp only [List.map_cons, RVs]
              refine ⟨_, _, rfl, ?_, ih zs e.2 (fun t h => h1 t (List.mem_cons_of_mem _ h)) fun t h => h2 t (List.mem_cons_of_mem _ h)⟩
              obtain ⟨o, po, hn, hf⟩ := h1 u List.mem_cons_self
              rw [e.1] at hf
              have rz := RV.ext ex _ _ (ht z (h2 z List.mem_cons_self))
              simp only [prrD, RV]
              refine ⟨u.1, [kV z.1, z.2.2], rfl, .inl ⟨o, hf, po⟩, by rw [sizeLine_eq]; simp, ?_⟩
              simp only [RVs]
              refine ⟨_, _, rfl, ?_, _, _, rfl, rz, rfl⟩
              cases z.1 <;> simp [kyD, kV, RV]
        exact key us zs hus hpr hsub
end
end FL

set_option maxRecDepth 100000
namespace FL
open PySem PySem.Spec PyProof.Rows L2

/-! ### xs.count(y), flat items -/
def rCntF (K : PySem.W.Frag) : V → List V → Hp → VK → Prop := fun x xs H Q => ∃ (p : Addr) (ys : List V) (y : V), x = .ref p ∧ xs = [y] ∧ SqL K H p ys ∧ flatV y = true ∧ ys.all flatV = true ∧ Q (.int (ys.countP (fun z => eqV z y) : Nat)) H
theorem cnt_vals {y : V} : ∀ {ys : List V} {us : List Value}, Vals ys us → ys.all flatV = true → us.countP (eqU y) = ys.countP (fun z => eqV z y)
  | _, _, .nil, _ => rfl
  | z :: ys, u :: us, .cons r rr, h => by
    simp only [List.all_cons, Bool.and_eq_true] at h
    rw [List.countP_cons, List.countP_cons, cnt_vals rr h.2, eqU_of r h.1]
theorem mt_lcountF {X : Cx} : MtR X "list.count" (rCntF X.K) := by
  intro pins s σ H x xs v us Q I rx rxs h
  obtain ⟨p, ys, y, rfl, rfl, hs, fy, fys, q⟩ := h
  cases rx
  obtain ⟨u, rfl, ru⟩ := rxs.one
  obtain ⟨its, rv, ⟨⟨cls, dd, data, sl⟩, n, ho, hc, hdn, hd⟩, hlen⟩ := I.list hs
  simp only at hc hd
  subst hc hd
  refine call_meets PySem.F.slot_list_count ⟨_, ho, rfl⟩ PySem.F.entry_list_count (PySem.F.args_list_count_2 _ _)
    (SeqAt.list_countAt p its.toArray n dd sl u (eqU y)) ⟨ho, fun u' hu' => mem_eqAt ru fy rv fys u' (by simpa using hu'), ?_⟩
  refine ⟨.int (ys.countP (fun z => eqV z y) : Nat), H, I.tok _, ⟨s.toks, ?_⟩, q⟩
  show Value.int ((its.toArray.toList.countP (eqU y) : Nat) : Int) s.toks = _
  rw [show its.toArray.toList = its from rfl, cnt_vals rv fys]
def gCountF (d y : D) (m : Me) : Res D := match lstV m d with
  | some xs => if flatD y = true ∧ xs.all flatD = true then .ok (.int (xs.countP (fun z => eqF z y) : Nat)) m else .no
  | none => .no
def mCountF (fo fe : ME) : ME := fun ρ m => (fo ρ m).bind fun d m => match lstV m d with
  | some _ => (fe ρ m).bind fun y m => gCountF d y m
  | none => .no
theorem cnt_rv {K : PySem.W.Frag} {H : Hp} {μ : Mu} {y : D} {u : V} (ry : RV K H μ y u) (fy : flatD y = true) : ∀ {ds : List D} {vs : List V}, RVs K H μ ds vs → ds.all flatD = true → vs.countP (fun z => eqV z u) = ds.countP (fun z => eqF z y) ∧ vs.all flatV = true
  | [], vs, r, _ => by simp only [RVs] at r; subst r; exact ⟨rfl, rfl⟩
  | d :: ds, vs, r, f => by
    simp only [RVs] at r
    obtain ⟨v, w, rfl, r1, r2⟩ := r
    simp only [List.all_cons, Bool.and_eq_true] at f
    obtain ⟨h1, h2⟩ := cnt_rv ry fy r2 f.2
    refine ⟨?_, ?_⟩
    · rw [List.countP_cons, List.countP_cons, h1, eqF_eq r1 ry f.1 fy]
    · rw [List.all_cons, h2, ← flat_eq r1, f.1]; rfl
section
variable {X : Cx} {W : WX} {o e : Expr} {fo fe : ME} {apos cpos : Pos}
theorem pd_countF (ho : PD X W o fo) (he : PD X W e fe) (hbase : attributeBase o "count" X.env (eval o X.env) = eval o X.env := by rfl)
    (hfew : ((backTo cpos (starEach [e] X.env)).all (fun x => !x.1) && (backToKw cpos (keywordEach [] X.env)).all (fun x => x.1.isSome)
      && decide (([e] : List Expr).length + ([] : List Keyword).length + (if ([] : List Keyword).isEmpty then 0 else 1) < 30)) = true := by rfl)
    (hline : (apos.endLine == cpos.line) = true := by rfl) (hs : starEach [e] X.env = (false, eval e X.env) :: starEach [] X.env := by rfl) (hplain : (backTo cpos (starEach [] X.env)).any (·.1) = false := by rfl) :
    PD X W (.Call (.Attribute o "count" apos) [e] [] cpos) (mCountF fo fe) :=
  PE.imp (pe_bm PySem.F.plainAttrs_list PySem.F.slot_list_count PySem.F.type_list_count mt_lcountF ho (pa_cons he pa_nil hs) hbase hfew hline hs hplain) fun σ H Q ⟨μ, ρ, m, hH, hS, q⟩ => by
    refine seqR q hH hS fun d m1 v H1 μ1 e1 hH1 r1 hS1 q1 => ?_
    split at q1
    case h_2 => exact q1.elim
    rename_i xs0 e2
    obtain ⟨a, vs0, rfl, s1, _, _⟩ := lstV_of hH1 r1 e2
    refine ⟨.inl ⟨rfl, vs0, .of s1⟩, ?_⟩
    refine seqR q1 hH1 hS1 fun y m2 z H2 μ2 e2' hH2 r2 hS2 q2 => ?_
    unfold gCountF at q2
    split at q2
    case h_2 => exact q2.elim
    rename_i xs e4
    split at q2
    case isFalse => exact q2.elim
    rename_i hf
    obtain ⟨a', vs, ea, s2, _, w1⟩ := lstV_of hH2 (RV.ext e2' _ _ r1) e4
    cases ea
    obtain ⟨h1, h2⟩ := cnt_rv r2 hf.1 w1 hf.2
    exact ⟨a, vs, z, rfl, rfl, .of s2, by rw [← flat_eq r2]; exact hf.1, h2, q2 _ H2 μ2 .refl hH2 (by simp [RV, h1])⟩
end
end FL

set_option maxRecDepth 100000
namespace FL
open PySem PySem.Spec PyProof.Rows L2

/-! ### sets of texts, their entries in some order -/
def keyS (e : Int × Value) : Str := match e.2 with
  | .str x _ => x
  | _ => ⟨#[]⟩
def GdS (w : World) (e : Int × Value) : Prop := ∃ (x : Str) (tk : Tok), e = (hashStr w x, .str x tk)
structure SetS (w : World) (h : Heap) (a : Addr) (ks : List Str) (o : Obj) (es : Array (Int × Value)) (ep : Nat) (t : SetTable) : Prop where
  at' : h.get? a = some o
  ex : o.ExactSet
  dat : o.data = .set es ep t
  gd : ∀ e ∈ es.toList, GdS w e
  pm : (es.toList.map keyS).Perm ks
  nd : ks.Nodup
  few : ks.length < scanBound
  fit : t.fits es.size = true
  ris : Ris t.place.toList
  led : w.params.followText "set-order" = true ∨ t.led = true
def SetX (w : World) (h : Heap) (a : Addr) (ks : List Str) : Prop := ∃ o es ep t, SetS w h a ks o es ep t
section
variable {P : Program} {w : World} {A : Around} {E : Value → Shared → Prop} {s : Shared} {a : Addr} {ks : List Str}
theorem SetS.size {h : Heap} {o : Obj} {es : Array (Int × Value)} {ep : Nat} {t : SetTable} (R : SetS w h a ks o es ep t) : es.size = ks.length := by
  have := R.pm.length_eq
  rwa [List.length_map, Array.length_toList] at this
theorem gds_is {e : Int × Value} (g : GdS w e) (k : Str) : (strKind P w).is k e.2 = true ↔ k = keyS e := by
  obtain ⟨x, tk, rfl⟩ := g
  show Value.isStrOf k (.str x tk) = true ↔ k = x
  simp only [Value.isStrOf, beq_iff_eq]
  exact ⟨fun h => h.symm, fun h => h.symm⟩
theorem gds_elems {es : List (Int × Value)} (g : ∀ e ∈ es, GdS w e) : ElemsOf (strKind P w) es := fun e he => by
  obtain ⟨x, tk, rfl⟩ := g e he
  exact ⟨⟨x, by show Value.isStrOf x (.str x tk) = true; simp [Value.isStrOf], rfl⟩, rfl⟩
theorem SetS.put {o : Obj} {es es' : Array (Int × Value)} {ep : Nat} {t t' : SetTable} {ls : List Str} (R : SetS w s.heap a ks o es ep t) (g : ∀ e ∈ es'.toList, GdS w e) (p : (es'.toList.map keyS).Perm ls) (nd : ls.Nodup) (few : ls.length < scanBound)
    (hf : t'.fits es'.size = true) (hr : Ris t'.place.toList) (hl : t'.led = t.led) {Q : Unit → Shared → Prop}
    (hQ : ∀ h', Heap.SameBut a s.heap h' → SetS w h' a ls { o with data := .set es' (ep + 1) t' } es' (ep + 1) t' → Q () { s with heap := h' }) :
    wpAny (model P w) A (storeSet a es' t') Q E s := by
  have hsz : es'.size = ls.length := by have := p.length_eq; rwa [List.length_map, Array.length_toList] at this
  refine wpAny_storeSet_of R.at' R.dat ?_ (fits_of_scanBound (by rw [hsz]; exact few))
  exact hQ _ (Heap.SameBut.update s.heap a (Obj.putSet es' t')) ⟨store_at R.at' R.dat, R.ex, rfl, g, p, nd, few, hf, hr, R.led.imp id fun z => by rw [hl]; exact z⟩
/-- a text added -/
theorem setS_add {x : Str} {tk : Tok} {Q : Bool → Shared → Prop} (R : SetX w s.heap a ks) (room : ks.length + 1 < scanBound)
    (hQ : ∀ b h', Heap.SameBut a s.heap h' → SetX w h' a (if x ∈ ks then ks else ks ++ [x]) → Q b { s with heap := h' }) :
    wpAny (model P w) A (setAddHashed a (.str x tk) (hashStr w x)) Q E s := by
  obtain ⟨o, es, ep, t, R⟩ := R
  have hkey : (strKind P w).is x (.str x tk) = true := by show Value.isStrOf x (.str x tk) = true; simp [Value.isStrOf]
  have hsc : (Value.str x tk).scannable = true := rfl
  have hel : ElemsOf (strKind P w) es.toList := gds_elems R.gd
  have hb : es.size < scanBound := by rw [R.size]; exact R.few
  unfold setAddHashed setAddHashedIn
  refine wpAny_holding (wpAny_bind (wpAny_setState_of R.at' R.dat R.fit ?_))
  dsimp only
  rw [byScan_of hsc hb hel]
  simp only [↓reduceIte]
  unfold setAddByScan
  refine wpAny_bind ?_
  refine wpAny_bind (wpAny_rule ?_)
  refine wpAny_bind (wpAny_setScan_of (knd := strKind P w) hkey R.at' R.dat R.fit hel ?_)
  have hmem : x ∈ ks ↔ ∃ e ∈ es.toList, (strKind P w).is x e.2 = true := by
    rw [← R.pm.mem_iff, List.mem_map]
    constructor
    · rintro ⟨e, he, q⟩; exact ⟨e, he, (gds_is (R.gd e he) x).mpr q.symm⟩
    · rintro ⟨e, he, q⟩; exact ⟨e, he, ((gds_is (R.gd e he) x).mp q).symm⟩
  cases hfi : List.findIdx? (fun e => (strKind P w).is x e.2) es.toList with
  | some j =>
    dsimp only
    obtain ⟨hj, pj, _⟩ := List.findIdx?_eq_some_iff_getElem.mp hfi
    have hx : x ∈ ks := hmem.mpr ⟨es.toList[j], List.getElem_mem hj, pj⟩
    rw [if_pos hx] at hQ
    exact wpAny_pure (wpAny_pure (hQ _ s.heap (Heap.SameBut.refl a s.heap) ⟨_, _, _, _, R⟩))
  | none =>
    dsimp only
    have hx : x ∉ ks := fun z => by
      obtain ⟨e, he, q⟩ := hmem.mp z
      have c := List.findIdx?_eq_none_iff.mp hfi e he
      rw [q] at c
      cases c
    rw [if_neg hx] at hQ
    have hgw : ∀ (b : Bool) {s₁ : Shared} {Q' : Unit → Shared → Prop}, Q' () s₁ → wpAny (model P w) A (match b with | true => rule "set.scan.the-table-gave-way" | false => pure ()) Q' E s₁ :=
      fun b s₁ Q' q => by cases b <;> first | exact wpAny_pure q | exact wpAny_rule q
    have pm := layNew_perm t es (hashStr w x) (.str x tk)
    have hf1 := layNew_fits t es (hashStr w x) (.str x tk)
    have hr1 := layNew_ris t es (hashStr w x) (.str x tk) R.ris
    have hl1 := layNew_led t es (hashStr w x) (.str x tk)
    generalize hZ : layNew t es (hashStr w x) (.str x tk) = Z at pm hf1 hr1 hl1
    obtain ⟨es1, t1, wasDummy, gave⟩ := Z
    dsimp only at pm hf1 hr1 hl1 ⊢
    rw [Array.toList_push] at pm
    have pc : es1.toList.Perm ((hashStr w x, Value.str x tk) :: es.toList) := pm.trans (List.perm_append_singleton _ _)
    have g1 : ∀ e ∈ es1.toList, GdS w e := fun e he => by
      rcases List.mem_cons.mp (pc.mem_iff.mp he) with z | z
      · rw [z]; exact ⟨x, tk, rfl⟩
      · exact R.gd e z
    have pk : (es1.toList.map keyS).Perm (ks ++ [x]) := ((pc.map keyS).trans (R.pm.cons _)).trans (List.perm_append_singleton _ _).symm
    have nd1 : (ks ++ [x]).Nodup := by rw [List.nodup_append]; exact ⟨R.nd, by simp, fun a ha b hb e => by rw [List.mem_singleton.mp hb] at e; exact hx (e ▸ ha)⟩
    have few1 : (ks ++ [x]).length < scanBound := by rw [List.length_append]; exact room
    have hsz1 : es1.size = (ks ++ [x]).length := by have := pk.length_eq; rwa [List.length_map, Array.length_toList] at this
    refine wpAny_bind (hgw _ ?_)
    -- the rest, for the table kept plain or not
    have rest : ∀ (t2 : SetTable) (R' : Option Bool → Shared → Prop) (g : Bool → Sem Unit), (∀ (b : Bool) (s₁ : Shared) (Q' : Unit → Shared → Prop), Q' () s₁ → wpAny (model P w) A (g b) Q' E s₁) → t2.fits es1.size = true → Ris t2.place.toList → t2.led = t.led →
        (∀ h', Heap.SameBut a s.heap h' → SetX w h' a (ks ++ [x]) → R' (some true) { s with heap := h' }) →
        wpAny (model P w) A (do
          storeSet a es1 t2
          if (!wasDummy && t2.tooFull) = true then do
              g (relayAll t2 es1 (SetTable.grown es1.size)).2.2
              storeSet a (relayAll t2 es1 (SetTable.grown es1.size)).1 (relayAll t2 es1 (SetTable.grown es1.size)).2.1
              pure (some true)
            else pure (some true)) R' E s := fun t2 R' g hg f2 r2 l2 q => by
      refine wpAny_bind (R.put g1 pk nd1 few1 f2 r2 l2 fun h' sb R2 => ?_)
      split
      · have pm2 := relayAll_perm t2 es1 (SetTable.grown es1.size)
        have hf3 := relayAll_fits t2 es1 (SetTable.grown es1.size)
        have hr3 := relayAll_ris t2 es1 (SetTable.grown es1.size)
        have hl3 := relayAll_led t2 es1 (SetTable.grown es1.size)
        refine wpAny_bind (hg _ _ _ (wpAny_bind (R2.put (s := { s with heap := h' }) (fun e he => g1 e (pm2.mem_iff.mp he)) ((pm2.map keyS).trans pk) nd1 few1 hf3 hr3 hl3 fun h2 sb2 R3 => wpAny_pure (q h2 (sb.trans sb2) ⟨_, _, _, _, R3⟩))))
      · exact wpAny_pure (q h' sb ⟨_, _, _, _, R2⟩)
    split
    · refine wpAny_bind ?_
      rw [hashByValue_scannable 8 hsc]
      refine wpAny_pure ?_
      refine rest _ _ _ ?_ ?_ ?_ ?_ ?_
      · intro b s₁ Q' q; cases b <;> first | exact wpAny_pure q | exact wpAny_rule q
      · first | (split <;> first | exact hf1 | exact SetTable.fits_plain_off hf1) | exact hf1
      · first | (split <;> exact hr1) | exact hr1
      · first | (split <;> exact hl1) | exact hl1
      · intro h' sb r; dsimp only; exact wpAny_pure (hQ _ h' sb r)
    · refine wpAny_bind (wpAny_pure ?_)
      simp only [↓reduceIte]
      refine rest _ _ _ ?_ hf1 hr1 hl1 ?_
      · intro b s₁ Q' q; cases b <;> first | exact wpAny_pure q | exact wpAny_rule q
      · intro h' sb r; dsimp only; exact wpAny_pure (hQ _ h' sb r)
end
/-! ### set(xs), xs a list of texts -/
def addS (ks : List Str) (x : Str) : List Str := if x ∈ ks then ks else ks ++ [x]
def dd (xs : List Str) : List Str := xs.foldl addS []
theorem dd_snoc (xs : List Str) (x : Str) : dd (xs ++ [x]) = addS (dd xs) x := by simp [dd]
theorem addS_len (ks : List Str) (x : Str) : (addS ks x).length ≤ ks.length + 1 := by unfold addS; split <;> simp
theorem dd_mem (x : Str) (xs : List Str) : x ∈ dd xs ↔ x ∈ xs := by
  have key : ∀ (xs ks : List Str), x ∈ xs.foldl addS ks ↔ x ∈ ks ∨ x ∈ xs := by
    intro xs
    induction xs with
    | nil => simp
    | cons a l ih =>
      intro ks
      rw [List.foldl_cons, ih, List.mem_cons]
      have : x ∈ addS ks a ↔ x ∈ ks ∨ x = a := by
        unfold addS
        split
        · constructor
          · exact .inl
          · rintro (h | rfl)
            · exact h
            · assumption
        · simp
      rw [this, or_assoc]
  simpa [dd] using key xs []
theorem dd_len (xs : List Str) : (dd xs).length ≤ xs.length := by
  have key : ∀ (xs ks : List Str), (xs.foldl addS ks).length ≤ ks.length + xs.length := by
    intro xs
    induction xs with
    | nil => simp
    | cons a l ih => intro ks; have := ih (addS ks a); have := addS_len ks a; simp only [List.foldl_cons, List.length_cons]; omega
  simpa [dd] using key xs []
theorem dd_nodup (xs : List Str) : (dd xs).Nodup := by
  have key : ∀ (xs ks : List Str), ks.Nodup → (xs.foldl addS ks).Nodup := by
    intro xs
    induction xs with
    | nil => intro ks h; exact h
    | cons a l ih =>
      intro ks h
      refine ih _ ?_
      unfold addS
      split
      · exact h
      · rename_i hn
        rw [List.nodup_append]; exact ⟨h, by simp, fun b hb c hc e => by rw [List.mem_singleton.mp hc] at e; exact hn (e ▸ hb)⟩
  exact key xs [] List.nodup_nil
theorem SetX.keep {w : World} {h h' : Heap} {a : Addr} {ks : List Str} (R : SetX w h a ks) (k : ∀ o, h.get? a = some o → h'.get? a = some o) : SetX w h' a ks := by
  obtain ⟨o, es, ep, t, R⟩ := R
  exact ⟨o, es, ep, t, k o R.at', R.ex, R.dat, R.gd, R.pm, R.nd, R.few, R.fit, R.ris, R.led⟩
theorem setX_new {w : World} {h : Heap} {a : Addr} (ho : h.get? a = some (nSet w)) : SetX w h a [] :=
  ⟨_, #[], 0, _, ho, ⟨rfl, rfl, rfl⟩, rfl, fun e he => by simp at he, by simp, List.nodup_nil, by decide, rfl, List.Pairwise.nil, by
    show _ ∨ (!w.params.followText "set-order") = true
    cases w.params.followText "set-order"
    · exact .inr rfl
    · exact .inl rfl⟩
section
variable {P : Program} {w : World} {A : Around} {E : Value → Shared → Prop} {s : Shared}
theorem set_update_strs {I : Addr} {fp wr : List Addr} {G : Array GenState → Array GenState → Prop} {n : Nat} {Pv : Nat → Value → Prop} {St : Nat → Shared → Prop} {R : Result → Shared → Prop}
    (W : WalksS P w A.in1 I fp wr G n Pv St) (S : Addr) (hSf : S ∉ fp) (xs : List Str) (hn : n = xs.length) (hb : xs.length + 1 < scanBound) (hval : ∀ i v, Pv i v → ∃ x t, xs[i]? = some x ∧ v = .str x t)
    (hR : ∀ s', Moved (S :: wr) G s s' → SetX w s'.heap S (dd xs) → R (.ok (.ret .none)) s') (hst : St 0 s) (hS : SetX w s.heap S []) :
    codeAny (model P w) A (.builtin "set.update.loop" ⟨[.ref S, .ref I], []⟩) R s := by
  have hSw : S ∉ wr := fun h => hSf (W.sub _ h)
  have hsub : ∀ b ∈ wr, b ∈ S :: wr := fun b hb => List.mem_cons_of_mem _ hb
  have key : ∀ (k i : Nat) (s1 : Shared), n - i = k → i ≤ n → St i s1 → SetX w s1.heap S (dd (xs.take i)) → (∀ s', Moved (S :: wr) G s1 s' → SetX w s'.heap S (dd xs) → R (.ok (.ret .none)) s') →
      codeAny (model P w) A (.builtin "set.update.loop" ⟨[.ref S, .ref I], []⟩) R s1 := by
    intro k
    induction k with
    | zero =>
      intro i s1 hk hi hst hS hR
      have hin : i = n := by omega
      subst hin
      refine codeAny_builtin F.entry_set_update_loop ?_
      rw [Around.under_plainId F.plain_set_update_loop _]
      show wpAny _ A.in1 (pyNext (.ref I) >>= _) _ _ s1
      refine wpAny_bind (W.done s1 _ _ hst fun s' hm => ?_)
      rw [List.take_of_length_le (by omega)] at hS
      exact wpAny_pure (hR s' (hm.mono hsub) (hS.keep fun o e => hm.heap S o hSw e))
    | succ k ih =>
      intro i s1 hk hi hst hS hR
      have hlt : i < n := by omega
      refine codeAny_builtin F.entry_set_update_loop ?_
      rw [Around.under_plainId F.plain_set_update_loop _]
      show wpAny _ A.in1 (pyNext (.ref I) >>= _) _ _ s1
      refine wpAny_bind (W.item i s1 _ _ hlt hst fun v s' hP hst' hm => ?_)
      obtain ⟨x, t, hz, rfl⟩ := hval i v hP
      have hS' := hS.keep (h' := s'.heap) fun o e => hm.heap S o hSw e
      show wpAny _ A.in1 (holding [Value.str x t] (setAdd S (.str x t)) >>= _) _ _ s'
      refine wpAny_bind (wpAny_holding ?_)
      unfold setAdd
      refine wpAny_holding ?_
      refine wpAny_bind ((strKind P w).pyHash (k := x) (strKind_is P w x t) ?_)
      have hl : (dd (xs.take i)).length + 1 < scanBound := by have := dd_len (xs.take i); rw [List.length_take] at this; omega
      refine setS_add (s := { s' with toks := s'.toks + 1 }) hS' hl fun b h' hsb hS2 => ?_
      have hS3 : SetX w h' S (dd (xs.take (i + 1))) := by
        rw [List.take_add_one, hz]
        show SetX w h' S (dd (xs.take i ++ [x]))
        rw [dd_snoc]; exact hS2
      refine wpAny_pure ⟨plainId_quiet F.plain_set_update_loop _, ih (i + 1) _ (by omega) hlt (W.frame _ s' _ _ hst' (Nat.le_succ _) fun b hb o e => ?_) hS3 fun s'' hm'' hS'' => ?_⟩
      · rw [hsb.2 b (fun h : b = S => hSf (by rw [← h]; exact hb))]; exact e
      · refine hR s'' (Moved.trans W.gtrans ((hm.mono hsub).then_heap (Nat.le_succ _) fun b o hb e => ?_) hm'') hS''
        rw [hsb.2 b (fun h : b = S => hb (by rw [h]; exact List.mem_cons_self))]; exact e
  exact key (n - 0) 0 s rfl (Nat.zero_le _) hst hS hR
set_option maxHeartbeats 3200000 in
theorem set_of_strs {l : Addr} {its : Array Value} (ns : List Str) {Q : Value → Shared → Prop} (h0 : A.handled = none) (hl : s.heap.IsList l its) (hi : StrsAre its.toList ns) (hb : ns.length + 1 < scanBound)
    (h : ∀ (g : Heap) (tk : Nat), SetX w g s.heap.objs.size (dd ns) → (∀ b o, s.heap.get? b = some o → g.get? b = some o) → Q (.ref s.heap.objs.size) { s with heap := g, toks := tk }) : wpAny (model P w) A (call (.type "set") [.ref l]) Q E s := by
  have hz : its.size = ns.length := by have q := StrsAre.len_eq hi; rw [Array.length_toList] at q; exact q
  obtain ⟨c0, tl, hmro⟩ := F.called_set.mro
  have made := F.called_set.made
  have sub := F.called_set.sub
  refine wpAny_call (codeAny_of_tree ?_); show wpAny _ _ (callAny (.type "set") _) _ _ _
  refine wpAny_pure ⟨Code.quiet_builtin _ (by decide +kernel), codeAny_builtin F.entry_type_call ?_⟩; rw [Around.under_plain (weight_type_call_type "set" [.ref l] []) rfl]
  have t1 := F.called_set.notType
  have t2 := F.called_set.canCreate
  have t3 := F.typeCall_set_1 (.ref l)
  repeat (any_goals (first | assumption | wp_step))
  refine codeAny_mono (code_set_led1 (.ref l) (E := E) (Q₁ := fun x t => x = .ref s.heap.objs.size ∧ t = { s with heap := pSet w s }) ⟨rfl, rfl⟩) fun r t hr => ?_
  rcases r with e | f
  · exact hr
  · cases f <;> first | exact hr.elim | skip
    obtain ⟨rfl, rfl⟩ := hr
    have hS : (pSet w s).get? s.heap.objs.size = some (nSet w) := Heap.get?_push_size _ rfl
    have hT : Shared.TypeIs { s with heap := pSet w s } (.ref s.heap.objs.size) "set" := ⟨_, hS, rfl⟩
    have hli := F.called_set.init.lookup
    have hbi := F.called_set.init.bind (.ref s.heap.objs.size)
    repeat (any_goals (first | assumption | wp_step))
    refine codeAny_mono (codeAny_call_builtin (R := wants (fun r t => r = .none ∧ ∃ g tk, t = { s with heap := g, toks := tk } ∧ SetX w g s.heap.objs.size (dd ns) ∧ (∀ b o, s.heap.get? b = some o → g.get? b = some o)) E) F.called_set.init.plain F.entry_set_init (check_set_init_1 hT ?_)) fun r t hr => ?_
    · obtain ⟨⟨kc, kd, ka, ks⟩, ho, hc, nl, hd⟩ := hl
      simp only at hc hd
      subst hc; subst hd
      have ho' : (pSet w s).get? l = some { cls := .type "list", dict := kd, data := .seq its nl, slots := ks } := Heap.get?_push_of_some _ ho
      have u1 := F.sub_list_set
      have u2 := F.sub_list_frozenset
      have u3 : (Value.type "list" == Value.type "dict") = false := by decide
      have hl1 : (pSet w s).IsList l its := ⟨_, ho', rfl, nl, rfl⟩
      unfold Builtin.«set.__init__» noKeywords Builtin.Frozenset.updateFrom
      generalize hPI : pyIter = PI
      wp_walk
      subst hPI
      refine wpAny_pyIter_list hl1 (wpAny_bind (wpAny_runValue ?_))
      have lt : l < s.heap.objs.size := Heap.lt_size ho
      have h3 : A.in1.in1.in1.handled = none := by simp [h0]
      have ne1 : l ≠ (pSet w s).objs.size := by rw [Heap.size_push]; exact fun z => Nat.ne_of_lt (Nat.lt_succ_of_lt lt) z
      have ne2 : s.heap.objs.size ∉ [(pSet w s).objs.size, l] := by
        rw [Heap.size_push]; simp only [List.mem_cons, List.not_mem_nil, or_false, not_or]; exact ⟨Nat.ne_of_lt (Nat.lt_succ_self _), fun z => Nat.ne_of_lt lt z.symm⟩
      have hv : ∀ (i : Nat) (v : Value), its[i]? = some v → ∃ k t, ns[i]? = some k ∧ v = .str k t := fun i v e => by
        have lt : i < ns.length := by rw [← hz]; exact (Array.getElem?_eq_some_iff.mp e).1
        obtain ⟨t, e2⟩ := StrsAre.at hi (List.getElem?_eq_getElem lt)
        rw [Array.getElem?_toList, e] at e2
        exact ⟨ns[i], t, List.getElem?_eq_getElem lt, Option.some.inj e2⟩
      refine set_update_strs ((Walks.list h3 _ l ne1 its).toS) s.heap.objs.size ne2 ns hz hb hv (fun t hm hS' => ?_) ⟨⟨_, Heap.get?_push_size _ rfl, rfl, rfl⟩, (hl1.push _)⟩ (setX_new (Heap.get?_push_of_some _ hS))
      obtain ⟨g, g2, d', tk, os'⟩ := t
      obtain rfl : g2 = s.gens := hm.gens
      obtain rfl : d' = s.drawn := hm.drawn
      obtain rfl : os' = s.os := hm.os
      show wpAny _ _ _ _ _ _
      refine wpAny_pure ?_
      show wpAny _ _ (ret Value.none) _ _ _
      refine wpAny_pure ⟨rfl, g, tk, rfl, hS', fun b o e => ?_⟩
      have hb0 : b < s.heap.objs.size := Heap.lt_size e
      refine hm.heap b o ?_ (Heap.get?_push_of_some _ (Heap.get?_push_of_some _ e))
      rw [Heap.size_push]; simp only [List.mem_cons, List.not_mem_nil, or_false, not_or]; exact ⟨Nat.ne_of_lt hb0, fun z => Nat.ne_of_lt (Nat.lt_succ_of_lt hb0) z⟩
    · rcases r with e | f
      · exact hr
      · cases f <;> first | exact hr.elim | skip
        obtain ⟨rfl, g, tk, rfl, k1, k3⟩ := hr
        repeat (any_goals (first | assumption | wp_step))
        exact h _ _ k1 k3
end
end FL

set_option maxRecDepth 100000
namespace FL
open PySem PySem.Spec PyProof.Rows L2

theorem srt_pair (xs : List Str) : (xs.mergeSort leS).Pairwise (fun a b => leS a b = true) := List.pairwise_mergeSort leS_trans leS_total xs
theorem srt_uniq {xs ys : List Str} (p : xs.Perm ys) (h1 : xs.Pairwise (fun a b => leS a b = true)) (h2 : ys.Pairwise (fun a b => leS a b = true)) : xs = ys :=
  List.Perm.eq_of_pairwise (le := fun a b => leS a b = true) (fun a b _ _ h1 h2 => leS_anti h1 h2) h1 h2 p
theorem srt_perm {xs ys : List Str} (p : xs.Perm ys) : xs.mergeSort leS = ys.mergeSort leS :=
  srt_uniq (((List.mergeSort_perm xs leS).trans p).trans (List.mergeSort_perm ys leS).symm) (srt_pair _) (srt_pair _)
section
variable {P : Program} {w : World} {A : Around} {E : Value → Shared → Prop} {s : Shared} {a : Addr} {ks : List Str}
theorem sorted_strs_set {Q : Value → Shared → Prop} (R : SetX w s.heap a ks) (hh : A.handled = none) (hu : A.units + 64 < cLine)
    (hQ : ∀ s' p (out : List Value) (c : Nat), (∀ b o, s.heap.get? b = some o → s'.heap.get? b = some o) → s'.gens = s.gens → s'.os = s.os → s.heap.objs.size ≤ p →
      s'.heap.get? p = some (seqObj "list" out.toArray c) → PySem.W.EachIs (fun v (x : Str) => ∃ t, v = Value.str x t) out (ks.mergeSort leS) → Q (.ref p) s') :
    wpAny (model P w) A (call (.builtin "sorted") [.ref a]) Q E s := by
  obtain ⟨o, es, ep, t, R⟩ := R
  have hb : es.size < scanBound := by rw [R.size]; exact R.few
  refine Calls.call_function_entry kind_sorted plain_sorted entry_sorted (args_sorted1 _) ?_
  unfold Builtin.«sorted»
  refine wpAny_bind (m := checkCount "sorted" 1 1 _) (wpAny_pure ?_)
  refine wpAny_bind (collect_set (A := A.in1) hh ⟨o, R.at', R.ex.1, R.dat⟩ R.fit hb R.ris R.led fun s1 vs k1 hz g1 o1 pm => ?_)
  -- the values, read as texts
  have hv : ∀ us : List Value, (∀ v ∈ us, ∃ e ∈ es.toList, v = e.2) → PySem.W.EachIs (fun v (x : Str) => ∃ t, v = Value.str x t) us (us.map fun v => keyS (0, v)) := by
    intro us
    induction us with
    | nil => intro _; exact .nil
    | cons v us ih =>
      intro h
      obtain ⟨e, he, rfl⟩ := h v List.mem_cons_self
      obtain ⟨x, tk, q⟩ := R.gd e he
      exact .cons ⟨tk, by rw [q]; rfl⟩ (ih fun u hu => h u (List.mem_cons_of_mem _ hu))
  have hv1 := hv vs fun v hv => by
    obtain ⟨e, he, q⟩ := List.mem_map.mp (pm.mem_iff.mp hv)
    exact ⟨e, he, q.symm⟩
  have pk : (vs.map fun v => keyS (0, v)).Perm ks := by
    have := pm.map fun v => keyS (0, v)
    rw [List.map_map] at this
    exact this.trans R.pm
  have hvl : vs.length = ks.length := by have := pk.length_eq; rwa [List.length_map] at this
  refine wpAny_bind (wpAny_newList ?_ (by rw [hvl, sizeLine_eq]; have := R.few; unfold scanBound at this; omega))
  have hoL : (s1.heap.push (seqObj "list" vs.toArray 0)).get? s1.heap.objs.size = some (seqObj "list" vs.toArray 0) := Heap.get?_push_size _ rfl
  have srt := PySem.W.list_sort_data (prog := P) (w := w) (A := A.in1) (E := E) (s := { s1 with heap := s1.heap.push (seqObj "list" vs.toArray 0) }) (enc := fun x : Str => PyData.str x) (Q := fun v s' => ∃ out : List Value, out.length = ks.length ∧ PySem.W.EachIs (fun v (x : Str) => ∃ t, v = Value.str x t) out (ks.mergeSort leS) ∧ v = .none ∧ s' = { s1 with heap := sortedHeap (s1.heap.push (seqObj "list" vs.toArray 0)) s1.heap.objs.size vs out.toArray })
    hoL hv1 (hv1.mono fun v x ⟨t, e⟩ => ⟨[], by rw [e]; exact .str _ _, by simp⟩) (PySem.W.AllAlike.of fun b b' => by simp [PySem.W.alike]) (PySem.W.Sortable.others fun b => ⟨by simp, by simp⟩) (by rw [List.length_map, hvl, sizeLine_eq]; have := R.few; unfold scanBound at this; omega)
    (fun b _ => by simp only [PyData.depth, Around.in1]; omega) fun out ho eo => ⟨out, by rw [ho, List.length_map, hvl], by
      have e := PySem.W.dataLe_str (fun x : Str => x)
      have e2 : (PySem.W.dataLe false fun x : Str => PyData.str x) = leS := by rw [e]; funext x y; exact decide_eq_decide.mpr Iff.rfl
      rw [e2, srt_perm pk] at eo
      exact eo, rfl, rfl⟩
  refine wpAny_bind (wpAny_holding (wpAny_mono srt (fun v s' ⟨out, ho, eo, hv, hs'⟩ => ?_) fun _ _ h => h))
  subst hv hs'
  obtain ⟨c, hc⟩ := sortedHeap_at (vs := vs) (out := out.toArray) hoL
  refine wpAny_pure ⟨_, rfl, hQ _ s1.heap.objs.size out c (fun b u e => ?_) g1 o1 hz hc eo⟩
  have q := k1 b u e
  have hlt := Heap.lt_size q
  show (sortedHeap (s1.heap.push (seqObj "list" vs.toArray 0)) s1.heap.objs.size vs out.toArray).get? b = some u
  rw [sortedHeap_old (Nat.ne_of_lt hlt) (by rw [size_push']; exact Nat.lt_succ_of_lt hlt)]
  exact Heap.get?_push_of_some _ q
end
def SetSO (w : World) (a : Addr) (ks : List Str) : HO := .ext fun h => SetX w h a ks
theorem setSO_new {w : World} {P : Program} {H : Hp} {h : Heap} {a : Addr} {ks : List Str} (R : SetX w h a ks) : ObjOk P w H h a (SetSO w a ks) := by
  have ⟨o, _, _, _, R'⟩ := R
  exact ⟨R, ⟨o, R'.at'⟩, fun h1 h2 p k => SetX.keep p k⟩
theorem strs_of_vals : ∀ {ks : List Str} {us : List Value}, Vals (ks.map V.str) us → StrsAre us ks
  | [], _, .nil => .nil
  | x :: ks, _, .cons r t => by
    obtain ⟨tk, rfl⟩ := r
    exact .cons x tk (strs_of_vals t)
theorem vals_of_each : ∀ {ks : List Str} {us : List Value}, PySem.W.EachIs (fun v (x : Str) => ∃ t, v = Value.str x t) us ks → Vals (ks.map V.str) us
  | [], _, .nil => .nil
  | x :: ks, _, .cons ⟨tk, e⟩ t => by
    subst e
    exact .cons ⟨tk, rfl⟩ (vals_of_each t)
section
variable {X : Cx}
def rSetS (w : World) : List V → Hp → VK → Prop := fun vs H Q => ∃ (a : Addr) (xs : List Str), vs = [V.ref a] ∧ H a = some (.lst (xs.map V.str)) ∧ xs.length + 1 < scanBound ∧ ∀ p : Addr, H p = none → Q (.ref p) (upd H p (SetSO w p (dd xs)))
theorem cr_setS (hc : X.calm = true) : CallR X (.type "set") (rSetS X.w) := by
  intro pins s σ H vs us Q I r h
  obtain ⟨a, ns, rfl, ha, hb, q⟩ := h
  rw [Vals.ref1 r]
  obtain ⟨z, its, n, rr, hl, e⟩ := I.lstM ha
  refine set_of_strs (its := its.toArray) ns (I.ok.hd hc) ⟨_, e, rfl, n, rfl⟩ (by simpa using strs_of_vals rr) hb fun g tk R keep => ?_
  exact ⟨.ref s.heap.objs.size, upd H s.heap.objs.size (SetSO X.w s.heap.objs.size (dd ns)), I.laid (t' := tk) (fun b u e => keep b u e) (Nat.le_refl _) (setSO_new R), rfl, q _ (I.hok.fresh (Nat.le_refl _))⟩
def rSortSetS (w : World) : List V → Hp → VK → Prop := fun vs H Q => ∃ (a : Addr) (ks : List Str), vs = [V.ref a] ∧ H a = some (SetSO w a ks) ∧ ∀ p : Addr, ks.length < scanBound → H p = none → Q (.ref p) (upd H p (.lst ((ks.mergeSort leS).map V.str)))
theorem cr_sortSetS (hc : X.calm = true) (hu : X.A.units + 64 < cLine) : CallR X (.builtin "sorted") (rSortSetS X.w) := by
  intro pins s σ H vs us Q I r h
  obtain ⟨a, ks, rfl, ha, q⟩ := h
  have R : SetX X.w s.heap a ks := (I.hok a _ ha).1
  rw [Vals.ref1 r]
  have hfew : ks.length < scanBound := by obtain ⟨_, _, _, _, R⟩ := R; exact R.few
  refine sorted_strs_set R (I.ok.hd hc) hu fun s' p out c k g o hp hg he => ?_
  have hlen : ((ks.mergeSort leS).map V.str).length ≤ sizeLine := by rw [List.length_map, List.length_mergeSort, sizeLine_eq]; unfold scanBound at hfew; omega
  have hn : H p = none := I.hok.fresh hp
  have J : Inv X pins σ (upd H p (.lst ((ks.mergeSort leS).map V.str))) { s with heap := s'.heap, gens := s'.gens, drawn := s'.drawn, toks := s'.toks } :=
    I.call (ch := []) (Un.laid k hp hn) (I.hok.laid k hp ⟨hlen, out, c, vals_of_each he, hg⟩) (by rw [g]; exact I.bare) (fun _ z => nomatch z)
  have e : s' = { s with heap := s'.heap, gens := s'.gens, drawn := s'.drawn, toks := s'.toks } := by
    cases s'
    cases s
    cases o
    rfl
  rw [e]
  exact ⟨.ref p, _, J, rfl, q p hfew hn⟩
end
/-! ### sorted(set(xs)), xs texts -/
def gSortSetS (d : D) (m : Me) : Res D := match view m d with
  | .lst xs => match strsD xs with
    | some ns => if ns.length < 4095 then .ok (.lst ((sortS (dd ns)).map .str)) m else .no
    | none => .no
  | _ => .no
theorem strs_rv' {K : PySem.W.Frag} {H : Hp} {μ : Mu} : ∀ (ks : List Str), RVs K H μ (ks.map D.str) (ks.map V.str)
  | [] => by simp [RVs]
  | k :: ks => by simp only [List.map_cons, RVs]; exact ⟨_, _, rfl, by simp [RV], strs_rv' ks⟩
theorem pd_sortSetS {X : Cx} {W : WX} {x y : Str} {e : Expr} {f : ME} {p1 p2 p3 pos : Pos} (hc : X.calm = true) (hu : X.A.units + 64 < cLine) (g1 : Gl X x) (n1 : X.mg x = none) (b1 : bootBuiltins x = some (.builtin "sorted")) (g2 : Gl X y) (n2 : X.mg y = none) (b2 : bootBuiltins y = some (.type "set")) (he : PD X W e f)
    (hx : x ≠ "__name__" := by decide) (dx : (x == ("__debug__" : Str)) = false := by decide) (hy : y ≠ "__name__" := by decide) (dy : (y == ("__debug__" : Str)) = false := by decide)
    (s1 : starEach [.Call (.Name y p2) [e] [] p3] X.env = (false, eval (.Call (.Name y p2) [e] [] p3) X.env) :: starEach [] X.env := by rfl) (s2 : starEach [e] X.env = (false, eval e X.env) :: starEach [] X.env := by rfl)
    (l1 : (backTo pos (starEach [] X.env)).any (·.1) = false := by rfl) (l2 : (backTo p3 (starEach [] X.env)).any (·.1) = false := by rfl) :
    PD X W (.Call (.Name x p1) [.Call (.Name y p2) [e] [] p3] [] pos) (m1 gSortSetS f) :=
  PE.imp (pe_callB (cr_sortSetS hc hu) g1 n1 b1 (pa_cons (pe_callTy (cr_setS hc) g2 n2 b2 (pa_cons he pa_nil s2) hy dy s2 l2) pa_nil s1) hx dx s1 l1) fun σ H Q ⟨μ, ρ, m, hH, hS, q⟩ => by
    refine seqR q hH hS fun d m1 v H1 μ1 e1 hH1 r1 hS1 q1 => ?_
    unfold gSortSetS at q1
    split at q1
    · rename_i xs ev
      split at q1
      · rename_i ns ei
        split at q1
        · rename_i hlt
          obtain ⟨a, vs, rfl, ha, hz, w1⟩ := view_lst hH1 r1 ev
          have := strsD_rv w1 ei
          subst this
          refine ⟨a, ns, rfl, ha, by unfold scanBound; omega, fun p hp => ?_⟩
          refine ⟨p, dd ns, rfl, upd_same, fun p' hfew hp' => ?_⟩
          have x1 := Ext.new (o := SetSO X.w p (dd ns)) hH1 hp
          have hN := hH1.new (o := SetSO X.w p (dd ns)) hp
          have x2 := Ext.new (o := .lst (((dd ns).mergeSort leS).map V.str)) hN hp'
          refine q1 _ _ μ1 (x1.trans x2) (hN.new hp') ?_
          simp only [RV]
          refine ⟨p', _, rfl, ⟨hN.notin hp', fun z => hN.hid _ z hp'⟩, upd_same, ?_, ?_⟩
          · rw [List.length_map, List.length_mergeSort, sizeLine_eq]; unfold scanBound at hfew; omega
          · exact strs_rv' _
        · exact q1.elim
      · exact q1.elim
    · exact q1.elim
end FL
namespace FL
open PySem PySem.Spec PyProof.Rows L2

/-! ### x in xs, any data -/
def rInX (K : PySem.W.Frag) (neg : Bool) : R2 := fun x y H Q => ∃ d ds, Dp K H x d ∧ (Dp K H y (.list ds) ∨ Dp K H y (.tuple ds)) ∧ d.canLay0 = true ∧ PyData.canLayAll0 ds = true ∧ d.depth ≤ 60 ∧ Q (.bl (if neg then !(ds.any fun z => PyData.eqv z d) else ds.any fun z => PyData.eqv z d)) H
section
variable {X : Cx}
theorem op_inX (hu : X.A.units + 64 < cLine) : OpR X (compareOp .In) (rInX X.K false) := by
  intro pins s σ H x y v u Q I rx ry h
  obtain ⟨d, ds, hd, he, sd, se, hdp, q⟩ := h
  obtain ⟨as, r1⟩ := Dp.reads I d x v hd rx
  have room : X.A.units + 1 + min (PyData.depthAll ds) d.depth < cLine := by have := Nat.min_le_right (PyData.depthAll ds) d.depth; omega
  rcases he with he | he
  · obtain ⟨bs, r2⟩ := Dp.reads I (.list ds) y u he ry
    exact SeqAt.in_list_reads r2 r1 se sd room ⟨.bl _, H, I, rfl, q⟩
  · obtain ⟨bs, r2⟩ := Dp.reads I (.tuple ds) y u he ry
    exact SeqAt.in_tuple_reads r2 r1 se sd room ⟨.bl _, H, I, rfl, q⟩
theorem op_notInX (hu : X.A.units + 64 < cLine) : OpR X (compareOp .NotIn) (rInX X.K true) := by
  intro pins s σ H x y v u Q I rx ry h
  obtain ⟨d, ds, hd, he, sd, se, hdp, q⟩ := h
  obtain ⟨as, r1⟩ := Dp.reads I d x v hd rx
  have room : X.A.units + 1 + min (PyData.depthAll ds) d.depth < cLine := by have := Nat.min_le_right (PyData.depthAll ds) d.depth; omega
  rcases he with he | he
  · obtain ⟨bs, r2⟩ := Dp.reads I (.list ds) y u he ry
    exact SeqAt.notIn_list_reads r2 r1 se sd room ⟨.bl _, H, I, rfl, q⟩
  · obtain ⟨bs, r2⟩ := Dp.reads I (.tuple ds) y u he ry
    exact SeqAt.notIn_tuple_reads r2 r1 se sd room ⟨.bl _, H, I, rfl, q⟩
end
def gInX (neg : Bool) (d d' : D) (m : Me) : Res D := match py (view m d), py (view m d') with
  | some p, some (.list xs) => if p.canLay0 = true ∧ PyData.canLayAll0 xs = true ∧ p.depth ≤ 60 then .ok (.bl (if neg then !(xs.any fun z => PyData.eqv z p) else xs.any fun z => PyData.eqv z p)) m else .no
  | some p, some (.tuple xs) => if p.canLay0 = true ∧ PyData.canLayAll0 xs = true ∧ p.depth ≤ 60 then .ok (.bl (if neg then !(xs.any fun z => PyData.eqv z p) else xs.any fun z => PyData.eqv z p)) m else .no
  | _, _ => .no
theorem g_inX {K : PySem.W.Frag} {neg : Bool} : G2 K (rInX K neg) (gInX neg) := fun Ex H μ m d d' x y Q hH r1 r2 q => by
  unfold gInX at q
  split at q
  · rename_i p xs e1 e2
    split at q
    · rename_i hs
      exact ⟨p, xs, dp_view hH r1 e1, .inl (dp_view hH r2 e2), hs.1, hs.2.1, hs.2.2, q _ H μ .refl hH (by simp [RV])⟩
    · exact q.elim
  · rename_i p xs e1 e2
    split at q
    · rename_i hs
      exact ⟨p, xs, dp_view hH r1 e1, .inr (dp_view hH r2 e2), hs.1, hs.2.1, hs.2.2, q _ H μ .refl hH (by simp [RV])⟩
    · exact q.elim
  · exact q.elim
end FL
namespace FL
open PySem PySem.Spec PyProof.Rows L2

/-! ### the signs of a text, walked -/
def txtL (x : Str) : List D := x.cps.toList.map fun c => .str ⟨#[c]⟩
theorem goes_txt {K : PySem.W.Frag} {H : Hp} {μ : Mu} {x : Str} : Goes1 K (Its x) H μ (txtL x) gdY := by
  intro H1 μ1 m e hH _
  refine ⟨fun i d e => ?_, by show x.cps.size ≤ (txtL x).length; simp [txtL]⟩
  unfold txtL at e
  rw [List.getElem?_map, Option.map_eq_some_iff] at e
  obtain ⟨c, hc, rfl⟩ := e
  rw [Array.getElem?_toList] at hc
  refine ⟨(Array.getElem?_eq_some_iff.mp hc).1, ?_⟩
  rintro y H' ⟨rfl, c', hc', rfl⟩
  rw [hc] at hc'; cases hc'
  exact ⟨.refl, hH, by simp [RV]⟩
noncomputable def iTxt (f : ME) : MI := fun ρ m => (f ρ m).bind fun d m => match d with
  | .str x => if x.length < 1000000 then .ok (txtL x, gdY) m else .no
  | _ => .no
theorem pdi_txt {X : Cx} {W : WX} {tg e : Expr} {f : ME} (he : PD X W e f) : PDI X W tg e (iTxt f) :=
  PI.imp (pi_str he) fun σ H R ⟨μ, ρ, m, hH, hS, q⟩ => seqR q hH hS fun d m1 v H1 μ1 e1 hH1 r1 hS1 q1 => by
    cases d with
    | str x =>
      simp only [RVv, RV] at r1
      simp only at q1
      split at q1
      · rename_i hl
        exact ⟨x, r1, q1 _ H1 μ1 .refl hH1 ⟨by unfold txtL; simp only [List.length_map, Array.length_toList]; have : x.length = x.cps.size := rfl; rw [sizeLine_eq]; omega, goes_txt⟩⟩
      · exact q1.elim
    | _ => exact q1.elim
end FL

set_option maxRecDepth 100000
namespace FL
open PySem PySem.Spec PyProof.Rows L2

/-! ### x in d.values(), flat values -/
theorem noContains_values : typeLookup (.type "dict_values") "__contains__" = pure none := by rw [typeLookup_type, builtinLookup_eq_fast]; kernel_rfl
theorem entry_contains_iter : entryFor table "proto.contains_iter" = some Builtin.«proto.contains_iter» := entryFor_of_tree (by kernel_rfl)
theorem plain_contains_iter : plainId "proto.contains_iter" = true := by decide +kernel
section
variable {P : Program} {w : World} {A : Around} {E : Value → Shared → Prop} {s : Shared}
theorem contains_loop {I : Addr} {fp wr : List Addr} {G : Array GenState → Array GenState → Prop} {n : Nat} {Pv : Nat → Value → Prop} {St : Nat → Shared → Prop} {R : Result → Shared → Prop} {x : Value} {vs : List Value} {e : Value → Bool}
    (W : WalksS P w A.in1 I fp wr G n Pv St) (hn : n = vs.length) (hval : ∀ i v, Pv i v → vs[i]? = some v) (he : ∀ v ∈ vs, ∀ (A : Around) (s : Shared), SeqAt.EqAt A s v x (e v)) :
    ∀ (k i : Nat) (s : Shared), n - i = k → i ≤ n → St i s → (∀ s', Moved wr G s s' → R (.ok (.ret (.bool ((vs.drop i).any e)))) s') →
      codeAny (model P w) A (.builtin "proto.contains_iter" ⟨[.ref I, x], []⟩) R s := by
  intro k
  induction k with
  | zero =>
    intro i s hk hi hst hR
    have hin : i = n := by omega
    subst hin
    refine codeAny_builtin entry_contains_iter ?_
    rw [Around.under_plainId plain_contains_iter _]
    show wpAny _ A.in1 (pyNext (.ref I) >>= _) _ _ s
    refine wpAny_bind (W.done s _ _ hst fun s' hm => ?_)
    have hq := hR s' hm
    rw [hn, List.drop_length] at hq
    show wpAny _ A.in1 (do rule "in.by-iteration.exhausted"; ret (.bool false)) _ _ s'
    exact wpAny_bind (wpAny_rule (wpAny_pure hq))
  | succ k ih =>
    intro i s hk hi hst hR
    have hlt : i < n := by omega
    refine codeAny_builtin entry_contains_iter ?_
    rw [Around.under_plainId plain_contains_iter _]
    show wpAny _ A.in1 (pyNext (.ref I) >>= _) _ _ s
    refine wpAny_bind (W.item i s _ _ hlt hst fun v s' hP hst' hm => ?_)
    have hv := hval i v hP
    have hdr : vs.drop i = v :: vs.drop (i + 1) := by
      obtain ⟨h1, h2⟩ := List.getElem?_eq_some_iff.mp hv
      rw [List.drop_eq_getElem_cons h1, h2]
    rw [hdr, List.any_cons] at hR
    show wpAny _ A.in1 (do
      let b ← eqBool v x
      if b = true then do rule "in.by-iteration.found"; ret (.bool true) else again (.builtin "proto.contains_iter" ⟨[.ref I, x], []⟩)) _ _ s'
    refine wpAny_bind (he v (List.mem_of_getElem? hv) A.in1 s' P w _ _ ?_)
    cases hb : e v with
    | true =>
      rw [hb, Bool.true_or] at hR
      rw [if_pos rfl]
      exact wpAny_bind (wpAny_rule (wpAny_pure (hR s' hm)))
    | false =>
      rw [hb, Bool.false_or] at hR
      rw [if_neg Bool.false_ne_true]
      exact wpAny_pure ⟨plainId_quiet plain_contains_iter _, ih (i + 1) s' (by omega) hlt hst' fun s'' hm'' => hR s'' (Moved.trans W.gtrans hm hm'')⟩
theorem in_values {W a : Addr} {x : Value} {vs : List (Key × Value)} {ep : Nat} {e : Value → Bool} {Q : Value → Shared → Prop} (hh : A.handled = none) (hW : s.heap.IsValuesView W a) (hd : s.heap.DictAt (mixKind P w) a vs ep) (he : ∀ p ∈ vs, ∀ (A : Around) (s : Shared), SeqAt.EqAt A s p.2 x (e p.2))
    (hQ : ∀ s' : Shared, (∀ b o, s.heap.get? b = some o → s'.heap.get? b = some o) → s'.gens = s.gens → s'.os = s.os → s'.drawn = s.drawn → Q (.bool (vs.any fun p => e p.2)) s') :
    wpAny (model P w) A (compareOp .In x (.ref W)) Q E s := by
  show wpAny _ _ (do return .bool (← contains (.ref W) x)) Q E s
  refine wpAny_bind ?_
  unfold contains
  try with_reducible refine wpAny_holding ?_
  refine wpAny_bind (wpAny_specialOf hW.typeIs noContains_values ?_)
  show wpAny _ _ (if ((none : Option Value) == some Value.none) = true then _ else _) _ E s
  rw [if_neg (by decide)]
  refine wpAny_bind (wpAny_callSpecialUnlessNone?_none (name := Str.ofString "__contains__") hW.typeIs noContains_values ?_)
  dsimp only
  refine wpAny_bind (wpAny_rule ?_)
  refine wpAny_bind (wpAny_tryCatch (wpAny_pyIter_values hW hd ?_))
  refine wpAny_bind (wpAny_runValue ?_)
  have hlt : a < s.heap.objs.size := by obtain ⟨o, es, ho, _⟩ := hd; exact Heap.lt_size ho
  have h3 : A.in1.handled = none := by simp [hh]
  refine contains_loop (vs := vs.map (·.2)) (e := e) ((Walks.dictValues (knd := mixKind P w) h3 s.heap.objs.size a (Nat.ne_of_lt hlt) vs ep).toS) (by simp) (fun i v ⟨k, hk⟩ => by rw [List.getElem?_map, hk]; rfl) (fun v hv => ?_) (vs.length - 0) 0 { s with heap := s.heap.push { cls := .type "dict_valueiterator", data := .fields #[.ref a, .int 0 0, .int vs.length 0, .int ep 0] } } rfl (Nat.zero_le _) ⟨⟨_, Heap.get?_push_size _ rfl, rfl, rfl⟩, by exact hd.keep fun b u e => Heap.get?_push_of_some _ e⟩ fun s' hm => ?_
  · obtain ⟨p, hp, rfl⟩ := List.mem_map.mp hv
    exact he p hp
  · show wpAny _ _ _ _ _ s'
    refine wpAny_pure (wpAny_pure ?_)
    rw [List.drop_zero, List.any_map]
    exact hQ s' (fun b o e => hm.heap b o (fun h => Nat.lt_irrefl _ ((List.mem_singleton.mp h) ▸ Heap.lt_size e)) (Heap.get?_push_of_some _ e)) hm.gens hm.os hm.drawn
end
theorem kv_any {κ : Type} {y : V} {kvs : List (κ × V)} {vs : List (κ × Value)} (r : KV kvs vs) (f : (kvs.map (·.2)).all flatV = true) : (vs.any fun p => eqU y p.2) = (kvs.map (·.2)).any fun z => eqV z y := by
  unfold KV at r
  induction r with
  | nil => rfl
  | cons r t ih =>
    simp only [List.map_cons, List.all_cons, Bool.and_eq_true] at f
    simp only [List.any_cons, List.map_cons]
    rw [ih f.2, eqU_of r.2 f.1]
def tInV (ty td : TE) : TE := fun σ H Q => ty σ H fun y H1 => td σ H1 fun x H2 => ∃ a kvs, x = V.ref a ∧ Rd H2 a (.dK kvs) ∧ flatV y = true ∧ (kvs.map (·.2)).all flatV = true ∧ Q (.bl ((kvs.map (·.2)).any fun z => eqV z y)) H2
section
variable {X : Cx} {o i : Expr} {td ty : TE} {apos mpos : Pos}
theorem pc_inVh (hc : X.calm = true) (hi : PE X i ty) (hd : PE X o td) (hbase : attributeBase o "values" X.env (eval o X.env) = eval o X.env := by rfl) (hline : (apos.endLine == mpos.line) = true := by rfl) :
    PC X .In i (.Call (.Attribute o "values" apos) [] [] mpos) (tInV ty td) := by
  refine ⟨fun pins s σ H Q I h => ?_⟩
  refine thn (hi.run pins s σ H _ I h) fun iv s0 ⟨y, H0, I0, ry, q0⟩ => ?_
  refine wpAny_Call_method0_late hbase hline (thn (hd.run pins s0 σ H0 _ I0 q0) fun v s1 ⟨x, H1, I1, r1, a, kvs, ex, ha, fy, fv, q⟩ => ?_)
  subst ex
  obtain rfl : v = Value.ref a := r1
  obtain ⟨_, hsys, vs, rel, dof⟩ := dk_rd I1.hok ha
  obtain ⟨ep, dat⟩ := dof.dictAt
  have dat' := dat
  obtain ⟨ob, es, ho, ex, hdat, hko, hpr, hnd⟩ := dat'
  refine ⟨"dict", "dict.values", F.plainAttrs_dict, F.slot_dict_values, F.type_dict_values, ⟨ob, ho, ex.1⟩, fun b e => ?_, Calls.callWith_builtin rfl (PySem.evalArgs_none ?_)⟩
  · cases e
    exact ⟨ob, ho, ex.2.1⟩
  refine call_meetsIn F.slot_dict_values ⟨ob, ho, ex.1⟩ F.entry_dict_values (F.args_dict_values_1 _) (meets_dict_values (mixKind X.prog X.w) a hsys) ⟨⟨vs, dof⟩, ?_⟩
  have k1 : ∀ b u, s1.heap.get? b = some u → (s1.heap.push { cls := .type "dict_values", data := .fields #[.ref a] }).get? b = some u := fun b u e => Heap.get?_push_of_some _ e
  have dat1 : (s1.heap.push { cls := .type "dict_values", data := .fields #[.ref a] }).DictAt (mixKind X.prog X.w) a vs ep := dat.keep k1
  refine in_values (s := { s1 with heap := s1.heap.push { cls := .type "dict_values", data := .fields #[.ref a] } }) (e := eqU y) (I1.ok.hd hc) ⟨_, Heap.get?_push_size _ rfl, rfl, rfl⟩ dat1 (fun p hp A s => ?_) fun s' k2 g o d => ?_
  · obtain ⟨j, hj, e⟩ := List.getElem_of_mem hp
    obtain ⟨k, u⟩ := p
    obtain ⟨z, h1, h2⟩ := KV.at' rel (i := j) (k := k) (v := u) (by rw [List.getElem?_eq_getElem hj, e])
    have fz : flatV z = true := List.all_eq_true.mp fv z (List.mem_map.mpr ⟨_, List.mem_of_getElem? h1, rfl⟩)
    rw [eqU_of h2 fz]
    exact eqAt_V h2 ry fz fy
  · have J := I1.kept (h' := s'.heap) (t' := s'.toks) fun b u e => k2 b u (k1 b u e)
    have e : s' = { s1 with heap := s'.heap, toks := s'.toks } := by
      cases s'
      simp only at g o d
      subst g o d
      rfl
    rw [e, kv_any rel fv]
    exact ⟨.bl _, H1, J, rfl, q⟩
end
theorem rvk_vals {K : PySem.W.Frag} {H : Hp} {μ : Mu} : ∀ {kvs : List (Key × D)} {ps : List (Key × V)}, RVk K H μ kvs ps → RVs K H μ (kvs.map (·.2)) (ps.map (·.2))
  | [], ps, r => by simp only [RVk] at r; subst r; simp [RVs]
  | (k, d) :: kvs, ps, r => by
    simp only [RVk, RVp] at r
    obtain ⟨v, w, rfl, r1, r2⟩ := r
    simp only [List.map_cons, RVs]
    exact ⟨v, _, rfl, r1, rvk_vals r2⟩
/-- x in d.values() -/
def gInV (k d : D) (m : Me) : Res D := match view m d with
  | .dct kvs => if flatD k = true ∧ (kvs.map (·.2)).all flatD = true then .ok (.bl ((kvs.map (·.2)).any fun z => eqF z k)) m else .no
  | _ => .no
section
variable {X : Cx} {W : WX} {o i : Expr} {fi fo : ME} {apos mpos pos : Pos}
theorem pc_inV (hc : X.calm = true) (hi : PD X W i fi) (ho : PD X W o fo) (hbase : attributeBase o "values" X.env (eval o X.env) = eval o X.env := by rfl) (hline : (apos.endLine == mpos.line) = true := by rfl) :
    PC X .In i (.Call (.Attribute o "values" apos) [] [] mpos) (tR X.K W (RVv X.K) (m2 gInV fi fo)) :=
  ⟨fun pins s σ H Q I h => (pc_inVh hc hi ho hbase hline).run pins s σ H Q I (by
    obtain ⟨μ, ρ, m, hH, hS, q⟩ := h
    refine seqR q hH hS fun d m1 v H1 μ1 e1 hH1 r1 hS1 q1 => ?_
    refine seqR q1 hH1 hS1 fun d' m2 v' H2 μ2 e2 hH2 r2 hS2 q2 => ?_
    unfold gInV at q2
    split at q2
    · rename_i kvs e3
      split at q2
      · rename_i hf
        obtain ⟨a, ps, rfl, h1, h2⟩ := view_dct hH2 r2 e3
        have r1' := RV.ext e2 d v r1
        obtain ⟨g1, g2⟩ := inD_eq r1' hf.1 (rvk_vals h2) hf.2
        exact ⟨a, ps, rfl, h1, by rw [← flat_eq r1']; exact hf.1, g1, q2 _ H2 μ2 .refl hH2 (by simp only [RVv, RV, g2]; rfl)⟩
      · exact q2.elim
    · exact q2.elim)⟩
theorem pd_inV (hc : X.calm = true) (hi : PD X W i fi) (ho : PD X W o fo) (hbase : attributeBase o "values" X.env (eval o X.env) = eval o X.env := by rfl) (hline : (apos.endLine == mpos.line) = true := by rfl) (h1 : behindInMarks .In (.Call (.Attribute o "values" apos) [] [] mpos) = false := by rfl) :
    PD X W (.Compare i [.In] [.Call (.Attribute o "values" apos) [] [] mpos] pos) (m2 gInV fi fo) := pe_cmp (pc_inV hc hi ho hbase hline) h1
theorem pdt_inV (hc : X.calm = true) (hi : PD X W i fi) (ho : PD X W o fo) (hbase : attributeBase o "values" X.env (eval o X.env) = eval o X.env := by rfl) (hline : (apos.endLine == mpos.line) = true := by rfl) (h1 : behindInMarks .In (.Call (.Attribute o "values" apos) [] [] mpos) = false := by rfl) :
    PDT X W (.Compare i [.In] [.Call (.Attribute o "values" apos) [] [] mpos] pos) (mB (m2 gInV fi fo)) := PT.imp (pt_cmp (pc_inV hc hi ho hbase hline) h1) fun σ H Q h => tB_imp h
end
end FL
namespace FL
open PySem PySem.Spec PyProof.Rows L2

/-! ### two dicts that are equal, compared -/
def rNeDR : R2 := fun x y H Q => ∃ a b ks ls, x = .ref a ∧ y = .ref b ∧ Rd H a (.dK ks) ∧ Rd H b (.dK ls) ∧ ks.length = ls.length ∧ (∀ p ∈ ks, valV ls p.1 = some p.2 ∧ flatB p.2 = true) ∧ Q (.bl false) H
theorem op_neDR {X : Cx} (hu : X.A.units + 64 < cLine) : OpR X (compareOp .NotEq) rNeDR := by
  intro pins s σ H x y v u Q I rx ry h
  obtain ⟨a, b, ks, ls, rfl, rfl, ea, eb, hlen, hp, q⟩ := h
  obtain rfl : v = Value.ref a := rx
  obtain rfl : u = Value.ref b := ry
  obtain ⟨_, ya, va, ra, da⟩ := dk_rd I.hok ea
  obtain ⟨_, yb, vb, rb, db⟩ := dk_rd I.hok eb
  have hl : va.length = vb.length := by rw [← ra.length, ← rb.length]; exact hlen
  exact PySem.W.keq_ne (knd := mixKind X.prog X.w) (r := true) ya yb da db (by omega) (fun _ => hits_all rb ra hp) (fin_bl I q (by simp [hl]))
theorem flat_one {K : PySem.W.Frag} {H : Hp} {μ : Mu} {d : D} {v v' : V} (f : flatD d = true) (r : RV K H μ d v) (r' : RV K H μ d v') : v = v' ∧ flatB v = true := by
  cases d <;> first | (simp only [RV] at r r'; subst r r'; exact ⟨rfl, rfl⟩) | cases f
open Classical in
noncomputable def gNeK (d d' : D) (m : Me) : Res D := match view m d, view m d' with
  | .dct ks, .dct ls => if ks.length = ls.length ∧ ∀ p ∈ ks, flatD p.2 = true ∧ getK ls p.1 = some p.2 then .ok (.bl false) m else .no
  | _, _ => .no
theorem g_neK {K : PySem.W.Frag} : G2 K rNeDR gNeK := fun Ex H μ m d d' x y Q hH r1 r2 q => by
  unfold gNeK at q
  split at q
  · rename_i ks ls e1 e2
    split at q
    · rename_i h
      obtain ⟨a, ps, rfl, h1, h2⟩ := view_dct hH r1 e1
      obtain ⟨b, qs, rfl, h3, h4⟩ := view_dct hH r2 e2
      obtain ⟨ts, t1, t2, t3⟩ := rvq_pairs h2
      have g4 := rvk_iff.mp h4
      have hlen : ps.length = qs.length := by
        have l1 := rvq_len (rvk_iff.mp h2)
        have l2 := rvq_len g4
        omega
      refine ⟨a, b, ps, qs, rfl, rfl, h1, h3, hlen, fun p hp => ?_, q _ H μ .refl hH (by simp [RV])⟩
      rw [t2] at hp
      obtain ⟨t, ht, rfl⟩ := List.mem_map.mp hp
      obtain ⟨z1, z2⟩ := h.2 (t.1, t.2.1) (by rw [t1]; exact List.mem_map_of_mem (f := fun t : Key × D × V => (t.1, t.2.1)) ht)
      have hr := t3 t ht
      have hg := rvq_get (k := t.1) g4
      simp only at z1 z2
      rw [z2] at hg
      obtain ⟨w, w1, w2⟩ := hg
      obtain ⟨f1, f2⟩ := flat_one z1 hr w2
      exact ⟨by rw [w1, ← f1], f2⟩
    · exact q.elim
  · exact q.elim
end FL

set_option maxRecDepth 100000
namespace FL
open PySem PySem.Spec PyProof.Rows L2

/-! ### d.update(d2) -/
def rDUpd : V → List V → Hp → VK → Prop := fun x xs H Q => ∃ (a b : Addr) (ks ms : List (Key × V)), x = .ref a ∧ xs = [.ref b] ∧ a ≠ b ∧ H a = some (.dK ks) ∧ Rd H b (.dK ms) ∧ ks.length + ms.length ≤ sizeLine ∧ Q .non (upd H a (.dK (mergeK ks ms)))
theorem mt_dupd {X : Cx} : MtR X "dict.update" rDUpd := by
  intro pins s σ H x xs v us Q I rx rxs h
  obtain ⟨a, b, ks, ms, rfl, rfl, hab, ha, hb, hsz, q⟩ := h
  obtain rfl : v = Value.ref a := rx
  obtain ⟨u, rfl, ru⟩ := rxs.one
  obtain rfl : u = Value.ref b := ru
  obtain ⟨_, ya, va, ra, da⟩ := dk_of I.hok ha
  obtain ⟨_, yb, vb, rb, db⟩ := dk_rd I.hok hb
  have hl : va.length + vb.length ≤ sizeLine := by rw [← ra.length, ← rb.length]; exact hsz
  refine call_meetsIn PySem.F.slot_dict_update da.typeIs PySem.F.entry_dict_update (PySem.F.args_dict_update_2 _ _) (meets_dict_update (mixKind X.prog X.w) a b hab yb) ⟨va, vb, da, db, hl, fun h' hd' ho' sb => ?_⟩
  have hm : ObjOk X.prog X.w (upd H a (.dK (mergeK ks ms))) h' a (.dK (mergeK ks ms)) := ⟨Nat.le_trans (length_mergeK ms ks) hsz, ya, merged va vb, KV.merge rb ra, hd'⟩
  have he : ∃ u, h'.get? a = some u := by obtain ⟨o, _, _, ho, _⟩ := hd'; exact ⟨o, ho⟩
  exact ⟨.non, _, I.write (e := a) (t' := s.toks) (by rw [ha]; trivial) (.inl rfl) (fun b u hb hu => (sb.2 b hb).trans hu) he hm, rfl, q⟩
def tDUpd (to : TE) (t : TA) : TE := fun σ H Q => to σ H fun x H1 => (∃ a, x = V.ref a ∧ IsD H1 a) ∧ t σ H1 fun xs H2 => rDUpd x xs H2 Q
section
variable {X : Cx} {o e : Expr} {es : List Expr} {to : TE} {t : TA} {apos cpos : Pos}
theorem pe_dupd (ho : PE X o to) (ha : PA X (e :: es) t)
    (hbase : attributeBase o "update" X.env (eval o X.env) = eval o X.env := by rfl)
    (hfew : ((backTo cpos (starEach (e :: es) X.env)).all (fun x => !x.1) && (backToKw cpos (keywordEach [] X.env)).all (fun x => x.1.isSome)
      && decide ((e :: es).length + ([] : List Keyword).length + (if ([] : List Keyword).isEmpty then 0 else 1) < 30)) = true := by rfl)
    (hline : (apos.endLine == cpos.line) = true := by rfl) (hs : starEach (e :: es) X.env = (false, eval e X.env) :: starEach es X.env := by rfl) (hplain : (backTo cpos (starEach es X.env)).any (·.1) = false := by rfl) :
    PE X (.Call (.Attribute o "update" apos) (e :: es) [] cpos) (tDUpd to t) := by
  refine ⟨fun pins s σ H Q I h => ?_⟩
  refine wpAny_Call_method_late hbase hfew hline rfl (thn (ho.run pins s σ H _ I h) fun v s1 ⟨x, H1, I1, r1, ty, q1⟩ => ?_)
  obtain ⟨a, ex, hd⟩ := ty
  subst ex
  obtain rfl : v = Value.ref a := r1
  obtain ⟨t1, t2, _⟩ := isD_at I1 hd
  refine ⟨"dict", "dict.update", PySem.F.plainAttrs_dict, PySem.F.slot_dict_update, PySem.F.type_dict_update, t1, t2, ?_⟩
  have hA := ha.run cpos pins s1 σ H1 _ I1 q1
  rw [hs] at hA ⊢
  refine Calls.callWith_builtin (by show (false || (backTo cpos (starEach es X.env)).any (·.1)) = false; rw [hplain] <;> rfl) (Calls.evalArgs_plain ?_)
  exact thn hA fun us s2 ⟨vs, H2, I2, r2, q2⟩ => mt_dupd pins s2 σ H2 (.ref a) vs (.ref a) us Q I2 rfl r2 q2
end
def mDupd (fo fe : ME) : ME := fun ρ m => (fo ρ m).bind fun d m => match d with
  | .ref i => match m[i]? with
    | some (.dK _) => (fe ρ m).bind fun y m => match m[i]?, y with
      | some (.dK ks), .dct ms => if ks.length + ms.length < 1000000 then .ok .non (m.set i (.dK (ms.foldl (fun acc kv => setK acc kv.1 kv.2) ks))) else .no
      | _, _ => .no
    | _ => .no
  | _ => .no
section
variable {X : Cx} {W : WX} {o e : Expr} {fo fe : ME} {apos cpos : Pos}
theorem pd_dupd (ho : PD X W o fo) (he : PD X W e fe) (hbase : attributeBase o "update" X.env (eval o X.env) = eval o X.env := by rfl)
    (hfew : ((backTo cpos (starEach [e] X.env)).all (fun x => !x.1) && (backToKw cpos (keywordEach [] X.env)).all (fun x => x.1.isSome)
      && decide (([e] : List Expr).length + ([] : List Keyword).length + (if ([] : List Keyword).isEmpty then 0 else 1) < 30)) = true := by rfl)
    (hline : (apos.endLine == cpos.line) = true := by rfl) (hs : starEach [e] X.env = (false, eval e X.env) :: starEach [] X.env := by rfl) (hplain : (backTo cpos (starEach [] X.env)).any (·.1) = false := by rfl) :
    PD X W (.Call (.Attribute o "update" apos) [e] [] cpos) (mDupd fo fe) :=
  PE.imp (pe_dupd ho (pa_cons he pa_nil hs) hbase hfew hline hs hplain) fun σ H Q ⟨μ, ρ, m, hH, hS, q⟩ => by
    refine seqR q hH hS fun d m1 v H1 μ1 e1 hH1 r1 hS1 q1 => ?_
    cases d with
    | ref i =>
      simp only [RVv, RV] at r1
      obtain ⟨a, rfl, ha⟩ := r1
      cases e2 : m1[i]? with
      | none => simp only [e2] at q1; exact q1.elim
      | some c =>
        cases c with
        | dK kvs0 =>
          simp only [e2] at q1
          obtain ⟨a', ea, ps0, hs0, _⟩ := hH1.at' i _ e2
          rw [ha] at ea; cases ea
          refine ⟨⟨a, rfl, .inl ⟨ps0, .inl hs0⟩⟩, ?_⟩
          refine seqR q1 hH1 hS1 fun y m2 z H2 μ2 e2' hH2 r2 hS2 q2 => ?_
          have ha2 := e2'.get ha
          cases e3 : m2[i]? with
          | none => simp only [e3] at q2; exact q2.elim
          | some c =>
            cases c with
            | dK ks =>
              cases y with
              | dct ms =>
                simp only [e3] at q2
                split at q2
                · rename_i hl
                  obtain ⟨a', ea, ps, hs2, hr⟩ := hH2.at' i _ e3
                  rw [ha2] at ea; cases ea
                  simp only [RVv, RV] at r2
                  obtain ⟨b, qs, rfl, hn, hb, hr2⟩ := r2
                  have hab : a ≠ b := fun e => hn.1 (e ▸ List.mem_of_getElem? ha2)
                  have l1 := rvq_len (rvk_iff.mp hr)
                  have l2 := rvq_len (rvk_iff.mp hr2)
                  have x := Ext.wr (o := .dK (mergeK ps qs)) hH2 ha2
                  refine ⟨a, b, ps, qs, rfl, rfl, hab, hs2, hb, by rw [← l1, ← l2, sizeLine_eq]; omega, ?_⟩
                  refine q2 _ _ μ2 x (hH2.wr ha2 ⟨_, upd_same, rvk_iff.mpr ?_⟩) (by simp [RV])
                  exact L2.Paired.mapP (merge_rv (rvk_iff.mp hr2) (rvk_iff.mp hr)) fun p q z => ⟨z.1, RV.ext x _ _ z.2⟩
                · exact q2.elim
              | _ => simp only [e3] at q2; exact q2.elim
            | _ => simp only [e3] at q2; exact q2.elim
        | _ => simp only [e2] at q1; exact q1.elim
    | _ => exact q1.elim
end
end FL
namespace FL
open PySem PySem.Spec PyProof.Rows L2

/-! ### dict(xs), xs a list of pairs: a dict as a value -/
def pairD : D → Option (Key × D)
  | .tup [k, v] => (keyD k).map fun k => (k, v)
  | _ => none
def pairsD : List D → Option (List (Key × D))
  | [] => some []
  | d :: ds => (pairD d).bind fun p => (pairsD ds).map fun r => p :: r
def gDictP (ds : List D) (m : Me) : Res D := match ds with
  | [d] => match (lstV m d).bind pairsD with
    | some kvs => .ok (.dct (kvs.foldl (fun acc kv => setK acc kv.1 kv.2) [])) m
    | none => .no
  | _ => .no
theorem pairs_rv {K : PySem.W.Frag} {H : Hp} {μ : Mu} : ∀ {ds : List D} {vs : List V} {kvs : List (Key × D)}, RVs K H μ ds vs → pairsD ds = some kvs → ∃ (ps : List Addr) (us : List (Key × V)), vs = ps.map V.ref ∧ RVq K H μ kvs us ∧ Paired (fun p kv => SqT K H p [kV kv.1, kv.2]) ps us
  | [], vs, kvs, r, e => by
    simp only [RVs] at r; subst r
    simp only [pairsD] at e; cases e
    exact ⟨[], [], rfl, .nil, .nil⟩
  | d :: ds, vs, kvs, r, e => by
    simp only [RVs] at r
    obtain ⟨v, w, rfl, r1, r2⟩ := r
    simp only [pairsD] at e
    obtain ⟨p, e1, e2⟩ := Option.bind_eq_some_iff.mp e
    obtain ⟨q, e3, rfl⟩ := Option.map_eq_some_iff.mp e2
    obtain ⟨ps, us, rfl, h1, h2⟩ := pairs_rv r2 e3
    unfold pairD at e1
    split at e1
    · rename_i k x
      obtain ⟨k', ek, rfl⟩ := Option.map_eq_some_iff.mp e1
      simp only [RV] at r1
      obtain ⟨a, xs, rfl, hs, hz, hr⟩ := r1
      simp only [RVs] at hr
      obtain ⟨u1, w1, rfl, g1, u2, w2, rfl, g2, rfl⟩ := hr
      have hk := keyD_rv g1 ek
      subst hk
      exact ⟨a :: ps, (k', u2) :: us, rfl, .cons ⟨rfl, g2⟩ h1, .cons hs.sq h2⟩
    · cases e1
theorem g_dictP {K : PySem.W.Frag} : GC K (fun xs H Q => ∃ (a : Addr) (ps : List Addr) (kvs : List (Key × V)), xs = [.ref a] ∧ SqL K H a (ps.map V.ref) ∧ Paired (fun p kv => SqT K H p [kV kv.1, kv.2]) ps kvs ∧
    ∀ p, H p = none → Q (.ref p) (upd H p (.dK (mergeK [] kvs)))) gDictP := fun Ex H μ m ds vs Q hH rr q => by
  unfold gDictP at q
  split at q
  · obtain ⟨v, rfl, r⟩ := rvs1 rr
    split at q
    · rename_i d kvs e
      obtain ⟨xs, e1, e2⟩ := Option.bind_eq_some_iff.mp e
      obtain ⟨a, ws, rfl, ha, hz, hr⟩ := lstV_of hH r e1
      obtain ⟨ps, us, rfl, h1, h2⟩ := pairs_rv hr e2
      refine ⟨a, ps, us, rfl, .of ha, h2, fun p hp => ?_⟩
      have x := Ext.new (o := .dK (mergeK [] us)) hH hp
      refine q _ _ μ x (hH.new hp) ?_
      simp only [RV]
      refine ⟨p, _, rfl, ⟨hH.notin hp, fun z => hH.hid _ z hp⟩, .inl upd_same, rvk_iff.mpr ?_⟩
      exact L2.Paired.mapP (merge_rv h1 .nil) fun p q z => ⟨z.1, RV.ext x _ _ z.2⟩
    · exact q.elim
  · exact q.elim
end FL

set_option maxRecDepth 100000
namespace FL
open PySem PySem.Spec PyProof.Rows L2

/-! ### range(i, j, -1) -/
def rngD (i : Int) (n : Nat) : List D := (List.range n).map fun (k : Nat) => .int (i + k * (-1))
theorem goes_rngD {K : PySem.W.Frag} {H : Hp} {μ : Mu} {i : Int} {n : Nat} : Goes1 K (Itc i (-1) n) H μ (rngD i n) gdY := by
  intro H1 μ1 m x hH _
  refine ⟨fun j d e => ?_, by show n ≤ (rngD i n).length; simp [rngD]⟩
  have hj : j < n := by
    have := (List.getElem?_eq_some_iff.mp e).1
    simpa [rngD] using this
  refine ⟨hj, ?_⟩
  rintro y H' ⟨rfl, rfl⟩
  have : d = .int (i + j * (-1)) := by
    simp only [rngD, List.getElem?_map, List.getElem?_range hj, Option.map_some] at e
    exact (Option.some.inj e).symm
  subst this
  exact ⟨.refl, hH, by simp [RV]⟩
def iRange3 (f : MA) : MI := fun ρ m => (f ρ m).bind fun ds m => match ds with
  | [.int i, .int j, .int c] => if c = -1 ∧ (i ≤ 1000000 ∧ -1000000 ≤ i) ∧ j ≤ 1000000 ∧ -1000000 ≤ j then .ok (rngD i (i - j).toNat, gdY) m else .no
  | _ => .no
section
variable {X : Cx} {W : WX} {tg a b c : Expr} {p pos : Pos}
theorem ints3 {K : PySem.W.Frag} {H : Hp} {μ : Mu} {i j k : Int} {vs : List V} (r : RVs K H μ [.int i, .int j, .int k] vs) : vs = [.int i, .int j, .int k] := by
  simp only [RVs, RV] at r
  obtain ⟨v, r, rfl, rfl, v', r', rfl, rfl, v'', r'', rfl, rfl, rfl⟩ := r
  rfl
theorem pdi_range3 {f : MA} (hg : Gl X "range") (hm : X.mg "range" = none) (ha : PDA X W 3 [a, b, c] f) (hs : starEach [a, b, c] X.env = (false, eval a X.env) :: starEach [b, c] X.env := by rfl) (hpl : (backTo pos (starEach [b, c] X.env)).any (·.1) = false := by rfl) :
    PDI X W tg (.Call (.Name "range" p) [a, b, c] [] pos) (iRange3 f) :=
  PI.imp (pi_range3 hg hm ha hs hpl) fun σ H R ⟨μ, ρ, m, hH, hS, q⟩ => seqR q hH hS fun ds m1 vs H1 μ1 e1 hH1 r1 hS1 q1 => by
    split at q1
    · rename_i i j c
      split at q1
      · rename_i h
        obtain ⟨rfl, h1, h2⟩ := h
        refine ⟨i, j, -1, _, ints3 r1.1, RgC.neg (by omega) (by omega) (by omega) (by omega), q1 _ H1 μ1 .refl hH1 ⟨?_, goes_rngD⟩⟩
        simp only [rngD, List.length_map, List.length_range, sizeLine_eq]; omega
      · exact q1.elim
    · exact q1.elim
end
/-! ### a tuple so many times -/
theorem tuple_mul1 (l : Addr) (items : Array Value) (n : Nat) (dd : Option Addr) (sl : Array (Option Value)) (u : Tok) :
    Meets (Builtin.«tuple.__mul__» ⟨[.ref l, .int 1 u], []⟩) (fun _ R s => s.heap.get? l = some { cls := .type "tuple", dict := dd, data := .seq items n, slots := sl } ∧ R (.ok (.ret (Value.ref l))) s) :=
  .of_wp fun prog w A R s h => by
    obtain ⟨hp, g, d, tk, os⟩ := s
    obtain ⟨hl, h⟩ := h
    have f1 := AutoSeq1.idx_int
    wp_walk using wpAny_loadPart' hl
    exact ⟨_, rfl, h⟩
theorem tuple_mul0 (l : Addr) (items : Array Value) (n : Nat) (dd : Option Addr) (sl : Array (Option Value)) (x : Int) (u : Tok) (c0 : (decide (x < -(2 ^ 63)) || decide (x ≥ 2 ^ 63)) = false) (c1 : (items.isEmpty || x == 1) = false) (c2 : (decide (x ≤ 0) || items.isEmpty) = true) :
    Meets (Builtin.«tuple.__mul__» ⟨[.ref l, .int x u], []⟩) (fun _ R s => s.heap.get? l = some { cls := .type "tuple", dict := dd, data := .seq items n, slots := sl } ∧
      R (.ok (.ret (Value.ref s.heap.objs.size))) { s with heap := s.heap.push { cls := Value.type "tuple", data := Data.seq #[] }, toks := s.toks }) :=
  .of_wp fun prog w A R s h => by
    obtain ⟨hp, g, d, tk, os⟩ := s
    obtain ⟨hl, h⟩ := h
    have f1 := AutoSeq1.idx_int
    wp_walk using wpAny_loadPart' hl
    repeat (first
      | (refine wpAny_ite_false (decide_eq_false (by rw [c0]; exact Bool.false_ne_true)) ?_; wp_walk using wpAny_loadPart' hl)
      | (refine wpAny_ite_false (decide_eq_false (by rw [c1]; exact Bool.false_ne_true)) ?_; wp_walk using wpAny_loadPart' hl)
      | (refine wpAny_ite_true (decide_eq_true c2) ?_; wp_walk using wpAny_loadPart' hl))
    exact ⟨_, rfl, h⟩
def rRepTN (K : PySem.W.Frag) : R2 := fun x y H Q => ∃ l k xs, x = .ref l ∧ y = .int k ∧ SqT K H l xs ∧ xs ≠ [] ∧ -1000 ≤ k ∧ k ≤ 1000 ∧ xs.length ≤ 1000 ∧ (k = 1 → Q (.ref l) H) ∧
  (k ≠ 1 → ∀ p (o : Obj), PlO o → H p = none → Q (.ref p) (upd H p (.frz o (.tup (List.replicate k.toNat xs).flatten))))
theorem op_repTN {X : Cx} : OpR X (binaryOp .Mult) (rRepTN X.K) := by
  intro pins s σ H x y v u Q I rx ry h
  obtain ⟨l, k, xs, rfl, rfl, hT, hne, h0, h2, hz, q1, q2⟩ := h
  obtain rfl : v = Value.ref l := rx
  obtain ⟨t, rfl⟩ := ry
  obtain ⟨its, r, ⟨⟨cls, dd, data, sl⟩, ho, hc, n, hd⟩, hs⟩ := I.tuple hT
  simp only at hc hd
  subst hc hd
  have hle : its.length = xs.length := r.length.symm
  have hn : its ≠ [] := fun e => hne (List.eq_nil_of_length_eq_zero (by rw [← hle, e]; rfl))
  have hi : its.toArray.isEmpty = false := by
    cases its with
    | nil => exact absurd rfl hn
    | cons a b => rfl
  have c0 : (decide (k < -(2 ^ 63)) || decide (k ≥ 2 ^ 63)) = false := by
    rw [decide_eq_false (by omega), decide_eq_false (by omega)]; rfl
  have road : ∀ {Q' : Value → Shared → Prop} {E' : Value → Shared → Prop}, wpAny (model X.prog X.w) X.A (call (.builtin "tuple.__mul__") [.ref l, .int k t]) Q' E' s → wpAny (model X.prog X.w) X.A (binaryOp .Mult (.ref l) (.int k t)) Q' E' s := fun w =>
    wpAny_binaryOp_repeat_ref (T := "tuple") (U := "int") (by decide) ⟨_, ho, rfl⟩ (fun s' => typeIs_int s' k t) noFill_tuple_mul F.fills_int_mul F.slot_int_rmul repeat_tuple F.slot_int_index.lookup
      (call_meets F.slot_int_rmul (typeIs_int s k t) F.entry_int_rmul (F.args_int_rmul_2 _ _) (int_rmul_tuple k t l its.toArray n dd sl) ⟨ho, rfl, ⟨_, ho, rfl⟩, w⟩)
  by_cases k1 : k = 1
  · subst k1
    exact road (call_meets F.slot_tuple_mul ⟨_, ho, rfl⟩ F.entry_tuple_mul (F.args_tuple_mul_2 _ _) (tuple_mul1 l its.toArray n dd sl t) ⟨ho, ⟨.ref l, H, I, rfl, q1 rfl⟩⟩)
  · have c1 : (its.toArray.isEmpty || k == 1) = false := by
      rw [hi, Bool.false_or]
      exact beq_eq_false_iff_ne.mpr k1
    have q := q2 k1
    have flen : (List.replicate k.toNat its).flatten.length ≤ sizeLine := by
      rw [PyProof.Rows.lm_len_rep_flat, hle, sizeLine_eq]
      have a1 : k.toNat * xs.length ≤ 1000 * 1000 := Nat.mul_le_mul (by omega) hz
      omega
    have new : ∀ (arr : Array Value), arr.toList = (List.replicate k.toNat its).flatten → EP X pins σ Q (.ref s.heap.objs.size) { s with heap := s.heap.push { cls := Value.type "tuple", data := Data.seq arr }, toks := s.toks } := fun arr ea => by
      have hr := r.rep k.toNat
      rw [← ea] at hr
      refine ⟨.ref s.heap.objs.size, upd H s.heap.objs.size (.frz { cls := .type "tuple", data := .seq arr } (.tup (List.replicate k.toNat xs).flatten)), I.laid (t' := s.toks) (fun b ob q => Heap.get?_push_of_some _ q) (Nat.le_refl _) ?_, rfl, q _ _ ⟨rfl, rfl⟩ (I.hok.fresh (Nat.le_refl _))⟩
      exact ⟨Heap.get?_push_size _ rfl, by rw [PyProof.Rows.lm_len_rep_flat, ← hle]; rw [PyProof.Rows.lm_len_rep_flat] at flen; exact flen, _, hr, ⟨_, Heap.get?_push_size _ rfl, rfl, _, rfl⟩⟩
    by_cases k0 : k ≤ 0
    · have c2 : (decide (k ≤ 0) || its.toArray.isEmpty) = true := by rw [decide_eq_true k0]; rfl
      refine road (call_meets F.slot_tuple_mul ⟨_, ho, rfl⟩ F.entry_tuple_mul (F.args_tuple_mul_2 _ _) (tuple_mul0 l its.toArray n dd sl k t c0 c1 c2) ⟨ho, new #[] ?_⟩)
      rw [show k.toNat = 0 by omega]; rfl
    · have c2 : (decide (k ≤ 0) || its.toArray.isEmpty) = false := by
        rw [hi, Bool.or_false]
        exact decide_eq_false k0
      have hsz0 : its.toArray.size = xs.length := by rw [List.size_toArray, hle]
      have hm : ((its.toArray.size : Nat) : Int) * k ≤ 1000000 := by
        rw [hsz0]
        have a1 : ((xs.length : Nat) : Int) * k ≤ 1000 * k := Int.mul_le_mul_of_nonneg_right (by omega) (by omega)
        omega
      have c4 : Builtin.Tuple.tupleTooMany (((its.toArray.size : Nat) : Int) * k) = false := by
        unfold Builtin.Tuple.tupleTooMany
        rw [sizeLine_eq]
        exact decide_eq_false (by omega)
      refine road (call_meets F.slot_tuple_mul ⟨_, ho, rfl⟩ F.entry_tuple_mul (F.args_tuple_mul_2 _ _) (tuple_mulW l its.toArray n dd sl k t c0 c1 c2 (by omega) c4 (by rw [size_rep, List.size_toArray]; exact flen)) ⟨ho, new _ ?_⟩)
      rw [size_rep]
def gMulT (d d' : D) (m : Me) : Res D := match d, d' with
  | .tup xs, .int k => if xs ≠ [] ∧ xs.length ≤ 1000 ∧ k ≤ 1000 ∧ -1000 ≤ k then .ok (.tup (List.replicate k.toNat xs).flatten) m else .no
  | _, _ => .no
theorem RVs.rep {K : PySem.W.Frag} {H : Hp} {μ : Mu} {ds : List D} {vs : List V} (r : RVs K H μ ds vs) : ∀ n : Nat, RVs K H μ (List.replicate n ds).flatten (List.replicate n vs).flatten
  | 0 => by simp [RVs]
  | n + 1 => by simp only [List.replicate_succ, List.flatten_cons]; exact r.append (RVs.rep r n)
theorem g_mulT {K : PySem.W.Frag} : G2 K (rRepTN K) gMulT := fun Ex H μ m d d' x y Q hH r1 r2 q => by
  unfold gMulT at q
  split at q
  · rename_i xs k
    split at q
    · rename_i h
      obtain ⟨a, vs, rfl, s1, z1, w1⟩ := rv_tup r1
      simp only [RV] at r2; subst r2
      have l1 := w1.length
      refine ⟨a, k, vs, rfl, rfl, s1.sq, fun e => h.1 (List.eq_nil_of_length_eq_zero (by rw [l1, e]; rfl)), h.2.2.2, h.2.2.1, by omega, fun hk => ?_, fun hk p o hd hp => ?_⟩
      · subst hk
        refine q _ H μ .refl hH ?_
        have : (List.replicate (1 : Int).toNat xs).flatten = xs := by simp
        rw [this]
        simp only [RVv, RV]
        exact ⟨a, vs, rfl, s1, z1, w1⟩
      · have ex := Ext.new (o := .frz o (.tup (List.replicate k.toNat vs).flatten)) hH hp
        refine q _ _ μ ex (hH.new hp) ?_
        simp only [RVv, RV]
        refine ⟨p, _, rfl, .inl ⟨o, upd_same, hd⟩, ?_, RVs.ext ex _ _ (RVs.rep w1 _)⟩
        rw [PyProof.Rows.lm_len_rep_flat, sizeLine_eq]
        have a1 : k.toNat * vs.length ≤ 1000 * 1000 := Nat.mul_le_mul (by omega) (by omega)
        omega
    · exact q.elim
  · exact q.elim
theorem pd_mulT {X : Cx} {W : WX} {a b : Expr} {fa fb : ME} {pos : Pos} (ha : PD X W a fa) (hb : PD X W b fb) : PD X W (.BinOp a .Mult b pos) (m2 gMulT fa fb) := pd_op op_repTN g_mulT ha hb
end FL

set_option maxRecDepth 100000
namespace FL
open PySem PySem.Spec PyProof.Rows L2 PySem.SeqAt

/-! ### None in xs, xs of dicts and Nones -/
theorem rc_dictNone {A : Around} {s : Shared} {a : Addr} (ht : s.TypeIs (.ref a) "dict") (hu : A.units < cLine) : RcAt A s (.ref a) .none false := fun prog w E Q h =>
  rc_eq_decline_or (k := false) ht rfl (by decide) PySem.F.sub_NoneType_dict PySem.F.slot_dict_eq PySem.F.slot_NoneType_eq_refl
    (fun Q' hq => by
      refine wpAny_call_entry PySem.F.slot_dict_eq ht PySem.F.entry_dict_eq ?_ (PySem.F.args_dict_eq_2 _ _)
      show wpAny _ _ (Builtin.Dict.dictSlotArgs "__eq__" ⟨[.ref a, .none], []⟩ >>= _) _ _ s
      refine wpAny_bind ?_
      unfold Builtin.Dict.dictSlotArgs
      refine wpAny_bind (wpAny_notOrdered_dict ht ?_)
      show wpAny _ _ (pure (Value.ref a, Value.none)) _ _ s
      refine wpAny_pure ?_
      refine wpAny_bind (wpAny_isInstance (T := "NoneType") (rfl : s.TypeIs .none "NoneType") PySem.F.sub_NoneType_dict ?_)
      simp only [Bool.not_false, if_true]
      refine wpAny_bind (wpAny_rule ?_)
      exact wpAny_pure ⟨_, rfl, hq⟩)
    (fun _ hq => call_gives PySem.F.slot_NoneType_eq_refl rfl PySem.F.entry_NoneType_eq (PySem.F.args_NoneType_eq_2 _ _) (NoneType___eq___none_ref_0 a) hq)
    (fun _ hq => wpAny_of_eq (rfl : isSame (.ref a) .none = pure false) hq) (.inr hu) h
theorem eq_dictNone {A : Around} {s : Shared} {a : Addr} (ht : s.TypeIs (.ref a) "dict") (hu : A.units < cLine) : EqAt A s (.ref a) .none false := fun prog w E Q h => by
  unfold eqBool
  refine wpAny_holding ?_
  refine wpAny_ite_split (fun hab => absurd (eq_of_beq hab) nofun) (fun _ => ?_)
  exact wpAny_bind (rc_dictNone ht hu prog w E _ (wpAny_truthy_bool h))

def isNoV : V → Bool
  | .non => true
  | _ => false
def isNoU : Value → Bool
  | .none => true
  | _ => false
def rInNo (neg : Bool) : R2 := fun x y H Q => ∃ a vs, x = V.non ∧ y = V.ref a ∧ H a = some (.lst vs) ∧ (∀ v ∈ vs, v = V.non ∨ ∃ b ps, v = V.ref b ∧ Rd H b (.dK ps)) ∧ Q (.bl (if neg then !(vs.any isNoV) else vs.any isNoV)) H
theorem isNo_any : ∀ {vs : List V} {us : List Value}, Vals vs us → (∀ v ∈ vs, v = V.non ∨ ∃ b, v = V.ref b) → us.any isNoU = vs.any isNoV
  | _, _, .nil, _ => rfl
  | _, _, .cons (a := v) (b := u) r t, h => by
    rw [List.any_cons, List.any_cons, isNo_any t fun v hv => h v (List.mem_cons_of_mem _ hv)]
    rcases h v (List.mem_cons_self ..) with rfl | ⟨b, rfl⟩
    · obtain rfl : u = Value.none := r
      rfl
    · obtain rfl : u = Value.ref b := r
      rfl
section
variable {X : Cx}
theorem no_eqAt {pins : List (Addr × Obj)} {σ : L2.St} {H : Hp} {s : Shared} {A : Around} {vs : List V} {us : List Value} (I : L2.Inv X pins σ H s) (hu : A.units < cLine) (r : Vals vs us) (h : ∀ v ∈ vs, v = V.non ∨ ∃ b ps, v = V.ref b ∧ Rd H b (.dK ps)) : ∀ y ∈ us.toArray, EqAt A s y .none (isNoU y) := by
  intro y hy
  have hy : y ∈ us := by simpa using hy
  obtain ⟨i, hi, e⟩ := List.getElem_of_mem hy
  have hl := r.length
  obtain ⟨u, h1, h2⟩ := r.get (i := i) (x := vs[i]) (List.getElem?_eq_getElem (by omega))
  rw [List.getElem?_eq_getElem hi] at h1
  cases h1
  rw [e] at h2
  rcases h vs[i] (List.getElem_mem _) with e2 | ⟨b, ps, e2, rd⟩
  · rw [e2] at h2
    obtain rfl : y = Value.none := h2
    exact EqAt.same _
  · rw [e2] at h2
    obtain rfl : y = Value.ref b := h2
    obtain ⟨_, hsys, ws, rel, dof⟩ := dk_rd I.hok rd
    exact eq_dictNone dof.typeIs hu
theorem op_inNo (hu : X.A.units + 64 < cLine) : OpR X (compareOp .In) (rInNo false) := by
  intro pins s σ H x y v u Q I rx ry h
  obtain ⟨a, vs, rfl, rfl, ha, hv, q⟩ := h
  obtain rfl : v = Value.none := rx
  obtain rfl : u = Value.ref a := ry
  obtain ⟨z, its, n, rr, hl, e⟩ := I.lstM ha
  refine in_listAt isNoU ⟨_, e, rfl, n, rfl⟩ (no_eqAt I (by show X.A.units + 1 < cLine; omega) rr hv) ?_
  have : its.toArray.any isNoU = vs.any isNoV := by
    rw [← Array.any_toList]
    exact isNo_any rr fun v hm => (hv v hm).imp id fun ⟨b, _, e, _⟩ => ⟨b, e⟩
  rw [this]
  exact ⟨.bl _, H, I, rfl, q⟩
theorem op_notInNo (hu : X.A.units + 64 < cLine) : OpR X (compareOp .NotIn) (rInNo true) := by
  intro pins s σ H x y v u Q I rx ry h
  obtain ⟨a, vs, rfl, rfl, ha, hv, q⟩ := h
  obtain rfl : v = Value.none := rx
  obtain rfl : u = Value.ref a := ry
  obtain ⟨z, its, n, rr, hl, e⟩ := I.lstM ha
  refine notIn_listAt isNoU ⟨_, e, rfl, n, rfl⟩ (no_eqAt I (by show X.A.units + 1 < cLine; omega) rr hv) ?_
  have : its.toArray.any isNoU = vs.any isNoV := by
    rw [← Array.any_toList]
    exact isNo_any rr fun v hm => (hv v hm).imp id fun ⟨b, _, e, _⟩ => ⟨b, e⟩
  rw [this]
  exact ⟨.bl _, H, I, rfl, q⟩
end
def okNo : D → Bool
  | .non => true
  | .dct _ => true
  | _ => false
def gInNo (neg : Bool) (d d' : D) (m : Me) : Res D := match d, view m d' with
  | .non, .lst xs => if xs.all okNo = true then .ok (.bl (if neg then !(xs.any isN) else xs.any isN)) m else .no
  | _, _ => .no
theorem no_rv {K : PySem.W.Frag} {H : Hp} {μ : Mu} {m : Me} (hH : RH K H μ m) : ∀ {xs : List D} {vs : List V}, RVs K H μ xs vs → xs.all okNo = true → (∀ v ∈ vs, v = V.non ∨ ∃ b ps, v = V.ref b ∧ Rd H b (.dK ps)) ∧ vs.any isNoV = xs.any isN
  | [], vs, r, _ => by simp only [RVs] at r; subst r; simp
  | d :: xs, vs, r, h => by
    simp only [RVs] at r
    obtain ⟨v, w, rfl, r1, r2⟩ := r
    simp only [List.all_cons, Bool.and_eq_true] at h
    obtain ⟨i1, i2⟩ := no_rv hH r2 h.2
    have key : (v = V.non ∨ ∃ b ps, v = V.ref b ∧ Rd H b (.dK ps)) ∧ isNoV v = isN d := by
      cases d with
      | non => simp only [RV] at r1; subst r1; exact ⟨.inl rfl, rfl⟩
      | dct kvs =>
        obtain ⟨a, ps, rfl, h1, h2⟩ := view_dct (m := m) hH r1 rfl
        exact ⟨.inr ⟨a, ps, rfl, h1⟩, rfl⟩
      | _ => simp [okNo] at h
    refine ⟨fun z hz => ?_, by rw [List.any_cons, List.any_cons, i2, key.2]⟩
    rcases List.mem_cons.mp hz with rfl | hz
    · exact key.1
    · exact i1 z hz
theorem g_inNo {K : PySem.W.Frag} {neg : Bool} : G2 K (rInNo neg) (gInNo neg) := fun Ex H μ m d d' x y Q hH r1 r2 q => by
  unfold gInNo at q
  split at q
  · rename_i xs e2
    split at q
    · rename_i hs
      obtain ⟨a, vs, rfl, h1, h2, h3⟩ := view_lst hH r2 e2
      obtain ⟨i1, i2⟩ := no_rv hH h3 hs
      simp only [RV] at r1
      subst r1
      exact ⟨a, vs, rfl, rfl, h1, i1, q _ H μ .refl hH (by rw [i2]; simp [RV])⟩
    · exact q.elim
  · exact q.elim
end FL

set_option maxRecDepth 100000
namespace FL
open PySem PySem.Spec PyProof.Rows L2

/-! ### the keys of a dict, walked: the dict is locked for good -/
def tKeysL (td : TE) : TI := fun σ H R => td σ H fun x H1 => ∃ d kvs, x = .ref d ∧ ((∃ o, H1 d = some (.frz o (.dK kvs)) ∧ R (Itk d o kvs) H1) ∨ (H1 d = some (.dK kvs) ∧ ∀ o, R (Itk d o kvs) (upd H1 d (.frz o (.dK kvs)))))
theorem pi_keysL {X : Cx} {tg e : Expr} {td : TE} (he : PE X e td) : PI X tg e (tKeysL td) := by
  refine ⟨fun pins s σ H R I h => ?_⟩
  refine thn (he.run pins s σ H _ I h) fun u s1 ⟨x, H1, I1, rx, d, kvs, ex, q⟩ => ?_
  subst ex
  obtain rfl : u = Value.ref d := rx
  have fin : ∀ (o : Obj) (H2 : Hp), Inv X pins σ H2 s1 → H2 d = some (.frz o (.dK kvs)) → R (Itk d o kvs) H2 → wpAny (model X.prog X.w) X.A (pyIter (.ref d)) (PIE X pins σ tg R) X.xe s1 := fun o H2 I2 hd q => by
    obtain ⟨hs, hgd, hx, es, ep, vs, hdt, hsz, kv, hm⟩ := I2.frzK hd
    refine iter_keys hs hgd hx hdt (pi_one (tk := s1.toks) I2 _ (turn_keys _ hdt) ⟨_, Heap.get?_push_size _ rfl, rfl, ?_⟩ q)
    rw [hsz] <;> rfl
  rcases q with ⟨o, hd, q⟩ | ⟨hd, q⟩
  · exact fin o H1 I1 hd q
  · obtain ⟨o, I2⟩ := I1.lock hd trivial
    exact fin o _ I2 upd_same (q o)
theorem Ext.lock {K : PySem.W.Frag} {H : Hp} {μ : Mu} {a : Addr} {kvs : List (Key × V)} (n : a ∉ μ.l ∧ a ∉ μ.h) (h : H a = some (.dK kvs)) (o : Obj) : Ext K H μ (upd H a (.frz o (.dK kvs))) μ := by
  have kp : ∀ {b : Addr} {u : HO}, H b = some u → u ≠ .dK kvs → upd H a (.frz o (.dK kvs)) b = some u := fun {b u} q z => by
    rw [upd_ne (fun y => z (by rw [y, h] at q; exact (Option.some.inj q).symm))]; exact q
  refine ⟨⟨[], by simp⟩, rfl, fun b xs q => ?_, fun b u nb di q => ⟨kp q (fun z => by rw [z] at di; exact di), nb⟩, fun b o' u nb q => ⟨kp q (fun z => nomatch z), nb⟩, fun b k nb q => ⟨?_, nb⟩, fun b o' u q => kp q (fun z => nomatch z), fun b fs q => kp q (fun z => nomatch z)⟩
  · rcases q with ⟨o', q, hd⟩ | q
    · exact .inl ⟨o', kp q (fun z => nomatch z), hd⟩
    · exact .inr q
  · by_cases e : b = a
    · subst e
      rw [h] at q; cases q
      exact .inr ⟨n.2, o, upd_same⟩
    · exact .inl (by rw [upd_ne e]; exact q)
theorem RH.lock {K : PySem.W.Frag} {H : Hp} {μ : Mu} {m : Me} {a : Addr} {kvs : List (Key × V)} (hH : RH K H μ m) (n : a ∉ μ.l ∧ a ∉ μ.h) (h : H a = some (.dK kvs)) (o : Obj) : RH K (upd H a (.frz o (.dK kvs))) μ m := by
  refine ⟨hH.len, hH.nd, fun i c q => ?_, fun b z => upd_some (hH.hid b z), hH.sep⟩
  obtain ⟨b, e, r⟩ := hH.at' i c q
  refine ⟨b, e, r.ext (Ext.lock n h o) (upd_ne fun y => n.1 ?_)⟩
  rw [← y]; exact List.mem_of_getElem? e
theorem rvk_keys {K : PySem.W.Frag} {H : Hp} {μ : Mu} : ∀ {kvs : List (Key × D)} {ps : List (Key × V)}, RVk K H μ kvs ps → ps.map (·.1) = kvs.map (·.1)
  | [], ps, r => by simp only [RVk] at r; subst r; rfl
  | (k, d) :: kvs, ps, r => by
    simp only [RVk, RVp] at r
    obtain ⟨v, w, rfl, r1, r2⟩ := r
    simp [rvk_keys r2]
theorem goes_keys {K : PySem.W.Frag} {H : Hp} {μ : Mu} {a : Addr} {o : Obj} {kvs : List (Key × D)} {ps : List (Key × V)} (h : H a = some (.frz o (.dK ps))) (e : ps.map (·.1) = kvs.map (·.1)) : Goes1 K (Itk a o ps) H μ (kvs.map fun p => kyD p.1) gdY := by
  intro H1 μ1 m x hH _
  have h1 := x.fz a o _ h
  have hl : ps.length = kvs.length := by have := congrArg List.length e; simpa using this
  refine ⟨fun i d ed => ?_, h1, by rw [List.length_map]; omega⟩
  have hi : i < kvs.length := by
    have := (List.getElem?_eq_some_iff.mp ed).1
    simpa using this
  refine ⟨⟨h1, by omega⟩, ?_⟩
  rintro y H' ⟨rfl, k, v, hk, rfl⟩
  have hk' : (kvs.map (·.1))[i]? = some k := by rw [← e, List.getElem?_map, hk]; rfl
  rw [List.getElem?_map] at ed hk'
  cases ek : kvs[i]? with
  | none => rw [ek] at ed; cases ed
  | some p =>
    rw [ek] at ed hk'
    simp only [Option.map_some, Option.some.injEq] at ed hk'
    subst ed hk'
    refine ⟨.refl, hH, ?_⟩
    cases p.1 <;> simp [kyD, kV, RV]
/-- the keys of a dict -/
def asItK (d : D) (m : Me) : Res (List D × (Me → Bool)) := match d with
  | .dct kvs => if kvs.length ≤ 1000000 then .ok (kvs.map (fun p => kyD p.1), gdY) m else .no
  | .ref i => match m[i]? with
    | some (.dK kvs) => if kvs.length ≤ 1000000 then .ok (kvs.map (fun p => kyD p.1), gdY) (m.set i (.dL kvs)) else .no
    | some (.dL kvs) => if kvs.length ≤ 1000000 then .ok (kvs.map (fun p => kyD p.1), gdY) m else .no
    | _ => .no
  | _ => .no
def iKey (f : ME) : MI := fun ρ m => (f ρ m).bind asItK
theorem keys_few {kvs : List (Key × D)} (h : kvs.length ≤ 1000000) : (kvs.map fun p => kyD p.1).length ≤ sizeLine := by
  rw [List.length_map]
  have : sizeLine = 16777216 := by decide
  omega
theorem pdi_keys {X : Cx} {W : WX} {tg e : Expr} {f : ME} (he : PD X W e f) : PDI X W tg e (iKey f) :=
  PI.imp (pi_keysL he) fun σ H R ⟨μ, ρ, m, hH, hS, q⟩ => seqR q hH hS fun d m1 v H1 μ1 e1 hH1 r1 hS1 q1 => by
    cases d with
    | dct kvs =>
      simp only [RVv, RV] at r1
      obtain ⟨a, ps, rfl, hn, hs, hr⟩ := r1
      unfold asItK at q1
      simp only at q1
      split at q1
      · rename_i hz
        rcases hs with hs | ⟨o, hs⟩
        · refine ⟨a, ps, rfl, .inr ⟨hs, fun o => ?_⟩⟩
          exact q1 _ _ μ1 (Ext.lock hn hs o) (hH1.lock hn hs o) ⟨keys_few hz, goes_keys upd_same (rvk_keys hr)⟩
        · exact ⟨a, ps, rfl, .inl ⟨o, hs, q1 _ H1 μ1 .refl hH1 ⟨keys_few hz, goes_keys hs (rvk_keys hr)⟩⟩⟩
      · exact q1.elim
    | ref i =>
      simp only [RVv, RV] at r1
      obtain ⟨a, rfl, ha⟩ := r1
      unfold asItK at q1
      cases e : m1[i]? with
      | none => simp only [e] at q1; exact q1.elim
      | some c =>
        obtain ⟨a', e', rc⟩ := hH1.at' i _ e
        rw [ha] at e'; cases e'
        cases c with
        | dK kvs =>
          simp only [e] at q1
          split at q1
          · rename_i hz
            obtain ⟨ps, h1, r2⟩ := rc
            have nf : ∀ o u, H1 a ≠ some (.frz o u) := fun o u z => by rw [h1] at z; cases z
            refine ⟨a, ps, rfl, .inr ⟨h1, fun o => ?_⟩⟩
            have x := Ext.wr (o := .frz o (.dK ps)) hH1 ha nf
            exact q1 _ _ μ1 x (hH1.wr ha ⟨ps, o, upd_same, RVk.ext x _ _ r2⟩ nf) ⟨keys_few hz, goes_keys upd_same (rvk_keys r2)⟩
          · exact q1.elim
        | dL kvs =>
          simp only [e] at q1
          split at q1
          · rename_i hz
            obtain ⟨ps, o, h1, r2⟩ := rc
            exact ⟨a, ps, rfl, .inl ⟨o, h1, q1 _ H1 μ1 .refl hH1 ⟨keys_few hz, goes_keys h1 (rvk_keys r2)⟩⟩⟩
          · exact q1.elim
        | _ => simp only [e] at q1; exact q1.elim
    | _ => exact q1.elim
end FL

set_option maxRecDepth 100000
namespace FL
open PySem PySem.Spec PyProof.Rows L2

/-! ### a def as a value, and a call of a name that holds one -/
section
variable {X : Cx} {W : WX} {k i n : Nat} {f : Addr} {fd : FuncData} {ps : List Str} {x y : Str} {p pos : Pos} {e : Expr} {es : List Expr} {Fm : List D → Me → Res D}
theorem pd_fn (hg : Gl X x) (hm : X.mg x = some (.ref f)) (hn : PySem.W.nsIn X.K mainGlobals x = some (some (Value.ref f))) (hd : (x == ("__debug__" : Str)) = false := by decide) : PD X W (.Name x pos) (mC (.fn x)) :=
  PE.imp (pe_glob (v := .ref f) hg hm rfl hd) fun σ H Q ⟨μ, ρ, m, hH, hS, q⟩ => q _ H μ .refl hH (by simp only [RVv, RV]; exact ⟨f, rfl, hn⟩)
def mCallL (i : Nat) (y : Str) (F : List D → Me → Res D) (fa : MA) : ME := fun ρ m => match ρ[i]? with
  | some (some (.fn z)) => if z = y then (fa ρ m).bind fun ds m => noX (F ds m) else .no
  | _ => .no
theorem pd_callL {fa : MA} (G : FnOk X.prog X.w X.K X.mg X.base CX0 k f fd ps (spF X.K n Fm)) (hr : Room k X.A) (hN : X.N[i]? = some x) (hv : Vis X.env.scope x) (hn : PySem.W.nsIn X.K mainGlobals y = some (some (Value.ref f))) (hk : PySem.W.keepIn X.K (.ref f) = true) (hb : Binds X.K fd ps [])
    (ha : PDA X W n (e :: es) fa) (hdb : (x == ("__debug__" : Str)) = false := by decide) (hcd : (x == ("__classdict__" : Str)) = false := by decide) (he : starEach (e :: es) X.env = (false, eval e X.env) :: starEach es X.env := by rfl) (hpl : (backTo pos (starEach es X.env)).any (·.1) = false := by rfl) :
    PD X W (.Call (.Name x p) (e :: es) [] pos) (mCallL i y Fm fa) :=
  PE.imp (pe_callL G hr hN hv hk hb .nil pass0 ha hdb hcd he hpl) fun σ H Q ⟨μ, ρ, m, hH, hS, q⟩ => by
    unfold mCallL at q
    cases e1 : ρ[i]? with
    | none => simp only [e1] at q; exact q.elim
    | some o =>
      cases o with
      | none => simp only [e1] at q; exact q.elim
      | some d =>
        cases d with
        | fn z =>
          simp only [e1] at q
          by_cases hz : z = y
          · subst hz
            rw [if_pos rfl] at q
            obtain ⟨v, h1, r⟩ := hS.2 i _ e1
            simp only [RV] at r
            obtain ⟨a, rfl, h2⟩ := r
            rw [hn] at h2; cases h2
            exact ⟨h1, seqR q hH hS fun ds m1 vs H1 μ1 e1 hH1 r1 hS1 q1 => ⟨μ1, m1, ds, hH1, by simpa using r1.1, r1.2, Ok.noX' q1⟩⟩
          · rw [if_neg hz] at q; exact q.elim
        | _ => simp only [e1] at q; exact q.elim
end
end FL

set_option maxRecDepth 100000
set_option maxHeartbeats 4000000
namespace FL
open PySem PySem.Spec PyProof.Rows L2 Srt SrtO

/-! ### sorted(d.items()) where all keys are texts: whatever the values are -/
def ltS (a b : Str) : Bool := !leS b a
theorem swoK (k : Value → Str) : Swo fun v u => ltS (k v) (k u) := by
  refine ⟨fun x y h => ?_, fun x y z h1 h2 => ?_⟩
  · unfold ltS at h ⊢
    have := leS_total (k y) (k x)
    cases h1 : leS (k y) (k x) with
    | true => rw [h1] at h; cases h
    | false => rw [h1] at this; simp at this; rw [this]; rfl
  · unfold ltS at h1 h2 ⊢
    have a1 : leS (k x) (k y) = true := by simpa using h1
    have a2 : leS (k y) (k z) = true := by simpa using h2
    rw [leS_trans _ _ _ a1 a2]; rfl
theorem ltS_eq (a b : Str) : ltS a b = decide (a.cps.toList < b.cps.toList) := by
  unfold ltS leS; rw [decide_not, Bool.not_not]
def IsPS (h : Heap) (v : Value) (x : Str) : Prop := ∃ a t u, v = .ref a ∧ h.get? a = some (pairO (.str x t) u)
section
variable {prog : Program} {w : World} {A : Around} {E : Value → Shared → Prop} {s : Shared}
theorem ps_cmp {vs : List Value} {k : Value → Str} (hp : ∀ v ∈ vs, IsPS s.heap v (k v)) (hd : ∀ v ∈ vs, ∀ u ∈ vs, k v = k u → v = u) : Cmp prog w A s (tuples' true) (fun p => p.1 ∈ vs) (lt2 fun v u => ltS (k v) (k u)) := by
  intro p q hm hm'
  show wpAny (model prog w) A (keyLt' (tuples' true) p.1 q.1) (fun r s' => s' = s ∧ r = ltS (k p.1) (k q.1)) (fun _ _ => False) s
  have hdd := hd _ hm _ hm'
  obtain ⟨a, t, u, e, ho⟩ := hp _ hm
  obtain ⟨a', t', u', e', ho'⟩ := hp _ hm'
  generalize k p.1 = x at *
  generalize k q.1 = x' at *
  rw [e, e'] at hdd ⊢
  refine PySem.W.kat_lt ho rfl ho' rfl ?_
  show PySem.W.KatLex prog w A true (decide (2 < 2)) _ [(.str x t, .str x' t'), (u, u')] 0 s
  refine PySem.W.kat_cons (SeqAt.EqAt.str_str x t x' t' prog w _ _ ?_)
  refine PySem.W.kat_go (fun e1 => ?_) (fun e1 => ?_)
  · have ex : x = x' := by simpa using e1
    have ea := hdd ex
    cases ea
    rw [ho] at ho'
    have eo := Option.some.inj ho'
    have eu : u = u' := by
      have h1 : (#[Value.str x t, u] : Array Value) = #[.str x' t', u'] := congrArg (fun o : Obj => match o.data with | .seq xs _ => xs | _ => #[]) eo
      have h2 := congrArg (fun z : Array Value => z[1]?) h1
      simpa using h2
    subst eu
    refine PySem.W.kat_yes (PySem.W.kat_cons (SeqAt.EqAt.same u prog w _ _ ?_))
    refine PySem.W.kat_go (fun e2 => ?_) (fun e2 => by cases e2)
    have e3 : ltS x x' = false := by
      subst ex; exact (swoK (fun _ => x)).refl Value.none
    exact PySem.W.kat_yes (PySem.W.kat_nil ⟨rfl, e3.symm⟩)
  · exact PySem.W.kat_no (PyProof.Rows.oneLt_str ⟨rfl, (ltS_eq x x').symm⟩)
theorem ps_firsts {h : Heap} : ∀ {vs : List Value} {k : Value → Str}, (∀ v ∈ vs, IsPS h v (k v)) → ∃ fs, PySem.W.KatTups h vs fs ∧ fs.length = vs.length ∧ ∀ f ∈ fs, ∃ x t, f = Value.str x t
  | [], _, _ => ⟨[], PySem.W.KatTups.nil, rfl, fun _ h => nomatch h⟩
  | v :: vs, k, hp => by
    obtain ⟨fs, h1, h2, h3⟩ := ps_firsts (vs := vs) (k := k) fun u hu => hp u (List.mem_cons_of_mem _ hu)
    obtain ⟨a, t, u, rfl, ho⟩ := hp v List.mem_cons_self
    exact ⟨_ :: fs, PySem.W.KatTups.cons ho rfl rfl rfl h1, by simp [h2], fun f hf => by
      rcases List.mem_cons.mp hf with rfl | hf
      · exact ⟨_, _, rfl⟩
      · exact h3 f hf⟩
theorem ps_sortable {a : Addr} {vs : List Value} {k : Value → Str} (h0 : 0 < vs.length) (hp : ∀ v ∈ vs, IsPS s.heap v (k v)) (hd : ∀ v ∈ vs, ∀ u ∈ vs, k v = k u → v = u) (ha : ∀ v ∈ vs, v ≠ .ref a) : SortableO prog w A s a vs fun v u => ltS (k v) (k u) := by
  intro h' keep
  have hp' : ∀ v ∈ vs, IsPS h' v (k v) := fun v hm => by
    obtain ⟨b, t, u, e, ho⟩ := hp v hm
    exact ⟨b, t, u, e, keep b _ (fun z => ha v hm (by rw [e, z])) ho⟩
  obtain ⟨fs, h1, h2, h3⟩ := ps_firsts hp'
  refine ⟨tuples' true, fun Q E hq => ?_, ps_cmp (s := { s with heap := h' }) hp' hd⟩
  refine PySem.W.kat_kind (T := .type "str") h1 (by omega) (fun f hm => ?_) (by rfl) ?_
  · obtain ⟨x, t, rfl⟩ := h3 f hm
    exact PySem.W.Looks.now
  · have e : (Value.type "str" != Value.type "tuple") = true := by first | decide +kernel | rfl | decide
    rw [e]
    exact hq
end

theorem nd_idx {α : Type} {l : List α} (nd : l.Nodup) {i j : Nat} {a : α} (h1 : l[i]? = some a) (h2 : l[j]? = some a) : i = j := by
  obtain ⟨i1, e1⟩ := List.getElem?_eq_some_iff.mp h1
  obtain ⟨j1, e2⟩ := List.getElem?_eq_some_iff.mp h2
  exact (List.getElem_inj nd).mp (e1.trans e2.symm)
def txK : Key → Str
  | .inr x => x
  | .inl _ => Str.empty
def isT : Key → Bool
  | .inr _ => true
  | .inl _ => false
theorem txK_inj {a b : Key} (ha : isT a = true) (hb : isT b = true) (h : txK a = txK b) : a = b := by
  cases a with
  | inl i => cases ha
  | inr x => cases b with
    | inl i => cases hb
    | inr y => simp only [txK] at h; rw [h]
/-- pairs by their keys -/
def kLe {β : Type} (a b : Key × β) : Bool := leS (txK a.1) (txK b.1)
def keyV {β : Type} (zs : List (Addr × Key × β)) : Value → Str
  | .ref a => match zs.find? fun z => decide (z.1 = a) with
    | some z => txK z.2.1
    | none => Str.empty
  | _ => Str.empty
theorem keyV_of {β : Type} {as : List Addr} {bs : List (Key × β)} (nd : as.Nodup) {z : Addr × Key × β} (hz : z ∈ as.zip bs) : keyV (as.zip bs) (.ref z.1) = txK z.2.1 := by
  simp only [keyV]
  cases e : (as.zip bs).find? (fun y => decide (y.1 = z.1)) with
  | none =>
    rw [List.find?_eq_none] at e
    exact absurd (decide_eq_true rfl) (e z hz)
  | some y =>
    have h1 := List.find?_some e
    have h2 := List.mem_of_find?_eq_some e
    simp only [decide_eq_true_eq] at h1
    obtain ⟨j, hj⟩ := List.mem_iff_getElem?.mp hz
    obtain ⟨i, hi⟩ := List.mem_iff_getElem?.mp h2
    obtain ⟨z1, z2⟩ := List.getElem?_zip_eq_some.mp hj
    obtain ⟨y1, y2⟩ := List.getElem?_zip_eq_some.mp hi
    have : j = i := nd_idx nd z1 (by rw [y1, h1])
    subst this
    rw [hj] at hi; cases hi; rfl
def rSortItK (K : PySem.W.Frag) : V → Hp → VK → Prop := fun x H Q => ∃ (d : Addr) (bs : List (Key × V)), x = .ref d ∧ Rd H d (.dK bs) ∧ (∀ b ∈ bs, isT b.1 = true) ∧ (bs.map (·.1)).Nodup ∧ bs.length ≤ 1000000 ∧
  ∀ (H' : Hp) (p : Addr) (ts : List (Addr × Key × V)), (∀ b o, H b = some o → H' b = some o) → H p = none → ts.map (·.2) = bs.mergeSort kLe → H' p = some (.lst (ts.map fun t => V.ref t.1)) → (∀ t ∈ ts, ∃ o, PlO o ∧ H t.1 = none ∧ H' t.1 = some (.frz o (.tup [kV t.2.1, t.2.2]))) → Q (.ref p) H'
section
variable {X : Cx} {e : Expr} {te : TE} {p apos cpos pos : Pos}
theorem pe_sortItemsK (hc : X.calm = true) (hu : X.A.units + 64 < cLine) (he : PE X e te) (hg : Gl X "sorted") (hm : X.mg "sorted" = none) (hv : bootBuiltins "sorted" = some (.builtin "sorted")) (hbase : attributeBase e "items" X.env (eval e X.env) = eval e X.env := by rfl) (hline : (apos.endLine == cpos.line) = true := by rfl)
    (hs : starEach [.Call (.Attribute e "items" apos) [] [] cpos] X.env = (false, eval (.Call (.Attribute e "items" apos) [] [] cpos) X.env) :: starEach [] X.env := by rfl) :
    PE X (.Call (.Name "sorted" p) [.Call (.Attribute e "items" apos) [] [] cpos] [] pos) (fun σ H Q => te σ H fun x H1 => rSortItK X.K x H1 Q) := by
  refine ⟨fun pins s σ H Q I hq => ?_⟩
  refine wpAny_Call_Name_kw (ld_blt I hg hm hv ?_)
  refine PyProof.Rows.callWith_builtin1 ?_ hs rfl
  rw [hs]
  show wpAny _ _ (spliced ((false, eval (.Call (.Attribute e "items" apos) [] [] cpos) X.env) :: backTo pos (starEach [] X.env))) _ _ s
  refine Calls.spliced_cons ?_
  refine wpAny_Call_method (T := "dict") (id := "dict.items") hbase rfl hline F.plainAttrs_dict F.slot_dict_items F.type_dict_items (thn (he.run pins s σ H _ I hq) fun u s1 ⟨x, H1, I1, rx, d, bs, ex, hd, htx, hnd, hfew, q⟩ => ?_)
  subst ex
  obtain rfl : u = Value.ref d := rx
  obtain ⟨hz, hs0, vs, kv, hdo⟩ := hd.ok I1.hok
  have lk : bs.length = vs.length := Paired.length kv
  have I2 : Inv X pins σ H1 { s1 with heap := s1.heap.push { cls := .type "dict_items", data := .fields #[.ref d] } } := I1.kept (t' := s1.toks) fun b ob q => Heap.get?_push_of_some _ q
  refine ⟨hdo.typeIs, hdo.mapOf.noDict, ?_⟩
  show wpAny _ _ (callWith cpos (.builtin "dict.items") [.ref d] [] []) _ X.xe s1
  refine method_meetsIn F.slot_dict_items F.entry_dict_items rfl (PySem.evalArgs_none ⟨rfl, hdo.typeIs, F.args_dict_items_1 _, _, meets_dict_items (mixKind X.prog X.w) d hs0, ⟨vs, hdo⟩, ?_⟩)
  refine Calls.spliced_nil ?_
  obtain ⟨o, es, ep, ho, hx, hdat, hko, hpr, hnd0⟩ := hdo
  have les : es.size = vs.length := by
    have : ∀ {l : List DictEntry} {vs : List (Key × Value)}, PySem.Pairs (mixKind X.prog X.w) l vs → l.length = vs.length := fun {l vs} h => by induction h with | nil => rfl | cons _ _ _ ih => simp [ih]
    rw [← Array.length_toList]; exact this hpr
  generalize hS2 : ({ s1 with heap := s1.heap.push { cls := .type "dict_items", data := .fields #[.ref d] } } : Shared) = s2 at I2
  have hview : s2.heap.IsItemsView s1.heap.objs.size d := by rw [← hS2]; exact ⟨_, Heap.get?_push_size _ rfl, rfl, rfl⟩
  have hraw : DT.Raw s2.heap d es ep := by rw [← hS2]; exact DT.Raw.push ⟨o, ho, hx, hdat⟩ _
  refine DT.sortedI (es := es) (ep := ep) (I1.ok.hd hc) hview hraw (by rw [sizeLine_eq]; omega) fun h' tk as hk hlt hl hG => ?_
  have lak : as.length = bs.length := by omega
  have nd : as.Nodup := List.Pairwise.imp (fun h => Nat.ne_of_lt h) hG.rise
  have pr : ∀ (j : Nat) (b : Addr) (bk : Key × V), as[j]? = some b → bs[j]? = some bk → ∃ en : DictEntry, es.toList[j]? = some en ∧ RelV (kV bk.1) en.key ∧ RelV bk.2 en.val ∧ keyIs bk.1 en.key = true ∧ h'.get? b = some (pairO en.key en.val) := by
    intro j b bk hj hbk
    obtain ⟨en, he, hg⟩ := hG.pairs j b hj
    have he' : es.toList[j]? = some en := by rw [Array.getElem?_toList]; exact he
    obtain ⟨k, v, hv1, hk1, hv2⟩ := pairs_get hpr he'
    obtain ⟨y, hy, r1, r2⟩ := LiI.paired_get kv (i := j) (x := (bk.1, bk.2)) hbk
    rw [hv1] at hy
    cases hy
    dsimp only at r1 r2
    subst r1
    exact ⟨en, he', relV_key hk1, by rw [hv2]; exact r2, hk1, hg⟩
  have hob : (h'.push { cls := .type "list", data := .seq (as.map Value.ref).toArray }).get? h'.objs.size = some (seqObj "list" (as.map Value.ref).toArray 0) := Heap.get?_push_size _ rfl
  have kb : ∀ b o, s2.heap.get? b = some o → (h'.push { cls := .type "list", data := .seq (as.map Value.ref).toArray }).get? b = some o := fun b o e => Heap.get?_push_of_some _ (hk b o e)
  have ne0 : ∀ b o, h'.get? b = some o → b ≠ h'.objs.size := fun b o e => Nat.ne_of_lt (Heap.lt_size e)
  generalize hh2 : h'.push { cls := .type "list", data := .seq (as.map Value.ref).toArray } = h2 at hob kb ⊢
  have ka : ∀ b o, h'.get? b = some o → h2.get? b = some o := fun b o e => by rw [← hh2]; exact Heap.get?_push_of_some _ e
  have zmap : (as.zip bs).map (·.2) = bs := List.map_snd_zip (by rw [lak]; exact Nat.le_refl _)
  have zget : ∀ (j : Nat) (z : Addr × Key × V), (as.zip bs)[j]? = some z → as[j]? = some z.1 ∧ bs[j]? = some z.2 := fun j z h => List.getElem?_zip_eq_some.mp h
  have k12 : ∀ b o, s1.heap.get? b = some o → s2.heap.get? b = some o := fun b o e => by rw [← hS2]; exact Heap.get?_push_of_some _ e
  have hkey : ∀ z ∈ as.zip bs, ∃ x t u, z.2.1 = .inr x ∧ h2.get? z.1 = some (pairO (.str x t) u) := fun z hz => by
    obtain ⟨j, hj⟩ := List.mem_iff_getElem?.mp hz
    obtain ⟨z1, z2⟩ := zget j z hj
    obtain ⟨en, _, r1, r2, hk1, hg⟩ := pr j _ _ z1 z2
    have := htx z.2 (List.mem_of_getElem? z2)
    rcases keyIs_shape hk1 with ⟨i, t, e1, e2⟩ | ⟨x, t, e1, e2⟩
    · rw [e1] at this; cases this
    · exact ⟨x, t, en.val, e1, by rw [← e2]; exact ka _ _ hg⟩
  have ndz : ∀ z ∈ as.zip bs, ∀ y ∈ as.zip bs, txK z.2.1 = txK y.2.1 → z = y := fun z hz y hy e => by
    obtain ⟨j, hj⟩ := List.mem_iff_getElem?.mp hz
    obtain ⟨i, hi⟩ := List.mem_iff_getElem?.mp hy
    obtain ⟨z1, z2⟩ := zget j z hj
    obtain ⟨y1, y2⟩ := zget i y hi
    have e2 : z.2.1 = y.2.1 := txK_inj (htx _ (List.mem_of_getElem? z2)) (htx _ (List.mem_of_getElem? y2)) e
    have : j = i := nd_idx hnd (a := z.2.1) (by rw [List.getElem?_map, z2]; rfl) (by rw [List.getElem?_map, y2, e2]; rfl)
    subst this
    rw [hj] at hi; exact Option.some.inj hi
  have hkv : ∀ z ∈ as.zip bs, keyV (as.zip bs) (.ref z.1) = txK z.2.1 := fun z hz => keyV_of nd hz
  have hpv : ∀ v ∈ as.map Value.ref, ∃ z ∈ as.zip bs, v = .ref z.1 := fun v hv => by
    obtain ⟨a, ha, rfl⟩ := List.mem_map.mp hv
    obtain ⟨j, hj⟩ := List.mem_iff_getElem?.mp ha
    have hjl : j < as.length := (List.getElem?_eq_some_iff.mp hj).1
    refine ⟨(a, bs[j]'(by omega)), List.mem_iff_getElem?.mpr ⟨j, ?_⟩, rfl⟩
    rw [List.getElem?_zip_eq_some]
    exact ⟨hj, List.getElem?_eq_getElem (by omega)⟩
  refine wpAny_call_entry slot_list_sort ⟨_, hob, rfl⟩ entry_list_sort (SrtO.list_sort_ord (s := { s2 with heap := h2, toks := tk }) (vs := as.map Value.ref) (swoK (keyV (as.zip bs))) hob (by rw [List.length_map, lak, sizeLine_eq]; omega) (fun h2' => ps_sortable (by omega) (fun v hv => ?_) (fun v hv u hu e => ?_) (fun v hv e => ?_)) fun out hs hb => ⟨_, rfl, ?_⟩) (args_list_sort _)
  · obtain ⟨z, hz, rfl⟩ := hpv v hv
    obtain ⟨x, t, u, e1, e2⟩ := hkey z hz
    rw [hkv z hz, e1]
    exact ⟨_, t, u, rfl, e2⟩
  · obtain ⟨z, hz, rfl⟩ := hpv v hv
    obtain ⟨y, hy, rfl⟩ := hpv u hu
    rw [hkv z hz, hkv y hy] at e
    rw [ndz z hz y hy e]
  · obtain ⟨z, hz, rfl⟩ := hpv v hv
    obtain ⟨x, t, u, e1, e2⟩ := hkey z hz
    have e' := Value.ref.inj e
    rw [← e'] at hob
    have hob2 := Option.some.inj (e2.symm.trans hob)
    have hc2 := congrArg Obj.cls hob2
    exact absurd (Value.type.inj hc2) (by decide)
  · have kF : ∀ b o, b ≠ h'.objs.size → h2.get? b = some o → (sortedHeap h2 h'.objs.size (as.map Value.ref) (List.toArray out)).get? b = some o := fun b o hb e => (PyProof.Rows.sortedHeap_old hb (Heap.lt_size e)).trans e
    have kS : ∀ b o, s2.heap.get? b = some o → (sortedHeap h2 h'.objs.size (as.map Value.ref) (List.toArray out)).get? b = some o := fun b o e => kF b o (ne0 _ _ (hk b o e)) (kb b o e)
    obtain ⟨eF, heF⟩ := PyProof.Rows.sortedHeap_at (vs := as.map Value.ref) (out := List.toArray out) hob
    have J1 : Inv X pins σ H1 { s2 with heap := sortedHeap h2 h'.objs.size (as.map Value.ref) (List.toArray out), toks := tk } := I2.kept (t' := tk) kS
    have hn0 : H1 h'.objs.size = none := I2.hok.fresh (Nat.le_of_lt hlt)
    generalize hts : (as.zip bs).mergeSort (fun a b : Addr × Key × V => kLe a.2 b.2) = ts
    have hperm : ts.Perm (as.zip bs) := by rw [← hts]; exact List.mergeSort_perm _ _
    have hto : out = ts.map fun t => Value.ref t.1 := by
      have pz : (ts.map fun t => Value.ref t.1).Perm (as.map Value.ref) := by
        have h1 := hperm.map (fun t : Addr × Key × V => Value.ref t.1)
        have h2 : (as.zip bs).map (fun t : Addr × Key × V => Value.ref t.1) = as.map Value.ref := by
          rw [show (fun t : Addr × Key × V => Value.ref t.1) = Value.ref ∘ (fun t => t.1) from rfl, ← List.map_map, List.map_fst_zip (by omega)]
        rw [← h2]; exact h1
      refine List.Perm.eq_of_pairwise (le := fun v u => leS (keyV (as.zip bs) v) (keyV (as.zip bs) u) = true) (fun v u hv hu h1 h2 => ?_) ?_ ?_ (hb.perm.trans pz.symm)
      · obtain ⟨z, hz, rfl⟩ := hpv v (hb.perm.mem_iff.mp hv)
        obtain ⟨y, hy, rfl⟩ := hpv u (pz.mem_iff.mp hu)
        have := leS_anti h1 h2
        rw [hkv z hz, hkv y hy] at this
        rw [ndz z hz y hy this]
      · exact hs.imp fun h => by unfold ltS at h; simpa using h
      · rw [List.pairwise_map, ← hts]
        have := List.pairwise_mergeSort (le := fun a b : Addr × Key × V => kLe a.2 b.2) (fun a b c h1 h2 => leS_trans _ _ _ h1 h2) (fun a b => leS_total _ _) (as.zip bs)
        refine this.imp_of_mem fun {z y} hz hy h => ?_
        rw [hkv z (List.mem_mergeSort.mp hz), hkv y (List.mem_mergeSort.mp hy)]
        exact h
    have hlen : (ts.map fun t => V.ref t.1).length ≤ sizeLine := by
      rw [List.length_map, hperm.length_eq, List.length_zip, sizeLine_eq]; omega
    have rv : Vals (ts.map fun t => V.ref t.1) out := by
      rw [hto]
      exact vals_maps (fun z : Addr × Key × V => V.ref z.1) (fun z => Value.ref z.1) ts fun _ _ => rfl
    have J2 : Inv X pins σ (upd H1 h'.objs.size (.lst (ts.map fun t => V.ref t.1))) { s2 with heap := sortedHeap h2 h'.objs.size (as.map Value.ref) (List.toArray out), toks := tk } :=
      J1.take (h' := sortedHeap h2 h'.objs.size (as.map Value.ref) (List.toArray out)) (t' := tk) (fun b ob _ e => e) (I2.fpOk (Nat.le_of_lt hlt) hn0) ⟨hlen, out, eF, rv, heF⟩
    have lz : as.length = (es.toList.zip bs).length := by simp; omega
    have mget : ∀ x ∈ List.zipWith (fun (a : Addr) (p : DictEntry × Key × V) => (a, pairO p.1.key p.1.val, [kV p.2.1, p.2.2])) as (es.toList.zip bs), ∃ (j : Nat) (a : Addr) (en : DictEntry) (bk : Key × V), as[j]? = some a ∧ es.toList[j]? = some en ∧ bs[j]? = some bk ∧ x = (a, pairO en.key en.val, [kV bk.1, bk.2]) := fun x hx => by
      obtain ⟨j, hj⟩ := List.mem_iff_getElem?.mp hx
      obtain ⟨a, p, e1, e2, rfl⟩ := List.getElem?_zipWith_eq_some.mp hj
      obtain ⟨e3, e4⟩ := List.getElem?_zip_eq_some.mp e2
      exact ⟨j, a, p.1, p.2, e1, e3, e4, rfl⟩
    obtain ⟨H2, J3, g, qt⟩ := takeF I2 (List.zipWith (fun (a : Addr) (p : DictEntry × Key × V) => (a, pairO p.1.key p.1.val, [kV p.2.1, p.2.2])) as (es.toList.zip bs)) _ J2 (by
        have : (List.zipWith (fun (a : Addr) (p : DictEntry × Key × V) => (a, pairO p.1.key p.1.val, [kV p.2.1, p.2.2])) as (es.toList.zip bs)).map (·.1) = as := by
          rw [List.map_zipWith]
          refine List.ext_getElem? fun j => ?_
          rw [List.getElem?_zipWith]
          by_cases hj : j < as.length
          · rw [List.getElem?_eq_getElem hj, List.getElem?_eq_getElem (show j < (es.toList.zip bs).length by omega)]
          · rw [List.getElem?_eq_none (by omega)]
        rw [this]; exact nd) fun x hx => by
      obtain ⟨j, a, en, bk, e1, e2, e3, rfl⟩ := mget x hx
      obtain ⟨en', f1, r1, r2, hk1, hg⟩ := pr j a bk e1 e3
      rw [e2] at f1; cases f1
      refine ⟨Nat.le_of_lt (hG.above a (List.mem_of_getElem? e1)), ?_, fun H3 => ⟨kF _ _ (ne0 _ _ hg) (ka _ _ hg), by show 2 ≤ sizeLine; decide, [en.key, en.val], .cons r1 (.cons r2 .nil), ⟨_, kF _ _ (ne0 _ _ hg) (ka _ _ hg), rfl, 0, rfl⟩⟩⟩
      rw [upd_ne (ne0 _ _ hg)]
      exact I2.hok.fresh (Nat.le_of_lt (hG.above a (List.mem_of_getElem? e1)))
    refine ⟨.ref h'.objs.size, H2, J3, rfl, q H2 h'.objs.size ts (fun b o e => g b o (by rw [upd_ne (ne_of_none e hn0)]; exact e)) hn0 ?_ (g _ _ upd_same) fun t ht => ?_⟩
    · have := List.map_mergeSort (r := fun a b : Addr × Key × V => kLe a.2 b.2) (s := kLe) (f := fun x : Addr × Key × V => x.2) (l := as.zip bs) (fun a _ b _ => rfl)
      rw [← hts, this, zmap]
    · obtain ⟨j, hj⟩ := List.mem_iff_getElem?.mp (hperm.mem_iff.mp ht)
      obtain ⟨z1, z2⟩ := zget j t hj
      obtain ⟨en, f1, r1, r2, hk1, hg⟩ := pr j t.1 t.2 z1 z2
      have hm : (t.1, pairO en.key en.val, [kV t.2.1, t.2.2]) ∈ List.zipWith (fun (a : Addr) (p : DictEntry × Key × V) => (a, pairO p.1.key p.1.val, [kV p.2.1, p.2.2])) as (es.toList.zip bs) := by
        refine List.mem_iff_getElem?.mpr ⟨j, ?_⟩
        rw [List.getElem?_zipWith, z1, show (es.toList.zip bs)[j]? = some (en, t.2) from List.getElem?_zip_eq_some.mpr ⟨f1, z2⟩]
      exact ⟨_, ⟨rfl, rfl⟩, I2.hok.fresh (Nat.le_of_lt (hG.above t.1 (List.mem_of_getElem? z1))), qt _ hm⟩
end


structure OkSortK (kvs : List (Key × D)) : Prop where
  txt : ∀ p ∈ kvs, isT p.1 = true
  nd : (kvs.map (·.1)).Nodup
  few : kvs.length ≤ 1000000
open Classical in
noncomputable def gSortItK (d : D) (m : Me) : Res D := match view m d with
  | .dct kvs => if OkSortK kvs then .ok (.lst ((kvs.mergeSort kLe).map prrD)) m else .no
  | _ => .no
section
variable {X : Cx} {W : WX} {e : Expr} {f : ME} {p apos cpos pos : Pos}
theorem pd_sortItK (hc : X.calm = true) (hu : X.A.units + 64 < cLine) (hg : Gl X "sorted") (hm : X.mg "sorted" = none) (hv : bootBuiltins "sorted" = some (.builtin "sorted")) (he : PD X W e f) (hbase : attributeBase e "items" X.env (eval e X.env) = eval e X.env := by rfl) (hline : (apos.endLine == cpos.line) = true := by rfl)
    (hs : starEach [.Call (.Attribute e "items" apos) [] [] cpos] X.env = (false, eval (.Call (.Attribute e "items" apos) [] [] cpos) X.env) :: starEach [] X.env := by rfl) :
    PD X W (.Call (.Name "sorted" p) [.Call (.Attribute e "items" apos) [] [] cpos] [] pos) (m1 gSortItK f) :=
  PE.imp (pe_sortItemsK hc hu he hg hm hv hbase hline hs) fun σ H Q ⟨μ, ρ, m, hH, hS, q⟩ => seqR q hH hS fun d m1 v H1 μ1 e1 hH1 r1 hS1 q1 => by
    unfold gSortItK at q1
    split at q1
    case h_2 => exact q1.elim
    rename_i kvs ev
    split at q1
    case isFalse => exact q1.elim
    rename_i ok
    obtain ⟨a, ps, rfl, hrd, hrk⟩ := view_dct hH1 r1 ev
    obtain ⟨ts, rfl, rfl, ht⟩ := rvq_pairs hrk
    refine ⟨a, ts.map fun t => (t.1, t.2.2), rfl, hrd, fun b hb => ?_, ?_, by have := ok.few; simpa using this, fun H' pl us hk hp hus hl hpr => ?_⟩
    · obtain ⟨t, h1, rfl⟩ := List.mem_map.mp hb
      exact ok.txt (t.1, t.2.1) (List.mem_map_of_mem h1)
    · have := ok.nd
      rw [List.map_map] at this ⊢
      exact this
    · have ex := Ext.keeps (K := X.K) (μ := μ1) hk
      refine q1 _ H' μ1 ex (hH1.keeps hk) ?_
      have m1' : (ts.map fun t => (t.1, t.2.2)).mergeSort kLe = (ts.mergeSort fun a b => kLe (a.1, a.2.1) (b.1, b.2.1)).map fun t => (t.1, t.2.2) :=
        (List.map_mergeSort (r := fun a b : Key × D × V => kLe (a.1, a.2.1) (b.1, b.2.1)) (f := fun t : Key × D × V => (t.1, t.2.2)) (fun a _ b _ => rfl)).symm
      have m2' : (ts.map fun t => (t.1, t.2.1)).mergeSort kLe = (ts.mergeSort fun a b => kLe (a.1, a.2.1) (b.1, b.2.1)).map fun t => (t.1, t.2.1) :=
        (List.map_mergeSort (r := fun a b : Key × D × V => kLe (a.1, a.2.1) (b.1, b.2.1)) (f := fun t : Key × D × V => (t.1, t.2.1)) (fun a _ b _ => rfl)).symm
      rw [m1'] at hus
      rw [m2', List.map_map]
      have hsub : ∀ t ∈ (ts.mergeSort fun a b => kLe (a.1, a.2.1) (b.1, b.2.1)), t ∈ ts := fun t h => (List.mergeSort_perm ts _).mem_iff.mp h
      have hlen : (ts.mergeSort fun a b => kLe (a.1, a.2.1) (b.1, b.2.1)).length ≤ 1000000 := by rw [List.length_mergeSort]; have := ok.few; simpa using this
      generalize (ts.mergeSort fun a b => kLe (a.1, a.2.1) (b.1, b.2.1)) = zs at *
      simp only [RV]
      refine ⟨pl, _, rfl, ⟨hH1.notin hp, fun z => hH1.hid _ z hp⟩, hl, ?_, ?_⟩
      · have := congrArg List.length hus
        rw [List.length_map, List.length_map] at this
        rw [List.length_map, this, sizeLine_eq]; omega
      · have key : ∀ (us : List (Addr × Key × V)) (zs : List (Key × D × V)), us.map (·.2) = zs.map (fun t => (t.1, t.2.2)) → (∀ t ∈ us, ∃ o, PlO o ∧ H1 t.1 = none ∧ H' t.1 = some (.frz o (.tup [kV t.2.1, t.2.2]))) → (∀ t ∈ zs, t ∈ ts) → RVs X.K H' μ1 (zs.map (prrD ∘ fun t => (t.1, t.2.1))) (us.map fun t => V.ref t.1) := by
          intro us
          induction us with
          | nil => intro zs e _ _; cases zs with | nil => simp [RVs] | cons => simp at e
          | cons u us ih =>
            intro zs e h1 h2
            cases zs with
            | nil => simp at e
            | cons z zs =>
              simp only [List.map_cons, List.cons.injEq] at e
              simp only [List.map_cons, RVs]
              refine ⟨_, _, rfl, ?_, ih zs e.2 (fun t h => h1 t (List.mem_cons_of_mem _ h)) fun t h => h2 t (List.mem_cons_of_mem _ h)⟩
              obtain ⟨o, po, hn, hf⟩ := h1 u List.mem_cons_self
              rw [e.1] at hf
              have rz := RV.ext ex _ _ (ht z (h2 z List.mem_cons_self))
              simp only [Function.comp, prrD, RV]
              refine ⟨u.1, [kV z.1, z.2.2], rfl, .inl ⟨o, hf, po⟩, by rw [sizeLine_eq]; simp, ?_⟩
              simp only [RVs]
              refine ⟨_, _, rfl, ?_, _, _, rfl, rz, rfl⟩
              cases z.1 <;> simp [kyD, kV, RV]
        exact key us zs hus hpr hsub
end
end FL

set_option maxRecDepth 100000
namespace FL
open PySem PySem.Spec PyProof.Rows L2

/-! ### d.update(d2), d2 another thing of the store -/
def mDupdR (fo fe : ME) : ME := fun ρ m => (fo ρ m).bind fun d m => match d with
  | .ref i => match m[i]? with
    | some (.dK _) => (fe ρ m).bind fun y m => match m[i]?, y with
      | some (.dK ks), .ref j => if j = i then .no else match m[j]? with
        | some (.dK ms) => if ks.length + ms.length < 1000000 then .ok .non (m.set i (.dK (ms.foldl (fun acc kv => setK acc kv.1 kv.2) ks))) else .no
        | _ => .no
      | _, _ => .no
    | _ => .no
  | _ => .no
section
variable {X : Cx} {W : WX} {o e : Expr} {fo fe : ME} {apos cpos : Pos}
theorem pd_dupdR (ho : PD X W o fo) (he : PD X W e fe) (hbase : attributeBase o "update" X.env (eval o X.env) = eval o X.env := by rfl)
    (hfew : ((backTo cpos (starEach [e] X.env)).all (fun x => !x.1) && (backToKw cpos (keywordEach [] X.env)).all (fun x => x.1.isSome)
      && decide (([e] : List Expr).length + ([] : List Keyword).length + (if ([] : List Keyword).isEmpty then 0 else 1) < 30)) = true := by rfl)
    (hline : (apos.endLine == cpos.line) = true := by rfl) (hs : starEach [e] X.env = (false, eval e X.env) :: starEach [] X.env := by rfl) (hplain : (backTo cpos (starEach [] X.env)).any (·.1) = false := by rfl) :
    PD X W (.Call (.Attribute o "update" apos) [e] [] cpos) (mDupdR fo fe) :=
  PE.imp (pe_dupd ho (pa_cons he pa_nil hs) hbase hfew hline hs hplain) fun σ H Q ⟨μ, ρ, m, hH, hS, q⟩ => by
    refine seqR q hH hS fun d m1 v H1 μ1 e1 hH1 r1 hS1 q1 => ?_
    cases d with
    | ref i =>
      simp only [RVv, RV] at r1
      obtain ⟨a, rfl, ha⟩ := r1
      cases e2 : m1[i]? with
      | none => simp only [e2] at q1; exact q1.elim
      | some c =>
        cases c with
        | dK kvs0 =>
          simp only [e2] at q1
          obtain ⟨a', ea, ps0, hs0, _⟩ := hH1.at' i _ e2
          rw [ha] at ea; cases ea
          refine ⟨⟨a, rfl, .inl ⟨ps0, .inl hs0⟩⟩, ?_⟩
          refine seqR q1 hH1 hS1 fun y m2 z H2 μ2 e2' hH2 r2 hS2 q2 => ?_
          have ha2 := e2'.get ha
          cases e3 : m2[i]? with
          | none => simp only [e3] at q2; exact q2.elim
          | some c =>
            cases c with
            | dK ks =>
              cases y with
              | ref j =>
                simp only [e3] at q2
                by_cases hji : j = i
                · rw [if_pos hji] at q2; exact q2.elim
                rw [if_neg hji] at q2
                cases e4 : m2[j]? with
                | none => simp only [e4] at q2; exact q2.elim
                | some c4 =>
                  cases c4 with
                  | dK ms =>
                    simp only [e4] at q2
                    split at q2
                    · rename_i hl
                      obtain ⟨a', ea, ps, hs2, hr⟩ := hH2.at' i _ e3
                      rw [ha2] at ea; cases ea
                      simp only [RVv, RV] at r2
                      obtain ⟨b, rfl, hb⟩ := r2
                      obtain ⟨b', eb, qs, hb2, hr2⟩ := hH2.at' j _ e4
                      rw [hb] at eb; cases eb
                      have hab : a ≠ b := fun e => by
                        subst e
                        obtain ⟨h1, h1'⟩ := List.getElem?_eq_some_iff.mp ha2
                        obtain ⟨h2, h2'⟩ := List.getElem?_eq_some_iff.mp hb
                        exact hji ((List.getElem_inj hH2.nd).mp (h2'.trans h1'.symm))
                      have l1 := rvq_len (rvk_iff.mp hr)
                      have l2 := rvq_len (rvk_iff.mp hr2)
                      have nf : ∀ o u, H2 a ≠ some (.frz o u) := fun o u z => by rw [hs2] at z; cases z
                      have x := Ext.wr (o := .dK (mergeK ps qs)) hH2 ha2 nf
                      refine ⟨a, b, ps, qs, rfl, rfl, hab, hs2, .inl hb2, by rw [← l1, ← l2, sizeLine_eq]; omega, ?_⟩
                      refine q2 _ _ μ2 x (hH2.wr ha2 ⟨_, upd_same, rvk_iff.mpr ?_⟩ nf) (by simp [RV])
                      exact L2.Paired.mapP (merge_rv (rvk_iff.mp hr2) (rvk_iff.mp hr)) fun p q z => ⟨z.1, RV.ext x _ _ z.2⟩
                    · exact q2.elim
                  | _ => simp only [e4] at q2; exact q2.elim
              | _ => simp only [e3] at q2; exact q2.elim
            | _ => simp only [e3] at q2; exact q2.elim
        | _ => simp only [e2] at q1; exact q1.elim
    | _ => exact q1.elim
end
end FL

set_option maxRecDepth 100000
namespace FL
open PySem PySem.Spec PyProof.Rows L2

/-! ### min(xs), xs a list or a tuple of data that can be compared -/
def mnIx (xs : List PyData) : Nat := argBest (fun i j => PySem.W.dataLt (xs.getD i .none) (xs.getD j .none)) (xs.length - 1)
def rMinG (K : PySem.W.Frag) : List V → Hp → VK → Prop := fun vs H Q => ∃ (a : Addr) (bs : List DV), vs = [.ref a] ∧ SqL K H a (bs.map (·.1)) ∧ (∀ b ∈ bs, Dp K H b.1 b.2 ∧ b.2.depth ≤ 60) ∧ PySem.W.AlikeAll (bs.map (·.2)) ∧ 0 < bs.length ∧ bs.length ≤ 1000000 ∧
  ∀ b, bs[mnIx (bs.map (·.2))]? = some b → Q b.1 H
theorem each_reads {h : Heap} : ∀ {vs : List Value} {bs : List DV}, PySem.W.EachIs (fun u (b : DV) => ∃ as, Reads h u b.2 as) vs bs → ∃ as, ReadsAll h vs (bs.map (·.2)) as
  | _, _, .nil => ⟨_, .nil⟩
  | _, _, .cons r t => by
    obtain ⟨as, r⟩ := r
    obtain ⟨bs, t⟩ := each_reads t
    exact ⟨_, .cons r t⟩
theorem each_get {R : Value → DV → Prop} : ∀ {vs : List Value} {bs : List DV}, PySem.W.EachIs R vs bs → ∀ (i : Nat) (v : Value), vs[i]? = some v → ∃ b, bs[i]? = some b ∧ R v b
  | _, _, .nil, i, v, e => by simp at e
  | _, _, .cons r t, 0, v, e => by
    simp only [List.getElem?_cons_zero, Option.some.injEq] at e
    subst e
    exact ⟨_, rfl, r⟩
  | _, _, .cons r t, i + 1, v, e => by
    simp only [List.getElem?_cons_succ] at e ⊢
    exact each_get t i v e
theorem each_len {R : Value → DV → Prop} : ∀ {vs : List Value} {bs : List DV}, PySem.W.EachIs R vs bs → vs.length = bs.length
  | _, _, .nil => rfl
  | _, _, .cons r t => by simp [each_len t]
theorem depths_le {xs : List PyData} {k : Nat} (h : ∀ x ∈ xs, x.depth ≤ k) : PyData.depthAll xs ≤ k := by
  induction xs with
  | nil => simp [PyData.depthAll]
  | cons a l ih =>
    have := h a List.mem_cons_self
    have := ih fun x hx => h x (List.mem_cons_of_mem _ hx)
    simp only [PyData.depthAll]; omega
theorem cr_minG {X : Cx} (hc : X.calm = true) (hu : X.A.units + 64 < cLine) : CallR X (.builtin "min") (rMinG X.K) := by
  intro pins s σ H xs us Q I r h
  obtain ⟨a, bs, rfl, hq, hb, hal, hne, hz, q⟩ := h
  obtain ⟨u, rfl, ru⟩ := vals1 r
  cases ru
  obtain ⟨its, rv, p, _⟩ := I.list hq
  obtain ⟨e1, e2⟩ := each_dv I rv fun b hb' => (hb b hb').1
  obtain ⟨as, hr⟩ := each_reads e2
  have hl := each_len e1
  have hd : PyData.depthAll (bs.map (·.2)) ≤ 60 := depths_le fun x hx => by obtain ⟨b, h1, rfl⟩ := List.mem_map.mp hx; exact (hb b h1).2
  have hr' : ReadsAll s.heap its.toArray.toList (bs.map (·.2)) as := by simpa using hr
  refine PySem.call_min_walkH (PySem.W.iter_listW (A := X.A.in1) (I.ok.hd hc) p.isList fun s₂ e W st hfp hw hk => ?_)
  refine ⟨_, _, _, _, _, _, _, s.heap, _, rfl, W, st, hfp, by simp; omega, hw, hk, PySem.W.cmpIn_lt (A := X.A.in1) hr' hal (by show X.A.units + 1 + _ < _; omega), fun v s' hP m => ?_⟩
  obtain ⟨h', tk, rfl, hk'⟩ := PySem.W.moved_old e rfl m
  have hsz : its.toArray.size - 1 = (bs.map (·.2)).length - 1 := by simp [hl]
  rw [hsz] at hP
  have hP' : its[mnIx (bs.map (·.2))]? = some v := by simpa [mnIx] using hP
  obtain ⟨b, h1, h2⟩ := each_get e1 _ v hP'
  exact ⟨b.1, H, I.kept hk', h2, q b h1⟩
structure OkMin (xs : List D) : Prop where
  py : ∀ x ∈ xs, (py x).isSome = true ∧ (enc x).depth ≤ 60
  al : PySem.W.AlikeAll (xs.map enc)
  ne : 0 < xs.length
  few : xs.length ≤ 1000000
open Classical in
noncomputable def gMin (ds : List D) (m : Me) : Res D := match ds with
  | [d] => match lstV m d with
    | some xs => if OkMin xs then .ok (xs.getD (mnIx (xs.map enc)) .non) m else .no
    | none => .no
  | _ => .no
theorem g_min {K : PySem.W.Frag} : GC K (rMinG K) gMin := fun Ex H μ m ds vs Q hH rr q => by
  unfold gMin at q
  split at q
  case h_2 => exact q.elim
  rename_i d
  obtain ⟨v, rfl, r⟩ := rvs1 rr
  split at q
  case h_2 => exact q.elim
  rename_i xs e
  split at q
  case isFalse => exact q.elim
  rename_i ok
  obtain ⟨a, vs, rfl, ha, hz, hr⟩ := lstV_of hH r e
  obtain ⟨ts, rfl, rfl, ht⟩ := pairs_rvs hr
  have e3 : (ts.map fun t => (t.2, enc t.1)).map (·.2) = (ts.map (·.1)).map enc := by rw [List.map_map, List.map_map]; rfl
  refine ⟨a, ts.map fun t => (t.2, enc t.1), rfl, ?_, ?_, ?_, ?_, ?_, fun b hb => ?_⟩
  · rw [List.map_map]; exact .of ha
  · intro b hb
    obtain ⟨t, h1, rfl⟩ := List.mem_map.mp hb
    obtain ⟨h2, h3⟩ := ok.py t.1 (List.mem_map_of_mem h1)
    exact ⟨enc_dp (ht t h1) h2, h3⟩
  · rw [e3]; exact ok.al
  · have := ok.ne; simpa using this
  · have := ok.few; simpa using this
  · rw [e3] at hb
    generalize mnIx ((ts.map (·.1)).map enc) = i at hb q
    rw [List.getElem?_map] at hb
    cases e4 : ts[i]? with
    | none => rw [e4] at hb; cases hb
    | some t =>
      rw [e4] at hb
      cases hb
      have e5 : (ts.map (·.1)).getD i .non = t.1 := by rw [List.getD_eq_getElem?_getD, List.getElem?_map, e4]; rfl
      rw [e5] at q
      exact q _ H μ .refl hH (ht t (List.mem_of_getElem? e4))
/-! ### sorted(d), all keys numbers -/
def ikeys : List (Key × D) → Option (List Int)
  | [] => some []
  | (.inl i, _) :: r => (ikeys r).map (i :: ·)
  | _ => none
def leI (a b : Int) : Bool := decide (a ≤ b)
def gSortDI (ds : List D) (m : Me) : Res D := match ds with
  | [d] => match view m d with
    | .dct kvs => match ikeys kvs with
      | some ks => if ks.length < 64 then .ok (.lst ((ks.mergeSort leI).map .int)) m else .no
      | none => .no
    | _ => .no
  | _ => .no
theorem ikeys_rv {K : PySem.W.Frag} {H : Hp} {μ : Mu} : ∀ {kvs : List (Key × D)} {ps : List (Key × V)} {ks : List Int}, RVq K H μ kvs ps → ikeys kvs = some ks → ps.map (·.1) = ks.map Sum.inl
  | [], [], ks, _, e => by cases e; rfl
  | (k, d) :: kvs, (k', v) :: ps, ks, r, e => by
    cases r with
    | cons r1 r2 =>
      obtain rfl : k = k' := r1.1
      cases k with
      | inr x => cases e
      | inl i =>
        simp only [ikeys] at e
        cases e2 : ikeys kvs with
        | none => rw [e2] at e; cases e
        | some l =>
          rw [e2] at e; cases e
          simp [ikeys_rv r2 e2]
theorem leI_sort {ys ks : List Int} (hp : ys.Perm ks) (hs : ys.Pairwise (· ≤ ·)) : ks.mergeSort leI = ys := by
  refine List.Perm.eq_of_pairwise (le := fun a b => leI a b = true) (fun a b _ _ h1 h2 => ?_) ?_ ?_ ((List.mergeSort_perm ks leI).trans hp.symm)
  · simp only [leI, decide_eq_true_eq] at h1 h2; omega
  · exact List.pairwise_mergeSort (le := leI) (fun a b c h1 h2 => by simp only [leI, decide_eq_true_eq] at *; omega) (fun a b => by simp only [leI, Bool.or_eq_true, decide_eq_true_eq]; omega) ks
  · exact hs.imp fun h => by simpa [leI] using h
theorem g_sortDI {K : PySem.W.Frag} : GC K (fun xs H Q => ∃ (a : Addr) (kvs : List (Key × V)) (ks : List Int), xs = [.ref a] ∧ Rd H a (.dK kvs) ∧ kvs.map (·.1) = ks.map Sum.inl ∧ ks.length < 64 ∧
    ∀ (ys : List Int) (p : Addr), ys.Perm ks → ys.Pairwise (· ≤ ·) → H p = none → Q (.ref p) (upd H p (.lst (ys.map V.int)))) gSortDI := fun Ex H μ m ds vs Q hH rr q => by
  unfold gSortDI at q
  split at q
  · obtain ⟨v, rfl, r⟩ := rvs1 rr
    split at q
    · rename_i d kvs e
      obtain ⟨a, ps, rfl, hs, hr⟩ := view_dct hH r e
      split at q
      · rename_i ks e2
        split at q
        · rename_i h64
          refine ⟨a, ps, ks, rfl, hs, ikeys_rv (rvk_iff.mp hr) e2, h64, fun ys p hp hsd hn => ?_⟩
          have ey := leI_sort hp hsd
          have ex := Ext.new (o := .lst (ys.map V.int)) hH hn
          refine q _ _ μ ex (hH.new hn) ?_
          simp only [RV]
          refine ⟨p, _, rfl, ⟨hH.notin hn, fun z => hH.hid _ z hn⟩, upd_same, ?_, ?_⟩
          · rw [List.length_map, hp.length_eq, sizeLine_eq]; omega
          · rw [ey]; exact ints_rv _
        · exact q.elim
      · exact q.elim
    · exact q.elim
  · exact q.elim
/-! ### d != e, of two lengths, or both empty -/
def rNeL : R2 := fun x y H Q => ∃ a b ks ls, x = .ref a ∧ y = .ref b ∧ Rd H a (.dK ks) ∧ Rd H b (.dK ls) ∧ (ks.length = ls.length → ks = []) ∧ Q (.bl (decide (ks.length ≠ ls.length))) H
theorem op_neL {X : Cx} (hu : X.A.units + 64 < cLine) : OpR X (compareOp .NotEq) rNeL := by
  intro pins s σ H x y v u Q I rx ry h
  obtain ⟨a, b, ks, ls, rfl, rfl, ea, eb, hlen, q⟩ := h
  obtain rfl : v = Value.ref a := rx
  obtain rfl : u = Value.ref b := ry
  obtain ⟨_, ya, va, ra, da⟩ := dk_rd I.hok ea
  obtain ⟨_, yb, vb, rb, db⟩ := dk_rd I.hok eb
  have l1 := ra.length
  have l2 := rb.length
  refine PySem.W.keq_ne (knd := mixKind X.prog X.w) (r := true) ya yb da db (by omega) (fun e => hits_all rb ra fun p hp => ?_) (fin_bl I q ?_)
  · rw [hlen (by omega)] at hp; cases hp
  · rw [← l1, ← l2]
    by_cases e : ks.length = ls.length <;> simp [e]
def gNeL (d d' : D) (m : Me) : Res D := match view m d, view m d' with
  | .dct ks, .dct ls => if ks.length = ls.length ∧ ks.length ≠ 0 then .no else .ok (.bl (decide (ks.length ≠ ls.length))) m
  | _, _ => .no
theorem g_neL {K : PySem.W.Frag} : G2 K rNeL gNeL := fun Ex H μ m d d' x y Q hH r1 r2 q => by
  unfold gNeL at q
  split at q
  · rename_i ks ls e1 e2
    split at q
    · exact q.elim
    · rename_i h
      obtain ⟨a, ps, rfl, h1, h2⟩ := view_dct hH r1 e1
      obtain ⟨b, qs, rfl, h3, h4⟩ := view_dct hH r2 e2
      have l1 := rvq_len (rvk_iff.mp h2)
      have l2 := rvq_len (rvk_iff.mp h4)
      refine ⟨a, b, ps, qs, rfl, rfl, h1, h3, fun e => ?_, q _ H μ .refl hH (by simp [RV, l1, l2])⟩
      cases ps with
      | nil => rfl
      | cons p ps => exact absurd ⟨by rw [l1, l2]; exact e, by rw [l1]; simp⟩ h
  · exact q.elim
/-! ### d.setdefault(k, y) -/
def mSetd (fo fk fv : ME) : ME := fun ρ m => (fo ρ m).bind fun d m => match d with
  | .ref i => match m[i]? with
    | some (.dK _) => (fk ρ m).bind fun k m => (fv ρ m).bind fun y m => match m[i]?, keyD k with
      | some (.dK kvs), some k => if kvs.length < 1000000 then match getK kvs k with
        | some v => .ok v m
        | none => .ok y (m.set i (.dK (setK kvs k y)))
        else .no
      | _, _ => .no
    | _ => .no
  | _ => .no
section
variable {X : Cx} {W : WX} {o e f : Expr} {fo fk fv : ME} {apos cpos : Pos}
theorem pd_setd (ho : PD X W o fo) (he : PD X W e fk) (hf : PD X W f fv) (mm : M2 X o "setdefault" apos e f cpos) : PD X W (.Call (.Attribute o "setdefault" apos) [e, f] [] cpos) (mSetd fo fk fv) :=
  PE.imp (pe_dsetd ho he hf mm) fun σ H Q ⟨μ, ρ, m, hH, hS, q⟩ => by
    refine seqR q hH hS fun d m1 v H1 μ1 e1 hH1 r1 hS1 q1 => ?_
    cases d with
    | ref i =>
      simp only [RVv, RV] at r1
      obtain ⟨a, rfl, ha⟩ := r1
      cases e2 : m1[i]? with
      | none => simp only [e2] at q1; exact q1.elim
      | some c =>
        cases c with
        | dK kvs0 =>
          simp only [e2] at q1
          obtain ⟨a', ea, ps0, hs0, _⟩ := hH1.at' i _ e2
          rw [ha] at ea; cases ea
          refine ⟨a, rfl, .inl ⟨ps0, .inl hs0⟩, ?_⟩
          refine seqR q1 hH1 hS1 fun k m2 z H2 μ2 e2' hH2 r2 hS2 q2 => ?_
          refine seqR q2 hH2 hS2 fun y m3 w H3 μ3 e3' hH3 r3 hS3 q3 => ?_
          have ha3 := e3'.get (e2'.get ha)
          have rk := RV.ext e3' k z r2
          cases e4 : m3[i]? with
          | none => simp only [e4] at q3; exact q3.elim
          | some c =>
            cases c with
            | dK kvs =>
              cases e5 : keyD k with
              | none => simp only [e4, e5] at q3; exact q3.elim
              | some kk =>
                simp only [e4, e5] at q3
                split at q3
                · rename_i hl
                  obtain ⟨a', ea, ps, hs, hr⟩ := hH3.at' i _ e4
                  rw [ha3] at ea; cases ea
                  have hq := rvk_iff.mp hr
                  have hlen : ps.length < sizeLine := by rw [← rvq_len hq, sizeLine_eq]; omega
                  refine ⟨ps, kk, hs, keyD_rv rk e5, hlen, fun v hv => ?_, fun hn => ?_⟩
                  · have hg := rvq_get (k := kk) hq
                    cases e6 : getK kvs kk with
                    | none =>
                      simp only [e6] at hg
                      rw [hg] at hv; cases hv
                    | some u =>
                      simp only [e6] at hg q3
                      obtain ⟨u', h1, h2⟩ := hg
                      rw [h1] at hv; cases hv
                      exact q3 _ H3 μ3 .refl hH3 h2
                  · have hg := rvq_get (k := kk) hq
                    cases e6 : getK kvs kk with
                    | some u =>
                      simp only [e6] at hg
                      obtain ⟨u', h1, h2⟩ := hg
                      rw [h1] at hn; cases hn
                    | none =>
                      simp only [e6] at q3
                      have nf : ∀ o u, H3 a ≠ some (.frz o u) := fun o u z => by rw [hs] at z; cases z
                      have x := Ext.wr (o := .dK (putK ps kk w)) hH3 ha3 nf
                      refine q3 _ _ μ3 x (hH3.wr ha3 ⟨_, upd_same, rvk_iff.mpr ?_⟩ nf) (RV.ext x _ _ r3)
                      exact L2.Paired.mapP (rvq_set r3 hq) fun p q z => ⟨z.1, RV.ext x _ _ z.2⟩
                · exact q3.elim
            | _ => simp only [e4] at q3; exact q3.elim
        | _ => simp only [e2] at q1; exact q1.elim
    | _ => exact q1.elim
end
end FL

set_option maxRecDepth 100000
namespace FL
open PySem PySem.Spec PyProof.Rows L2

/-! ### leaving a def by an exception -/
noncomputable def leaveX (m : Me) (x : Exn) (m' : Me) : Res D :=
  if m'.length = m.length then .exc x m'
  else @ite _ (x.fs.all (fun p => clo m.length p.2) = true ∧ (m'.take m.length).all (cloC m.length) = true) (Classical.propDecidable _) (.exc x (m'.take m.length)) .no
noncomputable def runDefX (N n : Nat) (f : MS) : List D → Me → Res D := fun ds m => match f (ds.map some ++ List.replicate (N - n) none) m with
  | .nx _ m' => leave m .non m'
  | .rt d m' => leave m d m'
  | .exc x _ m' => leaveX m x m'
  | _ => .no
section
variable {K : PySem.W.Frag} {H H' : Hp} {μ μ' : Mu} {m m' : Me}
theorem RX.cut {n : Nat} {x : Exn} {c : Value} {d : Option Addr} (r : RX K H μ x c d) (h : x.fs.all (fun p => clo n p.2) = true) : RX K H (μ.cut n) x c d := by
  refine ⟨r.1, ?_⟩
  have r2 := r.2
  cases d with
  | none => exact r2
  | some a => obtain ⟨fs, g1, g2⟩ := r2; exact ⟨fs, g1, Paired.all2 g2 (fun p q z y => ⟨z.1, RV.cut _ _ z.2 y⟩) h⟩
theorem RX.ext {x : Exn} {c : Value} {d : Option Addr} (r : RX K H μ x c d) (e : Ext K H μ H' μ') : RX K H' μ' x c d := by
  refine ⟨r.1, ?_⟩
  have r2 := r.2
  cases d with
  | none => exact r2
  | some a => obtain ⟨fs, g1, g2⟩ := r2; exact ⟨fs, e.xd a fs g1, L2.Paired.mapP g2 fun p q z => ⟨z.1, RV.ext e _ _ z.2⟩⟩
theorem leaveX_ok {Ex : XK} {Q : VK} {x : Exn} {c : Value} {d : Option Addr} (hH : RH K H μ m) (q : Ok K Ex H μ (RVv K) Q (leaveX m x m')) (e : Ext K H μ H' μ') (hH' : RH K H' μ' m') (r : RX K H' μ' x c d) : Ex c d H' := by
  unfold leaveX at q
  split at q
  · exact q H' μ' c d e hH' r
  · by_cases hc : x.fs.all (fun p => clo m.length p.2) = true ∧ (m'.take m.length).all (cloC m.length) = true
    · rw [if_pos hc] at q
      obtain ⟨x2, e2⟩ := e.cut (n := m.length) (by rw [hH.len])
      exact q H' _ c d x2 (hH'.cut hc.2) (r.cut hc.1)
    · rw [if_neg hc] at q; exact q.elim
end
abbrev WEx (E : XK) : WX := fun c d _ H => E c d H
section
variable {P : Program} {w : World} {K : PySem.W.Frag} {mg : Str → Option Value} {base : Heap}
theorem fn_okX {x qual : Str} {st : Stmt} {f : Addr} {fd : FuncData} {N ps : List Str} {k : Nat} (F : Fun K x qual st f fd) (S : FnScope N ps (defScope st)) {fm : MS}
    (hbody : ∀ (cdv : Value) (A : Around) (outer : List Env) (s : Shared) (H : Hp) (E : XK), Room k (A.deeper (envOfC qual (defScope st) s.heap.objs.size f cdv)) →
      Takes (cxOf (L2.CX P w) P w K mg base N qual (defScope st) f cdv A outer s H E) (WEx E) →
      PDB (cxOf (L2.CX P w) P w K mg base N qual (defScope st) f cdv A outer s H E) (WEx E) (defBody st) fm) : FnOk P w K mg base (L2.CX P w) (k + 1) f fd ps (spF K ps.length (runDefX N.length ps.length fm)) := by
  refine F.okX S (fun vs H Q E h => ?_) (fun cdv A outer s H vs Q E hr h => ?_)
  · obtain ⟨μ, m, ds, _, r, hn, _⟩ := h
    rw [← r.length, hn]
  · obtain ⟨μ, m, ds, hH, r, hn, q⟩ := h
    refine ⟨_, hbody cdv A outer s H E hr (takes_of rfl rfl rfl rfl), μ, _, m, hH, start_rs r hn, ?_⟩
    unfold runDefX at q
    cases e : fm (ds.map some ++ List.replicate (N.length - ps.length) none) m with
    | no => simp only [e] at q; exact q
    | exc x ρ m' => simp only [e] at q; exact fun σ' H' μ' c d x' hH' hS' r' => leaveX_ok hH q x' hH' r'
    | bk ρ m' => simp only [e] at q; exact q.elim
    | ct ρ m' => simp only [e] at q; exact q.elim
    | nx ρ m' => simp only [e] at q; exact fun σ' H' μ' x hH' hS' => leave_ok hH q x hH' (by simp [RV])
    | rt d m' => simp only [e] at q; exact fun v H' μ' x hH' r' => leave_ok hH q x hH' r'
theorem fn_zeroX {f : Addr} {fd : FuncData} {ps : List Str} {n : Nat} : FnOk P w K mg base (L2.CX P w) 0 f fd ps (spF K n fun _ _ => .no) := by
  have no : ∀ vs H Q E, ¬ spF K n (fun _ _ => .no) vs H Q E := fun vs H Q E ⟨_, _, _, _, _, _, q⟩ => q
  exact ⟨fun vs H Q E h => absurd h (no vs H Q E), fun A outer s H args us vs Q E _ _ _ _ h => absurd h (no vs H Q E)⟩
end
/-! ### calls that may raise -/
def mCallX (F : List D → Me → Res D) (fa : MA) : ME := fun ρ m => (fa ρ m).bind F
def mMethX (C : Addr) (x : Str) (F : List D → Me → Res D) (fo : ME) (fa : MA) : ME := fun ρ m => (fo ρ m).bind fun d m => match d with
  | .ref i => match m[i]? with
    | some (.ins C' fs) => if C' = C ∧ fs.lookup x = none then (fa ρ m).bind fun ds m => F (.ref i :: ds) m else .no
    | _ => .no
  | _ => .no
section
variable {X : Cx} {W : WX} {k n : Nat} {f C : Addr} {fd : FuncData} {ps : List Str} {x : Str} {p pos apos : Pos} {e o : Expr} {es : List Expr} {Fm : List D → Me → Res D} {fo : ME} {fa : MA}
theorem pd_callX (tk : Takes X W) (G : FnOk X.prog X.w X.K X.mg X.base (L2.CX X.prog X.w) k f fd ps (spF X.K n Fm)) (hr : Room k X.A) (hg : Gl X x) (hm : X.mg x = some (.ref f)) (hk : PySem.W.keepIn X.K (.ref f) = true) (hb : Binds X.K fd ps [])
    (ha : PDA X W n (e :: es) fa) (hdb : (x == ("__debug__" : Str)) = false := by decide) (he : starEach (e :: es) X.env = (false, eval e X.env) :: starEach es X.env := by rfl) (hpl : (backTo pos (starEach es X.env)).any (·.1) = false := by rfl) :
    PD X W (.Call (.Name x p) (e :: es) [] pos) (mCallX Fm fa) :=
  PE.imp (pe_callS (E := fun σ c d H => W c d σ H) G hr hg hm hk hb (fun σ => passAt tk σ) ha hdb he hpl) fun σ H Q ⟨μ, ρ, m, hH, hS, q⟩ => seqR q hH hS fun ds m1 vs H1 μ1 e1 hH1 r1 hS1 q1 =>
    ⟨μ1, m1, ds, hH1, r1.1, r1.2, q1⟩
/-- a def that may raise, called where it does not -/
theorem pd_call1 (G : FnOk X.prog X.w X.K X.mg X.base (L2.CX X.prog X.w) k f fd ps (spF X.K n Fm)) (hr : Room k X.A) (hg : Gl X x) (hm : X.mg x = some (.ref f)) (hk : PySem.W.keepIn X.K (.ref f) = true) (hb : Binds X.K fd ps [])
    (ha : PDA X W n (e :: es) fa) (hdb : (x == ("__debug__" : Str)) = false := by decide) (he : starEach (e :: es) X.env = (false, eval e X.env) :: starEach es X.env := by rfl) (hpl : (backTo pos (starEach es X.env)).any (·.1) = false := by rfl) :
    PD X W (.Call (.Name x p) (e :: es) [] pos) (mCall Fm fa) :=
  PE.imp (pe_call G hr hg hm hk hb .nil passL ha hdb he hpl) fun σ H Q ⟨μ, ρ, m, hH, hS, q⟩ => seqR q hH hS fun ds m1 vs H1 μ1 e1 hH1 r1 hS1 q1 => by
    refine ⟨μ1, m1, ds, hH1, by simpa using r1.1, r1.2, Ok.noX' q1⟩
def tMethS (C : Addr) (m : Str) (sp : Sp) (E : L2.St → XK) (ta : TE) (t : TA) : TE := fun σ H Q => ta σ H fun x H1 => ∃ (a dx : Addr) (fs : List (Str × V)), x = .ref a ∧ H1 a = some (.ins C dx fs) ∧ fs.lookup m = none ∧ t σ H1 fun vs H2 => sp (.ref a :: vs) H2 Q (E σ)
theorem pe_methS {CX : CXT} {sp : Sp} {E : L2.St → XK} {m : Str} {ta : TE} {t : TA} (pl : Sem Bool) (he : PE X o ta) (c : Cls X.K C) (hm : Meth X.K C m f) (F : FnOk X.prog X.w X.K X.mg X.base CX k f fd ps sp) (hr : Room k X.A) (hb : Binds X.K fd ps []) (hx : ∀ σ, PassesAt CX X σ (E σ)) (ha : PA X (e :: es) t)
    (hst : starEach (e :: es) X.env = (false, eval e X.env) :: starEach es X.env := by rfl) (hpl : (backTo pos (starEach es X.env)).any (·.1) = false := by rfl)
    (ht : eval (.Call (.Attribute o m apos) (e :: es) [] pos) X.env = (do
      let ov ← eval o X.env
      standAt apos.atName
      let (f, first) ← holding [ov] (getMethod ov m pl)
      callWith pos f first (backTo pos (starEach (e :: es) X.env)) (backToKw pos (keywordEach [] X.env))) := by rfl) :
    PE X (.Call (.Attribute o m apos) (e :: es) [] pos) (tMethS C m sp E ta t) := by
  refine ⟨fun pins s σ H Q I h => ?_⟩
  refine PySem.W.methodCall_KW (pl := pl) (thn (he.run pins s σ H _ I h) fun u s1 ⟨x, H1, I1, rx, a, dx, fs, ex, ea, l, q⟩ => ?_) ht
  subst ex
  obtain rfl : u = Value.ref a := rx
  refine getmeth_ok I1 ea c hm l ?_
  refine PySem.W.callWith_K (first := [.ref a]) (h₀ := X.base) I.ok.mod.kin hm.kp (thn (ha.run pos pins s1 σ H1 _ I1 q) fun us s2 ⟨vs, H2, I2, r, q2⟩ => ⟨I2.kIn, ?_⟩) hst hpl
  exact run_fnS (us := .ref a :: us) (vs := .ref a :: vs) F hr hb (hx σ) I2 (.cons rfl r) q2
theorem pe_methS0 {CX : CXT} {sp : Sp} {E : L2.St → XK} {m : Str} {ta : TE} (pl : Sem Bool) (he : PE X o ta) (c : Cls X.K C) (hm : Meth X.K C m f) (F : FnOk X.prog X.w X.K X.mg X.base CX k f fd ps sp) (hr : Room k X.A) (hb : Binds X.K fd ps []) (hx : ∀ σ, PassesAt CX X σ (E σ))
    (ht : eval (.Call (.Attribute o m apos) [] [] pos) X.env = (do
      let ov ← eval o X.env
      standAt apos.atName
      let (f, first) ← holding [ov] (getMethod ov m pl)
      callWith pos f first (backTo pos (starEach [] X.env)) (backToKw pos (keywordEach [] X.env))) := by rfl) :
    PE X (.Call (.Attribute o m apos) [] [] pos) (tMethS C m sp E ta tNil) := by
  refine ⟨fun pins s σ H Q I h => ?_⟩
  refine PySem.W.methodCall_KW (pl := pl) (thn (he.run pins s σ H _ I h) fun u s1 ⟨x, H1, I1, rx, a, dx, fs, ex, ea, l, q⟩ => ?_) ht
  subst ex
  obtain rfl : u = Value.ref a := rx
  refine getmeth_ok I1 ea c hm l ?_
  exact PySem.W.callWith_K0 (first := [.ref a]) I1.kIn hm.kp (run_fnS (us := [.ref a]) (vs := [.ref a]) F hr hb (hx σ) I1 (.cons rfl .nil) q)
theorem methS_imp {t : TA} {tq : TE} (ht : t = tR X.K W (RVn X.K n) fa) (ho : tq = tR X.K W (RVv X.K) fo) : ∀ σ H Q, tR X.K W (RVv X.K) (mMethX C x Fm fo fa) σ H Q → tMethS C x (spF X.K (n + 1) Fm) (fun σ c d H => W c d σ H) tq t σ H Q := fun σ H Q ⟨μ, ρ, m, hH, hS, q⟩ => by
  subst ht ho
  refine seqR q hH hS fun d m1 v H1 μ1 e1 hH1 r1 hS1 q1 => ?_
  split at q1
  case h_2 => exact q1.elim
  rename_i i
  split at q1
  case h_2 => exact q1.elim
  rename_i C' fs ei
  split at q1
  case isFalse => exact q1.elim
  rename_i hC
  obtain ⟨hC, hl⟩ := hC
  subst hC
  obtain ⟨a, dx, gs, rfl, ha, h1, h2⟩ := ins_of hH1 r1 ei
  have hl' := lookA (f := x) h2
  rw [hl] at hl'
  refine ⟨a, dx, gs, rfl, h1, hl', ?_⟩
  refine seqR q1 hH1 hS1 fun ds m2 vs H2 μ2 e2 hH2 r2 hS2 q2 => ?_
  refine ⟨μ2, m2, .ref i :: ds, hH2, ?_, by simp [r2.2], q2⟩
  simp only [RVs]
  exact ⟨_, _, rfl, RV.ext e2 _ _ r1, by simpa using r2.1⟩
theorem pd_methX (tk : Takes X W) (pl : Sem Bool) (c : Cls X.K C) (hm : Meth X.K C x f) (G : FnOk X.prog X.w X.K X.mg X.base (L2.CX X.prog X.w) k f fd ps (spF X.K (n + 1) Fm)) (hr : Room k X.A) (hb : Binds X.K fd ps []) (ho : PD X W o fo) (ha : PDA X W n (e :: es) fa)
    (hst : starEach (e :: es) X.env = (false, eval e X.env) :: starEach es X.env := by rfl) (hpl : (backTo pos (starEach es X.env)).any (·.1) = false := by rfl)
    (ht : eval (.Call (.Attribute o x apos) (e :: es) [] pos) X.env = (do
      let ov ← eval o X.env
      standAt apos.atName
      let (f, first) ← holding [ov] (getMethod ov x pl)
      callWith pos f first (backTo pos (starEach (e :: es) X.env)) (backToKw pos (keywordEach [] X.env))) := by rfl) : PD X W (.Call (.Attribute o x apos) (e :: es) [] pos) (mMethX C x Fm fo fa) :=
  PE.imp (pe_methS pl ho c hm G hr hb (fun σ => passAt tk σ) ha hst hpl ht) (methS_imp rfl rfl)
theorem nil_rn : PDA X W 0 [] mNil := pda_nil
theorem pd_methX0 (tk : Takes X W) (pl : Sem Bool) (c : Cls X.K C) (hm : Meth X.K C x f) (G : FnOk X.prog X.w X.K X.mg X.base (L2.CX X.prog X.w) k f fd ps (spF X.K (0 + 1) Fm)) (hr : Room k X.A) (hb : Binds X.K fd ps []) (ho : PD X W o fo)
    (ht : eval (.Call (.Attribute o x apos) [] [] pos) X.env = (do
      let ov ← eval o X.env
      standAt apos.atName
      let (f, first) ← holding [ov] (getMethod ov x pl)
      callWith pos f first (backTo pos (starEach [] X.env)) (backToKw pos (keywordEach [] X.env))) := by rfl) : PD X W (.Call (.Attribute o x apos) [] [] pos) (mMethX C x Fm fo mNil) :=
  PE.imp (pe_methS0 (E := fun σ c d H => W c d σ H) pl ho c hm G hr hb (fun σ => passAt tk σ) ht) fun σ H Q ⟨μ, ρ, m, hH, hS, q⟩ => by
    refine seqR q hH hS fun d m1 v H1 μ1 e1 hH1 r1 hS1 q1 => ?_
    split at q1
    case h_2 => exact q1.elim
    rename_i i
    split at q1
    case h_2 => exact q1.elim
    rename_i C' fs ei
    split at q1
    case isFalse => exact q1.elim
    rename_i hC
    obtain ⟨hC, hl⟩ := hC
    subst hC
    obtain ⟨a, dx, gs, rfl, ha, h1, h2⟩ := ins_of hH1 r1 ei
    have hl' := lookA (f := x) h2
    rw [hl] at hl'
    refine ⟨a, dx, gs, rfl, h1, hl', ?_⟩
    refine ⟨μ1, m1, [.ref i], hH1, ?_, rfl, q1⟩
    simp only [RVs]
    exact ⟨_, _, rfl, r1, rfl⟩
end
/-! ### a statement that is never reached -/
def sNever : MS := fun _ _ => .no
theorem pds_never {X : Cx} {W : WX} {st : Stmt} : PDS X W st sNever := PS.imp ps_never fun D σ H ⟨μ, ρ, m, hH, hS, q⟩ => q
/-! ### an own exception is made and raised -/
/-- StayError.__init__(self, ..) -/
theorem pe_sinit {X : Cx} {S : Addr} {y : Str} {mc : Value} {e : Expr} {es : List Expr} {ta : TA} {p1 p2 pos : Pos} {pl : Sem Bool} (hg : Gl X y) (hm : X.mg y = some (.ref S)) (hgt : PySem.W.specialIn X.K (.ref S) "__getattribute__" = some (some (.builtin "type.__getattribute__")))
    (hrd : PySem.W.readsIn X.K S mc = true) (vV : PySem.W.findCls X.K (.ref S) mc "__init__" = some (.val (.builtin "ValueError.__init__"))) (ha : PA X (e :: es) ta) (hd : (y == ("__debug__" : Str)) = false := by decide)
    (hc : eval (.Call (.Attribute (.Name y p1) "__init__" p2) (e :: es) [] pos) X.env = (do
      let ov ← eval (.Name y p1) X.env
      standAt p2.atName
      let (f, first) ← holding [ov] (getMethod ov "__init__" pl)
      callWith pos f first (backTo pos (starEach (e :: es) X.env)) (backToKw pos (keywordEach [] X.env))) := by rfl)
    (he : starEach (e :: es) X.env = (false, eval e X.env) :: starEach es X.env := by rfl) (hpl : (backTo pos (starEach es X.env)).any (·.1) = false := by rfl) :
    PE X (.Call (.Attribute (.Name y p1) "__init__" p2) (e :: es) [] pos) (tVeI X.K ta) := by
  refine ⟨fun pins s σ H Q I h => ?_⟩
  refine PySem.W.methodCall_KW (ld_glob I hg hm ?_ hd) hc
  refine PySem.W.method_cls I.kIn hgt (PySem.W.cls_value I.kIn hrd vV (by decide +kernel) ?_)
  show wpAny _ _ (callWith pos (Value.builtin "ValueError.__init__") [] (backTo pos (starEach (e :: es) X.env)) []) _ _ _
  refine PyProof.Rows.callWith_method1 (thn (ha.run pos pins _ σ H _ (I.tok _) h) fun us s1 ⟨vs, H1, I1, r1, a, C, ws, ev, hl, T, ea, q⟩ => ?_) he hpl
  subst ev
  cases r1 with
  | @cons _ u0 _ ur ra rw' =>
    obtain rfl : u0 = Value.ref a := ra
    have hlen : ur.length ≤ sizeLine := by
      rw [← Paired.length rw', sizeLine_eq]
      omega
    exact oinit_ok T I1 ea hlen fun s' J => ⟨.non, H1, J, rfl, q⟩
/-- what an own __init__ does: pre what it asks of what it is handed, fl the fields that it lays -/
def spI (K : PySem.W.Frag) (C : Addr) (np : Nat) (pre : List V → Prop) (fl : List V → List (Str × V)) : Sp := fun vs H Q E => ∃ (a : Addr) (ws : List V), vs = .ref a :: ws ∧ ws.length = np ∧ pre ws ∧ OexC K C ∧ H a = some (exo a C none) ∧
  ∀ dx, H dx = none → dx ≠ a → Q .non (upd (upd H dx (exd dx (fl ws))) a (exo a C (some dx)))
/-- what stands at the top of such a class -/
structure RsC (P : Program) (w : World) (K : PySem.W.Frag) (mg : Str → Option Value) (base : Heap) (C : Addr) (np : Nat) (pre : List V → Prop) (fl : List V → List (Str × V)) where
  fI : Addr
  fd : FuncData
  ps : List Str
  T : OexC K C
  iC : PySem.W.findIn K (.ref C) "__init__" = some (some (.ref fI))
  tI : PySem.W.typeIn K (.ref fI) = some (.type "function")
  F1 : FnOk P w K mg base CX0 1 fI fd ps (spI K C np pre fl)
  b : Binds K fd ps []
/-- C(..), raised: at fuel n -/
def rsF (C : Addr) (np : Nat) (okD : List D → Bool) (flD : List D → List (Str × D)) : Nat → List D → Me → Res D
  | n + 3 => fun ds m => if ds.isEmpty = true then .ok .non m else if ds.length = np ∧ okD ds = true then .exc ⟨.ref C, flD ds⟩ m else .no
  | _ => fun _ _ => .no
def sRaise (F : List D → Me → Res D) (fa : MA) : MS := fun ρ m => match F [] m with
  | .ok _ _ => bindS ((fa ρ m).bind F) ρ fun _ _ => .no
  | _ => .no
theorem upd_del {H1 : Hp} {a dx C : Addr} {fs : List (Str × V)} {d0 : Option Addr} (hn : H1 a = none) (hd : dx ≠ a) : upd (del (upd (upd (upd H1 a (exo a C d0)) dx (exd dx fs)) a (exo a C (some dx))) a) dx (.xd fs) = upd H1 dx (.xd fs) := by
  funext b
  by_cases h1 : b = dx
  · subst h1; rw [upd_same, upd_same]
  · rw [upd_ne h1, upd_ne h1]
    by_cases h2 : b = a
    · subst h2; rw [del_same, hn]
    · rw [del_ne h2, upd_ne h2, upd_ne h1, upd_ne h2]
theorem pds_raise {X : Cx} {W : WX} {C : Addr} {x : Str} {np n : Nat} {pre : List V → Prop} {fl : List V → List (Str × V)} {okD : List D → Bool} {flD : List D → List (Str × D)} {e : Expr} {es : List Expr} {fa : MA} {p pos pos2 : Pos} (hc : X.calm = true) (tk : Takes X W)
    (R : RsC X.prog X.w X.K X.mg X.base C np pre fl) (hpre : ∀ H μ ds vs, RVs X.K H μ ds vs → okD ds = true → pre vs) (hfl : ∀ H μ ds vs, RVs X.K H μ ds vs → ds.length = np → Paired (fun (p : Str × D) (q : Str × V) => p.1 = q.1 ∧ RV X.K H μ p.2 q.2) (flD ds) (fl vs))
    (hr : Room n X.A) (hg : Gl X x) (hm : X.mg x = some (.ref C)) (ha : PDA X W np (e :: es) fa) (hnp : np ≤ 1000 := by decide) (hdb : (x == ("__debug__" : Str)) = false := by decide) (he : starEach (e :: es) X.env = (false, eval e X.env) :: starEach es X.env := by rfl) (hpl : (backTo pos (starEach es X.env)).any (·.1) = false := by rfl) :
    PDS X W (.Raise (some (.Call (.Name x p) (e :: es) [] pos)) none pos2) (sRaise (rsF C np okD flD n) fa) := by
  match n, hr with
  | 0, _ => exact PS.imp ps_never fun D σ H ⟨μ, ρ, m, hH, hS, q⟩ => q
  | 1, _ => exact PS.imp ps_never fun D σ H ⟨μ, ρ, m, hH, hS, q⟩ => q
  | 2, _ => exact PS.imp ps_never fun D σ H ⟨μ, ρ, m, hH, hS, q⟩ => q
  | n + 3, hr =>
    refine PS.imp (ps_raise hc tk (pmk_oex R.T R.iC R.tI R.F1 (hr.mono (by omega)) R.b .nil pass0 hg hm ha hdb he hpl)) fun D σ H ⟨μ, ρ, m, hH, hS, q⟩ => ?_
    have q' : OkS X.K W H μ D (bindS ((fa ρ m).bind (rsF C np okD flD (n + 3))) ρ fun _ _ => .no) := q
    have hcomb : (bindS ((fa ρ m).bind (rsF C np okD flD (n + 3))) ρ fun _ _ => Fl.no) = bindS (fa ρ m) ρ fun ds m1 => bindS (rsF C np okD flD (n + 3) ds m1) ρ fun _ _ => .no := by
      cases fa ρ m <;> rfl
    rw [hcomb] at q'
    show tR X.K W (RVn X.K np) fa σ H _
    refine seqS q' hH hS fun ds m1 vs H1 μ1 e1 hH1 r1 hS1 q1 => ?_
    have hl := r1.1.length
    have hq : ds.isEmpty = false ∧ (ds.length = np ∧ okD ds = true) := by
      unfold rsF at q1
      cases hds : ds.isEmpty with
      | true => simp [hds, OkS] at q1
      | false =>
        refine ⟨rfl, ?_⟩
        by_cases hc : ds.length = np ∧ okD ds = true
        · exact hc
        · simp [hds, hc, OkS] at q1
    have q2 : OkS X.K W H1 μ1 D (.exc ⟨.ref C, flD ds⟩ ρ m1) := by
      have e3 : rsF C np okD flD (n + 3) ds m1 = .exc ⟨.ref C, flD ds⟩ m1 := by
        show (if ds.isEmpty = true then _ else if ds.length = np ∧ okD ds = true then _ else _) = _
        rw [if_neg (by rw [hq.1]; decide), if_pos hq.2]
      rw [e3] at q1
      exact q1
    refine ⟨by rw [← hl, r1.2]; exact hnp, fun a ha => ⟨a, vs, by rw [List.append_nil], by rw [← hl, r1.2], hpre _ _ _ _ r1.1 hq.2.2, R.T, upd_same, fun dx hdx hne => ⟨rfl, dx, fl vs, upd_same, by rw [upd_ne hne, upd_same], by rw [upd_ne hne] at hdx; exact hdx, ?_⟩⟩⟩
    have hdx' : H1 dx = none := by rw [upd_ne hne] at hdx; exact hdx
    rw [upd_del ha hne]
    have ex := Ext.new (o := .xd (fl vs)) hH1 hdx'
    exact q2 σ _ μ1 _ _ ex (hH1.new hdx') (hS1.ext ex) ⟨rfl, fl vs, upd_same, L2.Paired.mapP (hfl _ _ _ _ r1.1 hq.2.1) fun p q z => ⟨z.1, RV.ext ex _ _ z.2⟩⟩
end FL

set_option maxRecDepth 100000
namespace FL
open PySem PySem.Spec PyProof.Rows L2

/-! ### what stands in a suite: the exception x is at a, its class C, its dict d, its name's slot i -/
def tRX {α β : Type} (K : PySem.W.Frag) (C : Addr) (d : Option Addr) (i : Nat) (a : Addr) (R : Hp → Mu → α → β → Prop) (f : Exn → En → Me → Res α) : L2.St → Hp → (β → Hp → Prop) → Prop :=
  fun σ H Q => ∃ μ ρ m x, RH K H μ m ∧ RS K H μ ρ σ ∧ σ[i]? = some (some (.ref a)) ∧ RX K H μ x (.ref C) d ∧ Ok K (fun _ _ _ => False) H μ R Q (f x ρ m)
def tSX (K : PySem.W.Frag) (C : Addr) (d : Option Addr) (i : Nat) (a : Addr) (f : Exn → MS) : TS := fun D σ H => ∃ μ ρ m x, RH K H μ m ∧ RS K H μ ρ σ ∧ σ[i]? = some (some (.ref a)) ∧ RX K H μ x (.ref C) d ∧ OkS K WF H μ D (f x ρ m)
abbrev PDX (X : Cx) (C : Addr) (d : Option Addr) (i : Nat) (a : Addr) (e : Expr) (f : Exn → ME) : Prop := PE X e (tRX X.K C d i a (RVv X.K) f)
abbrev PTX (X : Cx) (C : Addr) (d : Option Addr) (i : Nat) (a : Addr) (e : Expr) (f : Exn → MT) : Prop := PT X e (tRX X.K C d i a RVB f)
abbrev PWX (X : Cx) (C : Addr) (d : Option Addr) (i : Nat) (a : Addr) (e : Expr) (f : Exn → MT) : Prop := PW X e (tRX X.K C d i a RVB f)
abbrev PAX (X : Cx) (C : Addr) (d : Option Addr) (i : Nat) (a : Addr) (n : Nat) (es : List Expr) (f : Exn → MA) : Prop := PA X es (tRX X.K C d i a (RVn X.K n) f)
abbrev PSX (X : Cx) (C : Addr) (d : Option Addr) (i : Nat) (a : Addr) (sts : List Stmt) (f : Exn → MS) : Prop := PSs X sts (tSX X.K C d i a f)
section
variable {K : PySem.W.Frag} {C : Addr} {d : Option Addr} {i : Nat} {a : Addr} {H H1 : Hp} {μ μ1 : Mu} {m : Me} {ρ : En} {σ : L2.St} {x : Exn}
theorem seqX {α β γ δ : Type} {R : Hp → Mu → α → β → Prop} {R' : Hp → Mu → γ → δ → Prop} {Q : δ → Hp → Prop} {Q1 : β → Hp → Prop} {f : Exn → En → Me → Res α} {g : α → Me → Res γ}
    (q : Ok K (fun _ _ _ => False) H μ R' Q ((f x ρ m).bind g)) (hH : RH K H μ m) (hS : RS K H μ ρ σ) (hi : σ[i]? = some (some (.ref a))) (hx : RX K H μ x (.ref C) d)
    (h : ∀ y m1 v H1 μ1, Ext K H μ H1 μ1 → RH K H1 μ1 m1 → R H1 μ1 y v → RS K H1 μ1 ρ σ → RX K H1 μ1 x (.ref C) d → Ok K (fun _ _ _ => False) H1 μ1 R' Q (g y m1) → Q1 v H1) : tRX K C d i a R f σ H Q1 := by
  refine ⟨μ, ρ, m, x, hH, hS, hi, hx, ?_⟩
  cases e : f x ρ m with
  | no => rw [e] at q; exact q
  | exc x m' => rw [e] at q; exact q
  | ok y m1 => rw [e] at q; exact fun v H1 μ1 x hH1 r => h y m1 v H1 μ1 x hH1 r (hS.ext x) (hx.ext x) (q.ext x)
end
section
variable {X : Cx} {C : Addr} {d : Option Addr} {i : Nat} {a : Addr} {e b c : Expr} {es : List Expr} {pos p : Pos} {f g h : Exn → ME} {n : Nat}
/-- what does not look at the exception -/
theorem pdx_of {f : ME} (h : PD X WF e f) : PDX X C d i a e (fun _ => f) := h.imp fun σ H Q ⟨μ, ρ, m, x, hH, hS, _, _, q⟩ => ⟨μ, ρ, m, hH, hS, by
  dsimp only at q
  cases e2 : f ρ m with
  | no => rw [e2] at q; exact q
  | exc x m' => rw [e2] at q; exact fun H' μ' c d e hH r => q H' μ' c d e hH r
  | ok y m1 => rw [e2] at q; exact q⟩
theorem pax_nil : PAX X C d i a 0 [] (fun _ => mNil) := PA.imp pa_nil fun σ H Q ⟨μ, ρ, m, x, hH, hS, _, _, q⟩ => q [] H μ .refl hH ⟨by simp [RVs], rfl⟩
theorem pax_cons {g : Exn → MA} (he : PDX X C d i a e f) (hr : PAX X C d i a n es g) (hs : starEach (e :: es) X.env = (false, eval e X.env) :: starEach es X.env := by rfl) : PAX X C d i a (n + 1) (e :: es) (fun x => mCons (f x) (g x)) :=
  PA.imp (pa_cons he hr hs) fun σ H Q ⟨μ, ρ, m, x, hH, hS, hi, hx, q⟩ => by
    refine seqX q hH hS hi hx fun y m1 v H1 μ1 e1 hH1 r1 hS1 hx1 q1 => ?_
    refine seqX q1 hH1 hS1 hi hx1 fun ds m2 vs H2 μ2 e2 hH2 r2 hS2 hx2 q2 => ?_
    exact q2 (v :: vs) H2 μ2 .refl hH2 ⟨by simp only [RVs]; exact ⟨v, vs, rfl, RV.ext e2 _ v r1, r2.1⟩, by simp [r2.2]⟩
theorem pdx_tup {x1} {g : Exn → MA} (h : PAX X C d i a n es g) (hn : n ≤ 1000 := by decide) : PDX X C d i a (.Tuple es x1 pos) (fun x => mTup (g x)) :=
  (pe_tupN h).imp fun σ H Q ⟨μ, ρ, m, x, hH, hS, hi, hx, q⟩ => by
    refine seqX q hH hS hi hx fun ds m1 vs H1 μ1 e1 hH1 r1 hS1 hx1 q1 => ?_
    have hl := r1.1.length
    have hz : vs.length ≤ sizeLine := by rw [← hl, r1.2]; exact le_line hn
    refine ⟨hz, fun p o hd hp => ?_⟩
    have ex := Ext.new (o := .frz o (.tup vs)) hH1 hp
    refine q1 _ _ μ1 ex (hH1.new hp) ?_
    simp only [RV]
    exact ⟨p, vs, rfl, .inl ⟨o, upd_same, hd⟩, hz, RVs.ext ex _ _ r1.1⟩
theorem pdx_if {fc : Exn → MT} (hc : PTX X C d i a c fc) (ha : PDX X C d i a e f) (hb : PDX X C d i a b g) : PDX X C d i a (.IfExp c e b pos) (fun x => mIf (fc x) (f x) (g x)) :=
  (pe_ifExp hc ha hb).imp fun σ H Q ⟨μ, ρ, m, x, hH, hS, hi, hx, q⟩ => seqX q hH hS hi hx fun y m1 v H1 μ1 e1 hH1 r1 hS1 hx1 q1 => by
    subst r1
    cases y with
    | true => rw [if_pos rfl]; exact ⟨μ1, ρ, m1, x, hH1, hS1, hi, hx1, q1⟩
    | false => rw [if_neg Bool.false_ne_true]; exact ⟨μ1, ρ, m1, x, hH1, hS1, hi, hx1, q1⟩
theorem ptx_val (h : PDX X C d i a e f) (he : ∀ whole, isTrue e X.env whole = (do let v ← whole; standAt e.pos; holding [v] (truthy v)) := by intro _; rfl) : PTX X C d i a e (fun x => mB (f x)) :=
  (pt_val h he).imp fun σ H Q ⟨μ, ρ, m, x, hH, hS, hi, hx, q⟩ => seqX q hH hS hi hx fun y m1 v H1 μ1 e1 hH1 r1 hS1 hx1 q1 => okB hH1 r1 q1
theorem ptx_cmp {op : CmpOp} {r : R2} {g2 : D → D → Me → Res D} (ho : OpR X (compareOp op) r) (hg : G2 X.K r g2) (ha : PDX X C d i a e f) (hb : PDX X C d i a b g) (hm : behindInMarks op b = false) : PTX X C d i a (.Compare e [op] [b] pos) (fun x => mB (m2 g2 (f x) (g x))) :=
  (pt_cmpR ho ha hb hm).imp fun σ H Q ⟨μ, ρ, m, x, hH, hS, hi, hx, q⟩ => by
    have hcomb : mB (m2 g2 (f x) (g x)) ρ m = (f x ρ m).bind fun y m => (g x ρ m).bind fun z m => (g2 y z m).bind asB := by
      unfold mB m2
      cases f x ρ m with
      | no => rfl
      | exc _ _ => rfl
      | ok y m1 => simp only [Res.bind_ok]; cases g x ρ m1 <;> rfl
    dsimp only at q
    rw [hcomb] at q
    refine seqX q hH hS hi hx fun y m1 v H1 μ1 e1 hH1 r1 hS1 hx1 q1 => ?_
    refine seqX q1 hH1 hS1 hi hx1 fun z m2 v2 H2 μ2 e2 hH2 r2 hS2 hx2 q2 => ?_
    refine hg (fun _ _ _ => False) H2 μ2 m2 y z v v2 _ hH2 (RV.ext e2 _ _ r1) r2 ?_
    cases e3 : g2 y z m2 with
    | no => rw [e3] at q2; exact q2
    | exc x m' => rw [e3] at q2; exact q2
    | ok w m3 => rw [e3] at q2; exact fun u H3 μ3 x3 hH3 r3 => okB hH3 r3 (q2.ext x3)
theorem pwx_and1 {f : Exn → MT} (h : PTX X C d i a e f) : PWX X C d i a (.BoolOp .And [e] pos) f := pw_and1 h
theorem pwx_and {f g : Exn → MT} {rest : List Expr} (ha : PTX X C d i a e f) (hb : PWX X C d i a (.BoolOp .And (b :: rest) pos) g) : PWX X C d i a (.BoolOp .And (e :: b :: rest) pos) (fun x => mAnd (f x) (g x)) :=
  PW.imp (pw_and ha hb) fun σ H Q ⟨μ, ρ, m, x, hH, hS, hi, hx, q⟩ => seqX q hH hS hi hx fun y m1 v H1 μ1 e1 hH1 r1 hS1 hx1 q1 => by
    subst r1
    cases y with
    | true => exact ⟨μ1, ρ, m1, x, hH1, hS1, hi, hx1, q1⟩
    | false => exact q1 false H1 μ1 .refl hH1 rfl
theorem ptx_w {f : Exn → MT} (h : PWX X C d i a e f) : PTX X C d i a e f := PW.pt h
theorem psx_ret (he : PDX X C d i a e f) : PSX X C d i a [.Return (some e) pos] (fun x => sRet (f x)) :=
  PSs.imp (pss_cons (ps_ret he) pss_nil) fun D σ H ⟨μ, ρ, m, x, hH, hS, hi, hx, q⟩ => by
    refine ⟨μ, ρ, m, x, hH, hS, hi, hx, ?_⟩
    dsimp only at q
    unfold sRet at q
    cases e2 : f x ρ m with
    | no => rw [e2] at q; exact q
    | exc x m' => rw [e2] at q; intro H' μ' c d e hH' r; exact q σ H' μ' c d e hH' (hS.ext e) r
    | ok y m1 => rw [e2] at q; exact fun v H1 μ1 e1 hH1 r1 => q v H1 μ1 e1 hH1 r1
end
/-! ### the exception's fields, its class -/
def mXF (n : Str) : Exn → ME := fun x _ m => match x.fs.lookup n with
  | some y => .ok y m
  | none => .no
def mXI : Exn → ME := fun x _ m => if x.fs.isEmpty = true then .no else .ok (.bl true) m
theorem look_xf {K : PySem.W.Frag} {H : Hp} {μ : Mu} : ∀ {fs : List (Str × D)} {gs : List (Str × V)} {n : Str} {y : D}, Paired (fun (p : Str × D) (q : Str × V) => p.1 = q.1 ∧ RV K H μ p.2 q.2) fs gs → fs.lookup n = some y → ∃ v, gs.lookup n = some v ∧ RV K H μ y v
  | _, _, _, _, .nil, e => by cases e
  | (k, y0) :: fs, (k', v0) :: gs, n, y, .cons r t, e => by
    obtain ⟨r1, r2⟩ := r
    simp only at r1 r2
    subst r1
    by_cases hk : n = k
    · subst hk
      simp only [List.lookup, beq_self_eq_true, Option.some.injEq] at e ⊢
      subst e
      exact ⟨v0, rfl, r2⟩
    · have hk' : (n == k) = false := by simpa using hk
      simp only [List.lookup, hk'] at e ⊢
      exact look_xf t e
section
variable {X : Cx} {C : Addr} {d : Option Addr} {i : Nat} {a : Addr} {oe : Obj} {pn : List (Addr × Obj)} {pos p : Pos} {nm n : Str}
theorem pdx_fld (T : XfC X.K C) (hno : PySem.W.findIn X.K (.ref C) n = some none) (hz : Zc (.ref C) d oe) (hf : ∃ vs, oe.data = .fields vs) (hN : X.N[i]? = some nm := by rfl) (hv : Vis X.env.scope nm := by first | exact Or.inl rfl | exact Or.inr (Or.inl rfl) | exact Or.inr (Or.inr rfl))
    (hd1 : (nm == ("__debug__" : Str)) = false := by decide) (hcd : (nm == ("__classdict__" : Str)) = false := by decide) (hb : attributeBase (.Name nm p) n X.env (eval (.Name nm p) X.env) = eval (.Name nm p) X.env := by rfl) :
    PDX (X.suite a ((a, oe) :: pn)) C d i a (.Attribute (.Name nm p) n pos) (mXF n) :=
  PE.imp (pe_xf T hno hz hf (pe_var (X := X.suite a ((a, oe) :: pn)) (i := i) hN hv hd1 hcd) hb) fun σ H Q ⟨μ, ρ, m, x, hH, hS, hi, hx, q⟩ => by
    refine ⟨.ref a, hi, rfl, rfl, ?_⟩
    unfold mXF at q
    split at q
    case h_2 => exact q.elim
    rename_i y ey
    have r2 := hx.2
    cases d with
    | none =>
      have e0 : x.fs = [] := r2
      rw [e0] at ey; cases ey
    | some dd =>
      obtain ⟨fs, g1, g2⟩ := r2
      obtain ⟨v, l, rv⟩ := look_xf g2 ey
      exact ⟨dd, fs, v, rfl, g1, l, q v H μ .refl hH rv⟩
/-- what the class must say for isinstance -/
structure XiC (K : PySem.W.Frag) (C : Addr) : Prop where
  cl : (PySem.W.clsIn K C).isSome = true
  hg : PySem.W.findIn K (.ref C) "__getattribute__" = some (some (.builtin "BaseException.__getattribute__"))
  hk : PySem.W.findIn K (.ref C) "__getattr__" = some none
  hs : PySem.W.subIn K (.ref C) (.type "BaseException") = some true
  ha : PySem.W.findIn K (.ref C) "__class__" = some (some (.builtin "object.__class__"))
  hn : PySem.W.specialIn K (.builtin "object.__class__") "__get__" = some (some (.builtin "getset_descriptor.__get__"))
  ht : PySem.W.takesIn K (.builtin "object.__class__") = some true
  hm : PySem.W.mroIn K C (.type "object") = some true
  kit : PySem.W.kitOne K (.ref C) (.ref C) = some true
/-- isinstance(e, C), e the exception that the suite holds, of class C, its dict known -/
def rIsX (C a : Addr) (d : Option Addr) : List V → Hp → VK → Prop := fun xs H Q => xs = [.ref a, .ref C] ∧ (∃ dd fs, d = some dd ∧ H dd = some (.xd fs)) ∧ Q (.bl true) H
theorem call_isX (T : XiC X.K C) (hz : Zc (.ref C) d oe) (hf : ∃ vs, oe.data = .fields vs) : CallR (X.suite a ((a, oe) :: pn)) (.builtin "isinstance") (rIsX C a d) := by
  intro pins s σ H xs us Q I r h
  obtain ⟨rfl, ⟨dd, fs, ed, ea⟩, q⟩ := h
  subst ed
  cases r with
  | cons rx rr =>
    cases rr with
    | cons rt rr =>
      cases rr
      cases rx
      cases rt
      obtain ⟨hget, _⟩ := I.pin (a, oe) (List.mem_append.mpr (.inl List.mem_cons_self))
      obtain ⟨vs, hv⟩ := hf
      have hx : ObjOk X.prog X.w H s.heap dd (.xd fs) := I.hok dd _ ea
      obtain ⟨mA, hns, hr⟩ := hx
      obtain ⟨od, ho, hl⟩ := lookIn_ns hns
      have J : PySem.W.InstAt s.heap a oe C (some od) := ⟨hget, hz.1, by unfold PySem.W.notCls; rw [hv] <;> rfl, by rw [hz.2]; exact ho⟩
      exact PySem.W.kia_one (PySem.W.kitx_exc T.cl T.hg T.hk T.hs T.ha T.hn T.ht T.hm) I.kIn J T.kit (fun z => nomatch z) fun tk => ⟨.bl true, H, I.kept (t' := tk) fun _ _ z => z, rfl, q⟩
theorem pdx_isi {y : Str} {p1 p2 : Pos} (T : XiC X.K C) (hz : Zc (.ref C) d oe) (hf : ∃ vs, oe.data = .fields vs) (g1 : Gl X "isinstance") (n1 : X.mg "isinstance" = none) (g2 : Gl X y) (n2 : X.mg y = some (.ref C)) (hN : X.N[i]? = some nm := by rfl) (hv : Vis X.env.scope nm := by first | exact Or.inl rfl | exact Or.inr (Or.inl rfl) | exact Or.inr (Or.inr rfl))
    (hd1 : (nm == ("__debug__" : Str)) = false := by decide) (hcd : (nm == ("__classdict__" : Str)) = false := by decide) (hd2 : (y == ("__debug__" : Str)) = false := by decide)
    (s1 : starEach [.Name nm p, .Name y p2] X.env = (false, eval (.Name nm p) X.env) :: starEach [.Name y p2] X.env := by rfl) (s2 : starEach [.Name y p2] X.env = (false, eval (.Name y p2) X.env) :: starEach [] X.env := by rfl) (hpl : (backTo pos (starEach [.Name y p2] X.env)).any (·.1) = false := by rfl) :
    PDX (X.suite a ((a, oe) :: pn)) C d i a (.Call (.Name "isinstance" p1) [.Name nm p, .Name y p2] [] pos) mXI :=
  PE.imp (pe_callB (call_isX T hz hf) g1 n1 (show bootBuiltins "isinstance" = some (.builtin "isinstance") by decide +kernel) (pa_cons (pe_var (X := X.suite a ((a, oe) :: pn)) (i := i) hN hv hd1 hcd) (pa_cons (pe_glob (X := X.suite a ((a, oe) :: pn)) (v := .ref C) g2 n2 rfl hd2) pa_nil s2) s1) (by decide) (by decide) s1 hpl) fun σ H Q ⟨μ, ρ, m, x, hH, hS, hi, hx, q⟩ => by
    unfold mXI at q
    split at q
    · exact q.elim
    rename_i hne
    refine ⟨.ref a, hi, rfl, ?_, q _ H μ .refl hH (by simp [RV])⟩
    have r2 := hx.2
    cases d with
    | none =>
      have e0 : x.fs = [] := r2
      rw [e0] at hne; exact absurd rfl hne
    | some dd =>
      obtain ⟨fs, g1, g2⟩ := r2
      exact ⟨dd, fs, rfl, g1⟩
end
/-! ### try: body except .. as e: suite, the body raising C alone -/
noncomputable def sTryAs (i : Nat) (C : Addr) (body : MS) (hnd : Exn → MS) : MS := fun ρ m => match body ρ m with
  | .exc x ρ' m' => @ite _ (x.cls = .ref C ∧ i < ρ'.length) (Classical.propDecidable _) (match hnd x (ρ'.set i none) m' with
    | .rt d m => .rt d m
    | .nx ρ m => .nx (ρ.set i none) m
    | _ => .no) .no
  | r => r
theorem RS.unset {K : PySem.W.Frag} {H : Hp} {μ : Mu} {ρ : En} {σ : L2.St} (h : RS K H μ ρ σ) (i : Nat) (v : Option V) : RS K H μ (ρ.set i Option.none) (σ.set i v) := by
  refine ⟨by rw [List.length_set, List.length_set]; exact h.1, fun j e q => ?_⟩
  by_cases hj : i = j
  · subst hj
    by_cases hl : i < ρ.length
    · rw [List.getElem?_set_self hl] at q; cases q
    · rw [List.getElem?_eq_none (by rw [List.length_set]; omega)] at q; cases q
  · rw [List.getElem?_set_ne hj] at q ⊢
    exact h.2 j e q
section
variable {X : Cx} {W : WX} {C : Addr} {c : Value} {i : Nat} {x n : Str} {body suite : List Stmt} {b₀ : Stmt} {np pos pos' : Pos} {fb : MS} {hnd : Exn → MS}
theorem pds_tryAs (hs : X.stack = X.env :: X.outer) (hf : X.env.frame = some X.env.locals) (hN : X.N.Nodup) (hi : X.N[i]? = some n) (hln : X.env.kindOf n = some .local) (hc : Names X x c) (tk : Takes X W) (ex : PySem.W.exmOne X.K (.ref C) c = some true)
    (hb : ∀ (W' : WX) (pn : List (Addr × Obj)) (xe : Value → Shared → Prop), Takes (X.tr pn xe) W' → PassesOwn (model X.prog X.w) X.A X.env xe → PDB (X.tr pn xe) W' body fb)
    (hsu : ∀ (a : Addr) (oe : Obj) (d : Option Addr) (pn : List (Addr × Obj)), Zc (.ref C) d oe → (∃ vs, oe.data = .fields vs) → PSX (X.suite a ((a, oe) :: pn)) C d i a (b₀ :: suite) hnd) :
    PDS X W (.Try body [.ExceptHandler (some (.Name x np)) (some n) (b₀ :: suite) pos'] [] [] pos) (sTryAs i C fb hnd) := by
  refine PS.imp (ps_try_as (tb := fun W => tS X.K W fb) (ts := fun a cls d D σ H => cls = .ref C ∧ tSX X.K C d i a hnd D σ H) hs hf hN hi hln hc tk hb fun a oe cls d pn hz hfl => ?_) fun D σ H ⟨μ, ρ, m, hH, hS, q⟩ => ?_
  · by_cases h : cls = .ref C
    · subst h
      exact PSs.imp (hsu a oe d pn hz hfl) fun D σ H ⟨_, q⟩ => q
    · exact ⟨fun pins s σ H D I hw => absurd hw.1 h⟩
  · refine ⟨μ, ρ, m, hH, hS, ?_⟩
    unfold sTryAs at q
    cases e : fb ρ m with
    | no => rw [e] at q; exact q
    | nx ρ1 m1 => rw [e] at q; exact q
    | rt d m1 => rw [e] at q; exact q
    | bk ρ1 m1 => rw [e] at q; exact q
    | ct ρ1 m1 => rw [e] at q; exact q
    | exc y ρ1 m1 =>
      rw [e] at q
      simp only at q
      by_cases hcl : y.cls = .ref C ∧ i < ρ1.length
      · rw [if_pos hcl] at q
        obtain ⟨hcl, hli⟩ := hcl
        intro σ' H' μ' cls d x' hH' hS' r
        have hcc : cls = .ref C := r.1.trans hcl
        subst hcc
        refine ⟨true, ex, fun _ a ha => ⟨rfl, μ', ρ1.set i none, m1, y, hH', hS'.unset i _, ?_, r, ?_⟩, fun z => nomatch z⟩
        · have hl2 : i < σ'.length := by rw [← hS'.1]; exact hli
          rw [List.getElem?_set_self hl2]
        · have q2 := q.ext x'
          cases e3 : hnd y (ρ1.set i none) m1 with
          | no => rw [e3] at q2; exact q2
          | exc _ _ _ => rw [e3] at q2; exact q2.elim
          | bk _ _ => rw [e3] at q2; exact q2.elim
          | ct _ _ => rw [e3] at q2; exact q2.elim
          | rt d m2 => rw [e3] at q2; exact q2
          | nx ρ2 m2 => rw [e3] at q2; exact fun σ2 H2 μ2 x2 hH2 hS2 => q2 (σ2.set i none) H2 μ2 x2 hH2 (hS2.unset i none)
      · rw [if_neg hcl] at q; exact q.elim
end
end FL

set_option maxRecDepth 100000
namespace FL
open PySem PySem.Spec PyProof.Rows L2

theorem upd_swap {H : Hp} {a dx : Addr} {e1 e2 x : HO} (h : dx ≠ a) : upd (upd (upd H dx e1) a x) dx e2 = upd (upd H dx e2) a x := by
  funext b
  by_cases h1 : b = dx
  · subst h1; rw [upd_same, upd_ne h, upd_same]
  · rw [upd_ne h1]
    by_cases h2 : b = a
    · subst h2; rw [upd_same, upd_same]
    · rw [upd_ne h2, upd_ne h2, upd_ne h1, upd_ne h1]
theorem exm_of {K : PySem.W.Frag} {C S : Addr} (h1 : PySem.W.subIn K (.ref S) (.type "BaseException") = some true) (h2 : PySem.W.isClsIn K S = true) (h3 : PySem.W.typeIn K (.ref S) = some (.type "type")) (h4 : PySem.W.subIn K (.ref C) (.ref S) = some true) :
    PySem.W.exmOne K (.ref C) (.ref S) = some true := by
  have e1 : (PySem.W.subIn K (.ref S) (.type "BaseException") == some true) = true := by rw [h1] <;> rfl
  have e2 : ((PySem.W.clsIn K S).isSome && PySem.W.typeIn K (.ref S) == some (.type "type")) = true := by
    have h2' : (PySem.W.clsIn K S).isSome = true := h2
    rw [h2', h3] <;> rfl
  show (if (PySem.W.subIn K (.ref S) (.type "BaseException") == some true) = true then (if ((PySem.W.clsIn K S).isSome && PySem.W.typeIn K (.ref S) == some (.type "type")) = true then PySem.W.subIn K (.ref C) (.ref S) else none) else none) = some true
  rw [if_pos e1, if_pos e2]
  exact h4
theorem pds_raiseF {X : Cx} {W : WX} {C : Addr} {x : Str} {np n : Nat} {pre : List V → Prop} {fl : List V → List (Str × V)} {okD : List D → Bool} {flD : List D → List (Str × D)} {e : Expr} {es : List Expr} {fa : MA} {p pos pos2 : Pos} {Fm : List D → Me → Res D} (hc : X.calm = true) (tk : Takes X W)
    (R : RsC X.prog X.w X.K X.mg X.base C np pre fl) (hpre : ∀ K H μ ds vs, RVs K H μ ds vs → okD ds = true → pre vs) (hfl : ∀ K H μ ds vs, RVs K H μ ds vs → ds.length = np → Paired (fun (p : Str × D) (q : Str × V) => p.1 = q.1 ∧ RV K H μ p.2 q.2) (flD ds) (fl vs)) (hF : Fm = rsF C np okD flD n)
    (hr : Room n X.A) (hg : Gl X x) (hm : X.mg x = some (.ref C)) (ha : PDA X W np (e :: es) fa) (hnp : np ≤ 1000 := by decide) (hdb : (x == ("__debug__" : Str)) = false := by decide) (he : starEach (e :: es) X.env = (false, eval e X.env) :: starEach es X.env := by rfl) (hpl : (backTo pos (starEach es X.env)).any (·.1) = false := by rfl) :
    PDS X W (.Raise (some (.Call (.Name x p) (e :: es) [] pos)) none pos2) (sRaise Fm fa) := by
  subst hF
  exact pds_raise hc tk R (hpre X.K) (hfl X.K) hr hg hm ha hnp hdb he hpl
section
variable {X : Cx} {W : WX} {k n : Nat} {f C : Addr} {fd : FuncData} {ps : List Str} {x : Str} {p pos apos : Pos} {e o : Expr} {es : List Expr} {Fm : List D → Me → Res D} {fo : ME} {fa : MA}
theorem pd_meth1 (pl : Sem Bool) (c : Cls X.K C) (hm : Meth X.K C x f) (G : FnOk X.prog X.w X.K X.mg X.base (L2.CX X.prog X.w) k f fd ps (spF X.K (n + 1) Fm)) (hr : Room k X.A) (hb : Binds X.K fd ps []) (ho : PD X W o fo) (ha : PDA X W n (e :: es) fa)
    (hst : starEach (e :: es) X.env = (false, eval e X.env) :: starEach es X.env := by rfl) (hpl : (backTo pos (starEach es X.env)).any (·.1) = false := by rfl)
    (ht : eval (.Call (.Attribute o x apos) (e :: es) [] pos) X.env = (do
      let ov ← eval o X.env
      standAt apos.atName
      let (f, first) ← holding [ov] (getMethod ov x pl)
      callWith pos f first (backTo pos (starEach (e :: es) X.env)) (backToKw pos (keywordEach [] X.env))) := by rfl) : PD X W (.Call (.Attribute o x apos) (e :: es) [] pos) (mMeth C x Fm fo fa) :=
  PE.imp (pe_meth (pl := pl) ho c hm G hr hb .nil passL ha hst hpl ht) (meth_imp rfl rfl)
end
/-- fields: none, one, two of what is handed -/
theorem rvs1' {K : PySem.W.Frag} {H : Hp} {μ : Mu} {ds : List D} {vs : List V} (r : RVs K H μ ds vs) (h : ds.length = 1) : ∃ d v, ds = [d] ∧ vs = [v] ∧ RV K H μ d v := by
  match ds, h with
  | [d], _ =>
    simp only [RVs] at r
    obtain ⟨v, l, rfl, h1, rfl⟩ := r
    exact ⟨d, v, rfl, rfl, h1⟩
theorem rvs2' {K : PySem.W.Frag} {H : Hp} {μ : Mu} {ds : List D} {vs : List V} (r : RVs K H μ ds vs) (h : ds.length = 2) : ∃ d e v u, ds = [d, e] ∧ vs = [v, u] ∧ RV K H μ d v ∧ RV K H μ e u := by
  match ds, h with
  | [d, e], _ =>
    simp only [RVs] at r
    obtain ⟨v, l, rfl, h1, u, l2, rfl, h2, rfl⟩ := r
    exact ⟨d, e, v, u, rfl, rfl, h1, h2⟩
end FL

set_option maxRecDepth 100000
namespace FL
open PySem PySem.Spec PyProof.Rows L2

theorem refsVE_1 (S : Addr) : HandSPX.refsVE [.ref S, .type "ValueError", .type "Exception", .type "BaseException", .type "object"] = true := by
  show HandSPX.refsVE [.type "ValueError", .type "Exception", .type "BaseException", .type "object"] = true
  decide +kernel
/-! ### sorted of a tuple of numbers -/
section
variable {prog : Program} {w : World} {A : Around} {E : Value → Shared → Prop} {s : Shared}
theorem collect_tup {l : Addr} {vs : List Value} {Q : List Value → Shared → Prop} (hl : PyProof.Rows.IsTup s.heap l vs.toArray)
    (h : Q vs { s with heap := (s.heap.push (seqObj "list" #[] 0)).update s.heap.objs.size (Obj.mapSeq (· ++ vs.toArray)) }) (hsz : vs.length ≤ sizeLine := by size_fits) :
    wpAny (model prog w) A (collect (.ref l)) Q E s := by
  obtain ⟨o, ho, hc, n, hd⟩ := id hl
  unfold collect
  refine wpAny_bind (wpAny_runValue (codeAny_builtin entry_proto_collect' ?_))
  show wpAny _ _ (do again (.builtin "list.__iadd__" ⟨[← newList [], .ref l], []⟩)) _ _ s
  refine wpAny_bind (wpAny_newList (wpAny_pure ⟨Code.quiet_builtin _ (by decide +kernel), codeAny_builtin entry_list_iadd' ?_⟩))
  show wpAny _ _ (Builtin.List.listExtendWith (.ref s.heap.objs.size) (.ref l) (.ref s.heap.objs.size)) _ _ { s with heap := s.heap.push (seqObj "list" #[] 0) }
  unfold Builtin.List.listExtendWith
  have ho' : (s.heap.push (seqObj "list" #[] 0)).get? l = some o := Heap.get?_push_of_some _ ho
  refine wpAny_bind (wpAny_typeOf (T := "tuple") ⟨o, ho', hc⟩ ?_)
  have ht : (Value.type "tuple" == Value.type "tuple") = true := by rfl
  rw [if_pos (by rw [ht]; simp)]
  refine wpAny_bind (listItems_at ho' hd ?_)
  refine wpAny_bind (listItems_at (xs := #[]) (n := 0) (Heap.get?_push_size _ rfl) rfl ?_)
  rw [if_neg (by simp)]
  refine wpAny_bind (listUpdate_at (xs := #[]) (n := 0) (Heap.get?_push_size _ rfl) rfl ?_ (Nat.zero_le _) (by show (#[] ++ vs.toArray).size ≤ sizeLine + 1; simp only [Array.size_append, List.size_toArray, List.length_nil]; omega))
  refine wpAny_pure ?_
  show wpAny (model prog w) A (do
      let o ← load s.heap.objs.size
      match o.data with
      | .seq xs _ => pure xs.toList
      | _ => unsupported "internal:collect") Q E { s with heap := (s.heap.push (seqObj "list" #[] 0)).update s.heap.objs.size (Obj.mapSeq (· ++ vs.toArray)) }
  refine wpAny_bind (wpAny_load (get?_update_seq (Heap.get?_push_size _ rfl) _) ?_)
  show wpAny _ _ (pure ((#[] : Array Value) ++ vs.toArray).toList) Q E _
  rw [show ((#[] : Array Value) ++ vs.toArray).toList = vs by simp]
  exact wpAny_pure h
open PySem.W in
theorem sortedT_of_sort {l : Addr} {vs : List Value} {Q : Value → Shared → Prop} (hl : PyProof.Rows.IsTup s.heap l vs.toArray) (hL : vs.length ≤ sizeLine)
    (body : ∀ E' : Value → Shared → Prop, wpAny (model prog w) A.in1.in1 (Builtin.«list.sort» ⟨[.ref (s.heap.objs.size + 1)], []⟩) (fun f s' => f = .done (.ret .none) ∧ Q (.ref (s.heap.objs.size + 1)) s') E' { s with heap := copyHeap s.heap vs }) :
    wpAny (model prog w) A (call (.builtin "sorted") [.ref l] []) Q E s := by
  refine call_function_entry_kw kind_sorted plain_sorted entry_sorted (args_sorted1 _) ?_
  unfold Builtin.«sorted»
  refine wpAny_bind (m := checkCount "sorted" 1 1 _) (wpAny_pure ?_)
  refine wpAny_bind (collect_tup hl ?_ hL)
  refine wpAny_bind (wpAny_newList ?_ hL)
  have hsz : ((s.heap.push (seqObj "list" #[] 0)).update s.heap.objs.size (Obj.mapSeq (· ++ vs.toArray))).objs.size = s.heap.objs.size + 1 := by
    rw [Heap.size_update, size_push']
  show wpAny _ _ _ _ _ { s with heap := copyHeap s.heap vs }
  rw [hsz]
  refine wpAny_bind (wpAny_holding (wpAny_call_entry_kw slot_list_sort ⟨_, copyHeap_at s.heap vs, rfl⟩ entry_list_sort ?body (args_list_sort _)))
  case body =>
    show wpAny (model prog w) A.in1.in1 (Builtin.«list.sort» ⟨[.ref (s.heap.objs.size + 1)], []⟩) _ _ _
    refine wpAny_mono (body _) (fun f s' hf => ?_) fun _ _ e => e
    obtain ⟨rfl, hq⟩ := hf
    exact ⟨_, rfl, wpAny_pure ⟨_, rfl, hq⟩⟩
open PySem.W in
theorem sortedT_data {β : Type} {R : Value → β → Prop} {bs : List β} {enc : β → PyData} {vs : List Value} {l : Addr} {Q : Value → Shared → Prop} (hl : PyProof.Rows.IsTup s.heap l vs.toArray) (e : EachIs R vs bs) (er : EachIs (fun v b => ∃ as, Reads s.heap v (enc b) as) vs bs) (hal : AllAlike (bs.map enc)) (hk : Sortable (bs.map enc)) (hL : bs.length ≤ sizeLine)
    (hu : ∀ b, b ∈ bs → A.units + 2 + (enc b).depth < cLine) (h : ∀ out, out.length = bs.length → EachIs R out (bs.mergeSort (dataLe false enc)) → Q (.ref (s.heap.objs.size + 1)) { s with heap := sortedAll s.heap vs (List.toArray out) }) :
    wpAny (model prog w) A (call (.builtin "sorted") [.ref l]) Q E s := by
  have er' : EachIs (fun v b => ∃ as, Reads (sortingHeap (copyHeap s.heap vs) (s.heap.objs.size + 1) vs) v (enc b) as) vs bs := er.mono fun _ _ ⟨as, r⟩ => ⟨as, PyProof.Rows.Reads.keeps (fun _ _ => sorting_copy_old) r⟩
  have S := SortsAt.data (prog := prog) (w := w) (A := A.in1.in1) (s := { s with heap := sortingHeap (copyHeap s.heap vs) (s.heap.objs.size + 1) vs }) (each_map (R := fun v d => ∃ as, Reads (sortingHeap (copyHeap s.heap vs) (s.heap.objs.size + 1) vs) v d as) enc er') hal hk (bound_map hu)
  exact sortedT_of_sort hl (by rw [e.length]; exact hL) fun _ => list_sort_vals (s := { s with heap := copyHeap s.heap vs }) (copyHeap_at s.heap vs) S (by rw [e.length]; exact hL) ⟨rfl, h _ (by rw [sortVals_length false rfl]; exact e.length) (sortVals_data false e er' hal)⟩
end
def rSortTG (K : PySem.W.Frag) : List V → Hp → VK → Prop := fun vs H Q => ∃ (a : Addr) (bs : List DV), vs = [.ref a] ∧ SqT K H a (bs.map (·.1)) ∧ (∀ b ∈ bs, Dp K H b.1 b.2 ∧ b.2.depth ≤ 60) ∧ PySem.W.AllAlike (bs.map (·.2)) ∧ PySem.W.Sortable (bs.map (·.2)) ∧ bs.length ≤ 1000000 ∧
  ∀ p, H p = none → Q (.ref p) (upd H p (.lst ((bs.mergeSort dvLe).map (·.1))))
theorem cr_sortedTG {X : Cx} (hu : X.A.units + 64 < cLine) : CallR X (.builtin "sorted") (rSortTG X.K) := by
  intro pins s σ H xs us Q I r h
  obtain ⟨a, bs, rfl, hq, hb, hal, hs, hz, q⟩ := h
  obtain ⟨u, rfl, ru⟩ := vals1 r
  cases ru
  obtain ⟨its, rv, p, _⟩ := I.tuple hq
  obtain ⟨e1, e2⟩ := each_dv I rv fun b hb' => (hb b hb').1
  refine sortedT_data (enc := fun b : DV => b.2) p e1 e2 hal hs (by rw [sizeLine_eq]; omega) (fun b hb' => by have := (hb b hb').2; omega) fun out hl eo => ?_
  obtain ⟨ep, he'⟩ := PyProof.Rows.sortedAll_at s.heap its out.toArray
  have hv := each_vals eo
  have hlen : ((bs.mergeSort dvLe).map (·.1)).length ≤ sizeLine := by rw [List.length_map, List.length_mergeSort, sizeLine_eq]; omega
  exact ⟨.ref _, upd H (s.heap.objs.size + 1) (.lst ((bs.mergeSort dvLe).map (·.1))), I.laid (t' := s.toks) (fun _ _ => PyProof.Rows.sortedAll_old) (Nat.le_succ _) ⟨hlen, out, ep, hv, he'⟩, rfl, q _ (I.hok.fresh (Nat.le_succ _))⟩
open Classical in
/-- sorted(xs), xs a tuple -/
noncomputable def gSortT (ds : List D) (m : Me) : Res D := match ds with
  | [.tup xs] => if OkSort xs then .ok (.lst (xs.mergeSort leD)) m else .no
  | _ => .no
theorem g_sortT {K : PySem.W.Frag} : GC K (rSortTG K) gSortT := fun Ex H μ m ds vs Q hH rr q => by
  unfold gSortT at q
  split at q
  case h_2 => exact q.elim
  rename_i xs
  obtain ⟨v, rfl, r⟩ := rvs1 rr
  split at q
  case isFalse => exact q.elim
  rename_i ok
  simp only [RV] at r
  obtain ⟨a, vs, rfl, ha, hz, hr⟩ := r
  obtain ⟨ts, rfl, rfl, ht⟩ := pairs_rvs hr
  refine ⟨a, ts.map fun t => (t.2, enc t.1), rfl, ?_, ?_, ?_, ?_, ?_, fun p hp => ?_⟩
  · rw [List.map_map]; exact ha.sq
  · intro b hb
    obtain ⟨t, h1, rfl⟩ := List.mem_map.mp hb
    obtain ⟨h2, h3⟩ := ok.py t.1 (List.mem_map_of_mem h1)
    exact ⟨enc_dp (ht t h1) h2, h3⟩
  · have := ok.al; rw [List.map_map] at this ⊢; exact this
  · have := ok.st; rw [List.map_map] at this ⊢; exact this
  · have := ok.few; simpa using this
  · have e1 : ((ts.map fun t => (t.2, enc t.1)).mergeSort dvLe) = (ts.mergeSort fun a b => leD a.1 b.1).map fun t => (t.2, enc t.1) :=
      (List.map_mergeSort (r := fun a b : D × V => leD a.1 b.1) (f := fun t : D × V => (t.2, enc t.1)) (fun a _ b _ => rfl)).symm
    have e2 : (ts.map (·.1)).mergeSort leD = (ts.mergeSort fun a b => leD a.1 b.1).map (·.1) := (List.map_mergeSort (r := fun a b : D × V => leD a.1 b.1) (f := fun t : D × V => t.1) (fun a _ b _ => rfl)).symm
    rw [e1, List.map_map]
    have ex := Ext.new (o := .lst ((ts.mergeSort fun a b => leD a.1 b.1).map ((fun b : DV => b.1) ∘ fun t => (t.2, enc t.1)))) hH hp
    refine q _ _ μ ex (hH.new hp) ?_
    rw [e2]
    simp only [RV]
    refine ⟨p, _, rfl, ⟨hH.notin hp, fun z => hH.hid _ z hp⟩, upd_same, ?_, ?_⟩
    · rw [List.length_map, List.length_mergeSort]; rw [List.length_map] at hz; exact hz
    · exact RVs.ext ex _ _ (rvs_pairs fun t h => ht t ((List.mergeSort_perm ts _).mem_iff.mp h))
end FL

set_option maxRecDepth 100000
namespace FL
open PySem PySem.Spec PyProof.Rows L2

/-! ### x is True, both being truths -/
def gIsB (d d' : D) (m : Me) : Res D := match d, d' with
  | .bl a, .bl b => .ok (.bl (decide (a = b))) m
  | _, _ => .no
def gNotB (d d' : D) (m : Me) : Res D := match d, d' with
  | .bl a, .bl b => .ok (.bl (!decide (a = b))) m
  | _, _ => .no
theorem g_isB {K : PySem.W.Frag} : G2 K (fun x y H Q => ∃ a b, x = .bl a ∧ y = .bl b ∧ Q (.bl (decide (a = b))) H) gIsB := fun Ex H μ m d d' x y Q hH r1 r2 q => by
  unfold gIsB at q
  split at q
  · simp only [RV] at r1 r2; exact ⟨_, _, r1, r2, q _ H μ .refl hH (by simp [RV])⟩
  · exact q.elim
theorem g_notB {K : PySem.W.Frag} : G2 K (fun x y H Q => ∃ a b, x = .bl a ∧ y = .bl b ∧ Q (.bl (!decide (a = b))) H) gNotB := fun Ex H μ m d d' x y Q hH r1 r2 q => by
  unfold gNotB at q
  split at q
  · simp only [RV] at r1 r2; exact ⟨_, _, r1, r2, q _ H μ .refl hH (by simp [RV])⟩
  · exact q.elim
end FL

set_option maxRecDepth 100000
namespace FL
open PySem PySem.Spec PyProof.Rows L2

/-! ### xs[k] += e, xs a list of the store, k not negative, whole numbers -/
def rGetL0 (K : PySem.W.Frag) : V → V → Hp → VK → Prop := fun x y H Q => ∃ p xs i v, x = .ref p ∧ y = .int i ∧ 0 ≤ i ∧ SqL K H p xs ∧ atI xs i = some v ∧ Q v H
theorem pget_list {X : Cx} : PGet X (rGetL0 X.K) := by
  intro pins s σ H x y v u Q I rx ry h
  obtain ⟨p, xs, i, z, rfl, rfl, h0, hq, he, q⟩ := h
  cases rx
  obtain ⟨t, rfl⟩ := ry
  obtain ⟨its, r, pl, hz⟩ := I.list hq
  obtain ⟨j, h1, h2, h3, h4, h5⟩ := atI_get he
  obtain ⟨w, ew, rw'⟩ := r.get h2
  have hl := r.length
  have hn := line63
  have hj : i.toNat = j := by
    rw [seqIndex_of h0 h5] at h1
    exact Option.some.inj h1
  exact wpAny_getItem_list pl.isList h0 (by omega) (by rw [hj]; simpa using ew) ⟨z, H, I, rw', q⟩
def sLaug (fo fi fe : ME) : MS := fun ρ m => bindS (fo ρ m) ρ fun d m => bindS (fi ρ m) ρ fun k m => match d, k with
  | .ref i, .int k => if 0 ≤ k then match m[i]? with
    | some (.lst xs) => match atI xs k with
      | some (.int a) => bindS (fe ρ m) ρ fun y m => match y with
        | .int b => match m[i]? with
          | some (.lst xs) => match ixN xs.length k with
            | some j => .nx ρ (m.set i (.lst (xs.set j (.int (a + b)))))
            | none => .no
          | _ => .no
        | _ => .no
      | _ => .no
    | _ => .no
    else .no
  | _, _ => .no
theorem pds_laug {X : Cx} {W : WX} {o i e : Expr} {fo fi fe : ME} {tpos pos : Pos} (ho : PD X W o fo) (hi : PD X W i fi) (he : PD X W e fe)
    (ha : ∀ ov iv new, augStore i ov iv new = (do holding [new, ov, iv] (setItem ov iv new); release [new, ov, iv] []; pure .next) := by exact fun _ _ _ => rfl) : PDS X W (.AugAssign (.Subscript o i tpos) .Add e pos) (sLaug fo fi fe) :=
  PS.imp (ps_augS ho hi pget_list he ip_add set_list ha) fun D σ H ⟨μ, ρ, m, hH, hS, q⟩ => by
    refine seqS q hH hS fun d m1 v H1 μ1 e1 hH1 r1 hS1 q1 => ?_
    refine seqS q1 hH1 hS1 fun k m2 u H2 μ2 e2 hH2 r2 hS2 q2 => ?_
    split at q2
    case h_2 => exact q2.elim
    rename_i i k
    split at q2
    case isFalse => exact q2.elim
    rename_i h0
    cases e3 : m2[i]? with
    | none => simp only [e3] at q2; exact q2.elim
    | some c =>
      cases c with
      | lst xs =>
        simp only [e3] at q2
        simp only [RVv, RV] at r1 r2
        subst r2
        obtain ⟨a, rfl, ha⟩ := r1
        have ha2 := e2.get ha
        obtain ⟨a', ea, vs, hs, hz, hr⟩ := hH2.at' i _ e3
        rw [ha2] at ea; cases ea
        cases e4 : atI xs k with
        | none => simp only [e4] at q2; exact q2.elim
        | some x =>
          cases x with
          | int x =>
            simp only [e4] at q2
            obtain ⟨z, h1, h2⟩ := atI_rv hr e4
            simp only [RV] at h2
            subst h2
            refine ⟨a, vs, k, _, rfl, rfl, h0, .of hs, h1, ?_⟩
            refine seqS q2 hH2 hS2 fun y m3 w H3 μ3 e5 hH3 r3 hS3 q3 => ?_
            cases y with
            | int b =>
              simp only [RVv, RV] at r3
              subst r3
              refine ⟨x, b, rfl, rfl, ?_⟩
              dsimp only at q3
              have ha3 := e5.get ha2
              cases e6 : m3[i]? with
              | none => simp only [e6] at q3; exact q3.elim
              | some c =>
                cases c with
                | lst ys =>
                  simp only [e6] at q3
                  cases e7 : ixN ys.length k with
                  | none => simp only [e7] at q3; exact q3.elim
                  | some j =>
                    simp only [e7] at q3
                    obtain ⟨a'', ea, ws, hs3, hz3, hr3⟩ := hH3.at' i _ e6
                    rw [ha3] at ea; cases ea
                    have ex := Ext.wr (o := .lst (ws.set j (.int (x + b)))) hH3 ha3
                    refine ⟨a, ws, k, j, rfl, rfl, hs3, by rw [← hr3.length]; exact e7, ?_⟩
                    exact q3 σ _ μ3 ex (hH3.wr ha3 ⟨_, upd_same, by rw [List.length_set]; exact hz3, RVs.ext ex _ _ (RVs.set (by simp [RV]) j hr3)⟩) (hS3.ext ex)
                | _ => simp only [e6] at q3; exact q3.elim
            | _ => exact q3.elim
          | _ => simp only [e4] at q2; exact q2.elim
      | _ => simp only [e3] at q2; exact q2.elim
end FL

set_option maxRecDepth 100000
namespace FL
open PySem PySem.Spec PyProof.Rows L2

/-! ### int(text), str(text), sep.join(texts) -/
def gIntS (ds : List D) (m : Me) : Res D := match ds with
  | [.str a] => match PySem.intText? a with
    | some n => if a.length ≤ 640 then .ok (.int n) m else .no
    | none => .no
  | _ => .no
theorem g_intS {K : PySem.W.Frag} : GC K (fun xs H Q => ∃ a n, xs = [.str a] ∧ PySem.intText? a = some n ∧ a.length ≤ 640 ∧ Q (.int n) H) gIntS := fun Ex H μ m ds vs Q hH rr q => by
  unfold gIntS at q
  split at q
  case h_2 => exact q.elim
  rename_i a
  obtain ⟨v, rfl, r⟩ := rvs1 rr
  simp only [RV] at r; subst r
  cases e : PySem.intText? a with
  | none => simp only [e] at q; exact q.elim
  | some n =>
    simp only [e] at q
    split at q
    · rename_i hl
      exact ⟨a, n, rfl, e, hl, q _ H μ .refl hH (by simp [RV])⟩
    · exact q.elim
def gStrS (ds : List D) (m : Me) : Res D := match ds with
  | [.int i] => if i.natAbs < 2 ^ 64 then .ok (.str (toString i)) m else .no
  | [.str a] => .ok (.str a) m
  | _ => .no
theorem g_strS {K : PySem.W.Frag} : GC K (fun xs H Q => (∃ i, xs = [.int i] ∧ i.natAbs.log2 < 1920 ∧ Q (.str (toString i)) H) ∨ ∃ a, xs = [.str a] ∧ Q (.str a) H) gStrS := fun Ex H μ m ds vs Q hH rr q => by
  unfold gStrS at q
  split at q
  · obtain ⟨v, rfl, r⟩ := rvs1 rr
    simp only [RV] at r; subst r
    split at q
    · rename_i i hi
      refine .inl ⟨_, rfl, ?_, q _ H μ .refl hH (by simp [RV])⟩
      exact Nat.lt_of_lt_of_le (PySem.Flt.log2_lt_of (by decide) hi) (by decide)
    · exact q.elim
  · obtain ⟨v, rfl, r⟩ := rvs1 rr
    simp only [RV] at r; subst r
    exact .inr ⟨_, rfl, q _ H μ .refl hH (by simp [RV])⟩
  · exact q.elim
theorem cr_strS {X : Cx} : CallR X (.type "str") (fun xs H Q => (∃ i, xs = [.int i] ∧ i.natAbs.log2 < 1920 ∧ Q (.str (toString i)) H) ∨ ∃ a, xs = [.str a] ∧ Q (.str a) H) := call_str_int.or SkE.call_str_str
def mJoin (fo fe : ME) : ME := fun ρ m => (fo ρ m).bind fun d m => match d with
  | .str a => (fe ρ m).bind fun y m => match (seqV m y).bind strsD with
    | some ys => if (ys.map (·.length)).sum + ys.length * a.length ≤ 16777216 then .ok (.str (Txt.join a ys)) m else .no
    | none => .no
  | _ => .no
theorem pd_join {X : Cx} {W : WX} {o e : Expr} {fo fe : ME} {apos pos : Pos} (ho : PD X W o fo) (he : PD X W e fe) (hs : starEach [e] X.env = [(false, eval e X.env)] := by rfl) (hbase : attributeBase o "join" X.env (eval o X.env) = eval o X.env := by rfl) (hline : (apos.endLine == pos.line) = true := by rfl) :
    PD X W (.Call (.Attribute o "join" apos) [e] [] pos) (mJoin fo fe) :=
  PE.imp (pe_join ho he hs hbase hline) fun σ H Q ⟨μ, ρ, m, hH, hS, q⟩ => by
    refine seqR q hH hS fun d m1 v H1 μ1 e1 hH1 r1 hS1 q1 => ?_
    cases d with
    | str a =>
      simp only [RVv, RV] at r1
      subst r1
      refine ⟨⟨a, rfl⟩, ?_⟩
      refine seqR q1 hH1 hS1 fun y m2 w H2 μ2 e2 hH2 r2 hS2 q2 => ?_
      cases e3 : (seqV m2 y).bind strsD with
      | none => simp only [e3] at q2; exact q2.elim
      | some ys =>
        simp only [e3] at q2
        obtain ⟨xs, h1, h2⟩ := Option.bind_eq_some_iff.mp e3
        obtain ⟨p, vs, rfl, hq, _, hr⟩ := seqV_of hH2 r2 h1
        have := strsD_rv hr h2
        subst this
        split at q2
        · rename_i hz
          exact ⟨a, p, ys, rfl, rfl, hq, hz, q2 _ H2 μ2 .refl hH2 (by simp [RV])⟩
        · exact q2.elim
    | _ => exact q1.elim
end FL

set_option maxRecDepth 100000
namespace FL
open PySem PySem.Spec PyProof.Rows L2

/-! ### a, b, c = x, y, z -/
def sPar3 (i j l : Nat) (fa : MA) : MS := fun ρ m => bindS (fa ρ m) ρ fun ds m => match ds with
  | [x, y, z] => .nx (((ρ.set i (some x)).set j (some y)).set l (some z)) m
  | _ => .no
theorem pds_par3 {X : Cx} {W : WX} {i j l : Nat} {x y z : Str} {a b c : Expr} {fa : MA} {px py pz pt pos : Pos} {kt k2 pt2} (hc : X.calm = true) (hN : X.N.Nodup) (hi : X.N[i]? = some x) (hj : X.N[j]? = some y) (hl : X.N[l]? = some z) (hij : i ≠ j) (hil : i ≠ l) (hjl : j ≠ l)
    (hx : X.env.scope.names.lookup x = some .local) (hy : X.env.scope.names.lookup y = some .local) (hz : X.env.scope.names.lookup z = some .local) (ha : PDA X W 3 [a, b, c] fa)
    (hw : swappedStores [.Tuple [.Name x px, .Name y py, .Name z pz] kt pt] (.Tuple [a, b, c] k2 pt2) X.env = pure (some [x, y, z]))
    (hs : swapsWithSole [.Tuple [.Name x px, .Name y py, .Name z pz] kt pt] (.Tuple [a, b, c] k2 pt2) pos.line X.env = pure false := by rfl) :
    PDS X W (.Assign [.Tuple [.Name x px, .Name y py, .Name z pz] kt pt] (.Tuple [a, b, c] k2 pt2) pos) (sPar3 i j l fa) :=
  PS.imp (ps_par3 hc hN hi hj hl hij hil hjl hx hy hz ha hw hs) fun D σ H ⟨μ, ρ, m, hH, hS, q⟩ => seqS q hH hS fun ds m1 vs H1 μ1 e1 hH1 r1 hS1 q1 => by
    split at q1
    · rename_i d d' d''
      have r1 := r1.1
      simp only [RVs] at r1
      obtain ⟨v1, r', rfl, rx, v2, r'', rfl, ry, v3, r3, rfl, rz, rfl⟩ := r1
      exact ⟨v1, v2, v3, rfl, q1 _ H1 μ1 .refl hH1 (((hS1.set rx i).set ry j).set rz l)⟩
    · exact q1.elim
end FL

set_option maxRecDepth 100000
namespace FL
open PySem PySem.Spec PyProof.Rows L2

/-! ### written tuples of tuples -/
structure WrTupT (o : Obj) (its : Array Value) (n : Nat) (rs : List (Addr × List D)) : Prop where
  cls : o.cls = .type "tuple"
  data : o.data = .seq its n
  few : rs.length ≤ 1000
  are : its.toList = rs.map fun p => Value.ref p.1
  nod : PlO o
def KIn (K : PySem.W.Frag) (p : Addr × List D) : Prop := ∃ (o : Obj) (its : Array Value) (n : Nat), K.lookup p.1 = some o ∧ WrTup o its n p.2
theorem vals_refs : ∀ rs : List (Addr × List D), Vals (rs.map fun p => V.ref p.1) (rs.map fun p => Value.ref p.1)
  | [] => .nil
  | _ :: rs => .cons rfl (vals_refs rs)
theorem rvs_refs {K : PySem.W.Frag} {H : Hp} {μ : Mu} : ∀ (rs : List (Addr × List D)), (∀ p ∈ rs, KIn K p) → RVs K H μ (rs.map fun p => D.tup p.2) (rs.map fun p => V.ref p.1)
  | [], _ => by simp [RVs]
  | p :: rs, h => by
    simp only [List.map_cons, RVs]
    refine ⟨_, _, rfl, ?_, rvs_refs rs fun q hq => h q (List.mem_cons_of_mem _ hq)⟩
    obtain ⟨o, its, n, hk, w⟩ := h p List.mem_cons_self
    obtain ⟨h1, h2⟩ := areV_ok w.are
    have hl : (p.2.map toV).length = its.toList.length := h1.length
    have hz : (p.2.map toV).length ≤ sizeLine := by rw [List.length_map]; exact le_line w.few
    simp only [RV]
    exact ⟨p.1, p.2.map toV, rfl, .inr ⟨o, its, n, hk, w.cls, w.data, by rw [← Array.length_toList, ← hl]; exact hz, h1, w.nod⟩, hz, h2 K H μ⟩
theorem WrTupT.mk' {K : PySem.W.Frag} {mg : Str → Option Value} {x : Str} {o : Obj} {its : Array Value} {n : Nat} {rs : List (Addr × List D)} {a : Addr} (h : WrTupT o its n rs) (hm : mg x = some (.ref a)) (hk : K.lookup a = some o) (hi : ∀ p ∈ rs, KIn K p) : KTup K mg x (rs.map fun p => .tup p.2) := by
  have h1 := vals_refs rs
  rw [← h.are] at h1
  have hl : (rs.map fun p => V.ref p.1).length = its.toList.length := h1.length
  have hz : (rs.map fun p => V.ref p.1).length ≤ sizeLine := by rw [List.length_map]; exact le_line h.few
  exact ⟨a, rs.map fun p => V.ref p.1, hm, .inr ⟨o, its, n, hk, h.cls, h.data, by rw [← Array.length_toList, ← hl]; exact hz, h1, h.nod⟩, hz, fun H μ => rvs_refs rs hi⟩
end FL

/-! ### the text by places -/
namespace G
open PySem PySem.Spec PyProof.Rows L2 FL
def topS (i : Nat) : Stmt := PySem.Challenge.pw_namestay_k53_sums_in_signs.main.body.getD i (.Pass ⟨0, 0, 0, 0⟩)
theorem boot_abs' : bootBuiltins "abs" = some (.builtin "abs") := by decide +kernel
theorem boot_all' : bootBuiltins "all" = some (.builtin "all") := by decide +kernel
theorem boot_bool' : bootBuiltins "bool" = some (.type "bool") := by decide +kernel
theorem boot_int' : bootBuiltins "int" = some (.type "int") := by decide +kernel
theorem boot_isinstance' : bootBuiltins "isinstance" = some (.builtin "isinstance") := by decide +kernel
theorem boot_range' : bootBuiltins "range" = some (.type "range") := by decide +kernel
theorem boot_str' : bootBuiltins "str" = some (.type "str") := by decide +kernel
theorem boot_tuple' : bootBuiltins "tuple" = some (.type "tuple") := by decide +kernel
abbrev s0 : Stmt := inClass (topS 7) 0 -- SumReader.__init__
theorem sc0 : FnScope ["self", "text"] ["self", "text"] (defScope s0) := ⟨rfl, rfl, rfl, by decide +kernel, rfl, by decide +kernel, by decide +kernel⟩
abbrev s1 : Stmt := inClass (topS 7) 1 -- SumReader.skip
theorem sc1 : FnScope ["self"] ["self"] (defScope s1) := ⟨rfl, rfl, rfl, by decide +kernel, rfl, by decide +kernel, by decide +kernel⟩
abbrev s2 : Stmt := inClass (topS 7) 2 -- SumReader.sign
theorem sc2 : FnScope ["self"] ["self"] (defScope s2) := ⟨rfl, rfl, rfl, by decide +kernel, rfl, by decide +kernel, by decide +kernel⟩
abbrev s3 : Stmt := inClass (topS 7) 3 -- SumReader.need
theorem sc3 : FnScope ["self", "sign"] ["self", "sign"] (defScope s3) := ⟨rfl, rfl, rfl, by decide +kernel, rfl, by decide +kernel, by decide +kernel⟩
abbrev s4 : Stmt := inClass (topS 7) 4 -- SumReader.sum_at
theorem sc4 : FnScope ["self", "level", "found", "word"] ["self", "level"] (defScope s4) := ⟨rfl, rfl, rfl, by decide +kernel, rfl, by decide +kernel, by decide +kernel⟩
abbrev s5 : Stmt := inClass (topS 7) 5 -- SumReader.digits
theorem sc5 : FnScope ["self", "begin", "text"] ["self"] (defScope s5) := ⟨rfl, rfl, rfl, by decide +kernel, rfl, by decide +kernel, by decide +kernel⟩
abbrev s6 : Stmt := inClass (topS 7) 6 -- SumReader.single
theorem sc6 : FnScope ["self", "sign", "found", "begin", "number"] ["self"] (defScope s6) := ⟨rfl, rfl, rfl, by decide +kernel, rfl, by decide +kernel, by decide +kernel⟩
abbrev s7 : Stmt := inClass (topS 7) 7 -- SumReader.read_word
theorem sc7 : FnScope ["self", "begin", "sign", "word", "things"] ["self"] (defScope s7) := ⟨rfl, rfl, rfl, by decide +kernel, rfl, by decide +kernel, by decide +kernel⟩
abbrev s8 : Stmt := topS 8 -- read_sums
theorem sc8 : FnScope ["text", "reader", "found"] ["text"] (defScope s8) := ⟨rfl, rfl, rfl, by decide +kernel, rfl, by decide +kernel, by decide +kernel⟩
abbrev s9 : Stmt := topS 9 -- level_of
theorem sc9 : FnScope ["datum", "level"] ["datum"] (defScope s9) := ⟨rfl, rfl, rfl, by decide +kernel, rfl, by decide +kernel, by decide +kernel⟩
abbrev s10 : Stmt := topS 10 -- is_letters
theorem sc10 : FnScope ["word", "sign"] ["word"] (defScope s10) := ⟨rfl, rfl, rfl, by decide +kernel, rfl, by decide +kernel, by decide +kernel⟩
abbrev s11 : Stmt := topS 11 -- is_sums
theorem sc11 : FnScope ["datum", "item"] ["datum"] (defScope s11) := ⟨rfl, rfl, rfl, by decide +kernel, rfl, by decide +kernel, by decide +kernel⟩
abbrev s12 : Stmt := topS 12 -- print_at
theorem sc12 : FnScope ["datum", "least", "level", "text", "sign", "one", "other", "item"] ["datum", "least"] (defScope s12) := ⟨rfl, rfl, rfl, by decide +kernel, rfl, by decide +kernel, by decide +kernel⟩
abbrev s13 : Stmt := topS 13 -- print_sums
theorem sc13 : FnScope ["datum"] ["datum"] (defScope s13) := ⟨rfl, rfl, rfl, by decide +kernel, rfl, by decide +kernel, by decide +kernel⟩
abbrev s14 : Stmt := topS 15 -- _law_draws
theorem sc14 : FnScope ["script", "many", "draws", "mixed", "k", "cell", "rest", "turn"] ["script", "many"] (defScope s14) := ⟨rfl, rfl, rfl, by decide +kernel, rfl, by decide +kernel, by decide +kernel⟩
abbrev s15 : Stmt := topS 16 -- _law_next
theorem sc15 : FnScope ["w", "many"] ["w", "many"] (defScope s15) := ⟨rfl, rfl, rfl, by decide +kernel, rfl, by decide +kernel, by decide +kernel⟩
abbrev s16 : Stmt := topS 17 -- _law_pick
theorem sc16 : FnScope ["w", "rows"] ["w", "rows"] (defScope s16) := ⟨rfl, rfl, rfl, by decide +kernel, rfl, by decide +kernel, by decide +kernel⟩
abbrev s17 : Stmt := topS 18 -- _law_alike
theorem sc17 : FnScope ["told", "due", "k"] ["told", "due"] (defScope s17) := ⟨rfl, rfl, rfl, by decide +kernel, rfl, by decide +kernel, by decide +kernel⟩
abbrev s18 : Stmt := topS 19 -- _law_sum
theorem sc18 : FnScope ["w", "depth", "kind", "one", "k"] ["w", "depth"] (defScope s18) := ⟨rfl, rfl, rfl, by decide +kernel, rfl, by decide +kernel, by decide +kernel⟩
abbrev s19 : Stmt := topS 20 -- _law_level
theorem sc19 : FnScope ["word"] ["word"] (defScope s19) := ⟨rfl, rfl, rfl, by decide +kernel, rfl, by decide +kernel, by decide +kernel⟩
abbrev s20 : Stmt := topS 21 -- _law_text
theorem sc20 : FnScope ["w", "datum", "least", "gap", "text", "own", "first", "item"] ["w", "datum", "least"] (defScope s20) := ⟨rfl, rfl, rfl, by decide +kernel, rfl, by decide +kernel, by decide +kernel⟩
abbrev s21 : Stmt := topS 22 -- _law_is_sums
theorem sc21 : FnScope ["datum", "items", "item", "sign"] ["datum"] (defScope s21) := ⟨rfl, rfl, rfl, by decide +kernel, rfl, by decide +kernel, by decide +kernel⟩
abbrev s22 : Stmt := topS 23 -- _law_bent
theorem sc22 : FnScope ["w", "datum", "at"] ["w", "datum"] (defScope s22) := ⟨rfl, rfl, rfl, by decide +kernel, rfl, by decide +kernel, by decide +kernel⟩
abbrev s23 : Stmt := topS 24 -- law
theorem sc23 : FnScope ["script", "w", "turn", "datum", "one", "k"] ["script"] (defScope s23) := ⟨rfl, rfl, rfl, by decide +kernel, rfl, by decide +kernel, by decide +kernel⟩
/-! ### what the defs compute -/
/-- SumReader.__init__(self, text); names 0 self, 1 text -/
noncomputable def b0 (cl : Nat → Addr) (f : Nat → List D → Me → Res D) : MS :=
  (sSeq (sFldD (cl 0) "text" (mVar 0) (mVar 1)) (sSeq (sFldD (cl 0) "at" (mVar 0) (mC (.int 0))) sNext))
/-- SumReader.skip(self); names 0 self -/
noncomputable def b1 (cl : Nat → Addr) (f : Nat → List D → Me → Res D) : MS :=
  (sSeq (whF (mB (m2 gEq (mSl (mFld (cl 0) "text" (mVar 0)) (mOpt (mFld (cl 0) "at" (mVar 0))) (mOpt (m2 gAdd (mFld (cl 0) "at" (mVar 0)) (mC (.int 1))))) (mC (.str (" " : Str))))) (sSeq (sFldAug (cl 0) "at" (fun i j => i + j) (mVar 0) (mC (.int 1))) sNext) 1000) sNext)
/-- SumReader.sign(self); names 0 self -/
noncomputable def b2 (cl : Nat → Addr) (f : Nat → List D → Me → Res D) : MS :=
  (sSeq (sDo (mMeth (cl 0) "skip" (f 1) (mVar 0) mNil)) (sSeq (sRet (mSl (mFld (cl 0) "text" (mVar 0)) (mOpt (mFld (cl 0) "at" (mVar 0))) (mOpt (m2 gAdd (mFld (cl 0) "at" (mVar 0)) (mC (.int 1)))))) sNext))
/-- SumReader.need(self, sign); names 0 self, 1 sign -/
noncomputable def b3 (cl : Nat → Addr) (f : Nat → List D → Me → Res D) : MS :=
  (sSeq (sIf (mB (m2 gNe (mMeth (cl 0) "sign" (f 2) (mVar 0) mNil) (mVar 1))) (sSeq sNever sNext) sNext) (sSeq (sFldAug (cl 0) "at" (fun i j => i + j) (mVar 0) (mC (.int 1))) sNext))
/-- SumReader.sum_at(self, level); names 0 self, 1 level, 2 found, 3 word -/
noncomputable def b4 (cl : Nat → Addr) (f : Nat → List D → Me → Res D) : MS :=
  (sSeq (sIf (mB (m2 gEq (mVar 1) (mArgs gLen (mCons (mC (.tup [.tup [.str ("<" : Str), .str ("=" : Str)], .tup [.str ("+" : Str), .str ("-" : Str)], .tup [.str ("*" : Str)]])) mNil)))) (sSeq (sRet (mMeth (cl 0) "single" (f 6) (mVar 0) mNil)) sNext) sNext) (sSeq (sSet 2 (mMeth (cl 0) "sum_at" (f 4) (mVar 0) (mCons (m2 gAdd (mVar 1) (mC (.int 1))) mNil))) (sSeq (whF (mAnd (mB (m2 gNe (mMeth (cl 0) "sign" (f 2) (mVar 0) mNil) (mC (.str ("" : Str))))) (mB (m2 (gInN false) (mMeth (cl 0) "sign" (f 2) (mVar 0) mNil) (m2 gIx (mC (.tup [.tup [.str ("<" : Str), .str ("=" : Str)], .tup [.str ("+" : Str), .str ("-" : Str)], .tup [.str ("*" : Str)]])) (mVar 1))))) (sSeq (sSet 3 (mMeth (cl 0) "sign" (f 2) (mVar 0) mNil)) (sSeq (sFldAug (cl 0) "at" (fun i j => i + j) (mVar 0) (mC (.int 1))) (sSeq (sSet 2 (mTup (mCons (mC (.str ("list" : Str))) (mCons (mTup (mCons (mTup (mCons (mC (.str ("word" : Str))) (mCons (mVar 3) mNil))) (mCons (mVar 2) (mCons (mMeth (cl 0) "sum_at" (f 4) (mVar 0) (mCons (m2 gAdd (mVar 1) (mC (.int 1))) mNil)) mNil)))) mNil)))) sNext))) 1000) (sSeq (sRet (mVar 2)) sNext))))
/-- SumReader.digits(self); names 0 self, 1 begin, 2 text -/
noncomputable def b5 (cl : Nat → Addr) (f : Nat → List D → Me → Res D) : MS :=
  (sSeq (sSet 1 (mFld (cl 0) "at" (mVar 0))) (sSeq (whF (mAnd (mB (m2 gNe (mSl (mFld (cl 0) "text" (mVar 0)) (mOpt (mFld (cl 0) "at" (mVar 0))) (mOpt (m2 gAdd (mFld (cl 0) "at" (mVar 0)) (mC (.int 1))))) (mC (.str ("" : Str))))) (mB (m2 (gInS false) (m2 gIx (mFld (cl 0) "text" (mVar 0)) (mFld (cl 0) "at" (mVar 0))) (mC (.str ("0123456789" : Str)))))) (sSeq (sFldAug (cl 0) "at" (fun i j => i + j) (mVar 0) (mC (.int 1))) sNext) 1000) (sSeq (sSet 2 (mSl (mFld (cl 0) "text" (mVar 0)) (mOpt (mVar 1)) (mOpt (mFld (cl 0) "at" (mVar 0))))) (sSeq (sIf (mB (m2 gEq (mVar 2) (mC (.str ("" : Str))))) (sSeq sNever sNext) sNext) (sSeq (sIf (mAnd (mB (m2 gEq (m2 gIx (mVar 2) (mC (.int 0))) (mC (.str ("0" : Str))))) (mB (m2 gGt (mArgs gLen (mCons (mVar 2) mNil)) (mC (.int 1))))) (sSeq sNever sNext) sNext) (sSeq (sRet (mArgs gIntS (mCons (mVar 2) mNil))) sNext))))))
/-- SumReader.single(self); names 0 self, 1 sign, 2 found, 3 begin, 4 number -/
noncomputable def b6 (cl : Nat → Addr) (f : Nat → List D → Me → Res D) : MS :=
  (sSeq (sSet 1 (mMeth (cl 0) "sign" (f 2) (mVar 0) mNil)) (sSeq (sIf (mB (m2 gEq (mVar 1) (mC (.str ("(" : Str))))) (sSeq (sFldAug (cl 0) "at" (fun i j => i + j) (mVar 0) (mC (.int 1))) (sSeq (sSet 2 (mMeth (cl 0) "sum_at" (f 4) (mVar 0) (mCons (mC (.int 0)) mNil))) (sSeq (sDo (mMeth (cl 0) "need" (f 3) (mVar 0) (mCons (mC (.str (")" : Str))) mNil))) (sSeq (sRet (mVar 2)) sNext)))) sNext) (sSeq (sIf (mB (m2 gEq (mVar 1) (mC (.str ("-" : Str))))) (sSeq (sFldAug (cl 0) "at" (fun i j => i + j) (mVar 0) (mC (.int 1))) (sSeq (sSet 3 (mFld (cl 0) "at" (mVar 0))) (sSeq (sSet 4 (mMeth (cl 0) "digits" (f 5) (mVar 0) mNil)) (sSeq (sIf (mB (m2 gEq (mVar 4) (mC (.int 0)))) (sSeq sNever sNext) sNext) (sSeq (sRet (mTup (mCons (mC (.str ("num" : Str))) (mCons (m1 gNeg (mVar 4)) mNil)))) sNext))))) sNext) (sSeq (sIf (mAnd (mB (m2 gNe (mVar 1) (mC (.str ("" : Str))))) (mB (m2 (gInS false) (mVar 1) (mC (.str ("0123456789" : Str)))))) (sSeq (sRet (mTup (mCons (mC (.str ("num" : Str))) (mCons (mMeth (cl 0) "digits" (f 5) (mVar 0) mNil) mNil)))) sNext) sNext) (sSeq (sRet (mMeth (cl 0) "read_word" (f 7) (mVar 0) mNil)) sNext)))))
/-- SumReader.read_word(self); names 0 self, 1 begin, 2 sign, 3 word, 4 things -/
noncomputable def b7 (cl : Nat → Addr) (f : Nat → List D → Me → Res D) : MS :=
  (sSeq (sSet 1 (mFld (cl 0) "at" (mVar 0))) (sSeq (sSet 2 (mSl (mFld (cl 0) "text" (mVar 0)) (mOpt (mFld (cl 0) "at" (mVar 0))) (mOpt (m2 gAdd (mFld (cl 0) "at" (mVar 0)) (mC (.int 1)))))) (sSeq (sIf (mOr (mB (m2 gEq (mVar 2) (mC (.str ("" : Str))))) (mB (m2 (gInS true) (mVar 2) (mC (.str ("abcdefghijklmnopqrstuvwxyz" : Str)))))) (sSeq sNever sNext) sNext) (sSeq (whF (mAnd (mB (m2 gNe (mSl (mFld (cl 0) "text" (mVar 0)) (mOpt (mFld (cl 0) "at" (mVar 0))) (mOpt (m2 gAdd (mFld (cl 0) "at" (mVar 0)) (mC (.int 1))))) (mC (.str ("" : Str))))) (mB (m2 (gInS false) (m2 gIx (mFld (cl 0) "text" (mVar 0)) (mFld (cl 0) "at" (mVar 0))) (m2 gAdd (m2 gAdd (mC (.str ("abcdefghijklmnopqrstuvwxyz" : Str))) (mC (.str ("0123456789" : Str)))) (mC (.str ("?!" : Str))))))) (sSeq (sFldAug (cl 0) "at" (fun i j => i + j) (mVar 0) (mC (.int 1))) sNext) 1000) (sSeq (sSet 3 (mTup (mCons (mC (.str ("word" : Str))) (mCons (mSl (mFld (cl 0) "text" (mVar 0)) (mOpt (mVar 1)) (mOpt (mFld (cl 0) "at" (mVar 0)))) mNil)))) (sSeq (sIf (mB (m2 gNe (mMeth (cl 0) "sign" (f 2) (mVar 0) mNil) (mC (.str ("(" : Str))))) (sSeq (sRet (mVar 3)) sNext) sNext) (sSeq (sFldAug (cl 0) "at" (fun i j => i + j) (mVar 0) (mC (.int 1))) (sSeq (sSet 4 (mNew mNil)) (sSeq (whF (mB (m2 gNe (mMeth (cl 0) "sign" (f 2) (mVar 0) mNil) (mC (.str (")" : Str))))) (sSeq (sIf (mB (m2 gNe (mVar 4) (mLst mNil))) (sSeq (sDo (mMeth (cl 0) "need" (f 3) (mVar 0) (mCons (mC (.str ("," : Str))) mNil))) sNext) sNext) (sSeq (sDo (mAppend (mVar 4) (mMeth (cl 0) "sum_at" (f 4) (mVar 0) (mCons (mC (.int 0)) mNil)))) sNext)) 1000) (sSeq (sFldAug (cl 0) "at" (fun i j => i + j) (mVar 0) (mC (.int 1))) (sSeq (sRet (mTup (mCons (mC (.str ("list" : Str))) (mCons (m2 gAdd (mTup (mCons (mVar 3) mNil)) (mArgs gTuple (mCons (mVar 4) mNil))) mNil)))) sNext)))))))))))
/-- read_sums(text); names 0 text, 1 reader, 2 found -/
noncomputable def b8 (cl : Nat → Addr) (f : Nat → List D → Me → Res D) : MS :=
  (sSeq (sSet 1 (mCall (f 24) (mCons (mVar 0) mNil))) (sSeq (sSet 2 (mMeth (cl 0) "sum_at" (f 4) (mVar 1) (mCons (mC (.int 0)) mNil))) (sSeq (sIf (mB (m2 gNe (mMeth (cl 0) "sign" (f 2) (mVar 1) mNil) (mC (.str ("" : Str))))) (sSeq sNever sNext) sNext) (sSeq (sRet (mVar 2)) sNext))))
/-- level_of(datum); names 0 datum, 1 level -/
noncomputable def b9 (cl : Nat → Addr) (f : Nat → List D → Me → Res D) : MS :=
  (sSeq (sIf (mOr (mB (m2 gNe (m2 gIx (mVar 0) (mC (.int 0))) (mC (.str ("list" : Str))))) (mOr (mB (m2 gNe (mArgs gLen (mCons (m2 gIx (mVar 0) (mC (.int 1))) mNil)) (mC (.int 3)))) (mB (m2 gNe (m2 gIx (m2 gIx (m2 gIx (mVar 0) (mC (.int 1))) (mC (.int 0))) (mC (.int 0))) (mC (.str ("word" : Str))))))) (sSeq (sRet (mC .non)) sNext) sNext) (sSeq (sFor (iRange1 (mCons (mArgs gLen (mCons (mC (.tup [.tup [.str ("<" : Str), .str ("=" : Str)], .tup [.str ("+" : Str), .str ("-" : Str)], .tup [.str ("*" : Str)]])) mNil)) mNil)) (tgN 1) (sSeq (sIf (mB (m2 (gInN false) (m2 gIx (m2 gIx (m2 gIx (mVar 0) (mC (.int 1))) (mC (.int 0))) (mC (.int 1))) (m2 gIx (mC (.tup [.tup [.str ("<" : Str), .str ("=" : Str)], .tup [.str ("+" : Str), .str ("-" : Str)], .tup [.str ("*" : Str)]])) (mVar 1)))) (sSeq (sRet (mVar 1)) sNext) sNext) sNext)) (sSeq (sRet (mC .non)) sNext)))
/-- is_letters(word); names 0 word, 1 sign -/
noncomputable def b10 (cl : Nat → Addr) (f : Nat → List D → Me → Res D) : MS :=
  (sSeq (sRet (mAndV (m2 (gInS false) (m2 gIx (mVar 0) (mC (.int 0))) (mC (.str ("abcdefghijklmnopqrstuvwxyz" : Str)))) (mArgs gAll (mCons (mComp (iTxt (mVar 0)) [1] (tgN 1) cYes (m2 (gInS false) (mVar 1) (m2 gAdd (m2 gAdd (mC (.str ("abcdefghijklmnopqrstuvwxyz" : Str))) (mC (.str ("0123456789" : Str)))) (mC (.str ("?!" : Str)))))) mNil)))) sNext)
/-- is_sums(datum); names 0 datum, 1 item -/
noncomputable def b11 (cl : Nat → Addr) (f : Nat → List D → Me → Res D) : MS :=
  (sSeq (sIf (mB (m2 gEq (m2 gIx (mVar 0) (mC (.int 0))) (mC (.str ("num" : Str))))) (sSeq (sRet (mC (.bl true))) sNext) sNext) (sSeq (sIf (mB (m2 gEq (m2 gIx (mVar 0) (mC (.int 0))) (mC (.str ("word" : Str))))) (sSeq (sRet (mCall (f 10) (mCons (m2 gIx (mVar 0) (mC (.int 1))) mNil))) sNext) sNext) (sSeq (sIf (mB (m2 gNotN (mCall (f 9) (mCons (mVar 0) mNil)) (mC .non))) (sSeq (sRet (mArgs gAll (mCons (mComp (iSeq (mSl (m2 gIx (mVar 0) (mC (.int 1))) (mOpt (mC (.int 1))) mNo)) [1] (tgN 1) cYes (mCall (f 11) (mCons (mVar 1) mNil))) mNil))) sNext) sNext) (sSeq (sRet (mAndV (m2 gNe (m2 gIx (mVar 0) (mC (.int 1))) (mTup mNil)) (mAndV (m2 gEq (m2 gIx (m2 gIx (m2 gIx (mVar 0) (mC (.int 1))) (mC (.int 0))) (mC (.int 0))) (mC (.str ("word" : Str)))) (mArgs gAll (mCons (mComp (iSeq (m2 gIx (mVar 0) (mC (.int 1)))) [1] (tgN 1) cYes (mCall (f 11) (mCons (mVar 1) mNil))) mNil))))) sNext))))
/-- print_at(datum, least); names 0 datum, 1 least, 2 level, 3 text, 4 sign, 5 one, 6 other, 7 item -/
noncomputable def b12 (cl : Nat → Addr) (f : Nat → List D → Me → Res D) : MS :=
  (sSeq (sSet 2 (mCall (f 9) (mCons (mVar 0) mNil))) (sSeq (sIf (mB (m2 gNotN (mVar 2) (mC .non))) (sSeq (sPar3 4 5 6 (mCons (m2 gIx (m2 gIx (m2 gIx (mVar 0) (mC (.int 1))) (mC (.int 0))) (mC (.int 1))) (mCons (m2 gIx (m2 gIx (mVar 0) (mC (.int 1))) (mC (.int 1))) (mCons (m2 gIx (m2 gIx (mVar 0) (mC (.int 1))) (mC (.int 2))) mNil)))) (sSeq (sSet 3 (m2 gAdd (m2 gAdd (m2 gAdd (m2 gAdd (mCall (f 12) (mCons (mVar 5) (mCons (mVar 2) mNil))) (mC (.str (" " : Str)))) (mVar 4)) (mC (.str (" " : Str)))) (mCall (f 12) (mCons (mVar 6) (mCons (m2 gAdd (mVar 2) (mC (.int 1))) mNil))))) (sSeq (sRet (mIf (mB (m2 gLt (mVar 2) (mVar 1))) (m2 gAdd (m2 gAdd (mC (.str ("(" : Str))) (mVar 3)) (mC (.str (")" : Str)))) (mVar 3))) sNext))) sNext) (sSeq (sIf (mB (m2 gEq (m2 gIx (mVar 0) (mC (.int 0))) (mC (.str ("list" : Str))))) (sSeq (sRet (m2 gAdd (m2 gAdd (m2 gAdd (m2 gIx (m2 gIx (m2 gIx (mVar 0) (mC (.int 1))) (mC (.int 0))) (mC (.int 1))) (mC (.str ("(" : Str)))) (mJoin (mC (.str (", " : Str))) (mComp (iSeq (mSl (m2 gIx (mVar 0) (mC (.int 1))) (mOpt (mC (.int 1))) mNo)) [7] (tgN 7) cYes (mCall (f 12) (mCons (mVar 7) (mCons (mC (.int 0)) mNil)))))) (mC (.str (")" : Str))))) sNext) sNext) (sSeq (sRet (mArgs gStrS (mCons (m2 gIx (mVar 0) (mC (.int 1))) mNil))) sNext))))
/-- print_sums(datum); names 0 datum -/
noncomputable def b13 (cl : Nat → Addr) (f : Nat → List D → Me → Res D) : MS :=
  (sSeq (sRet (mCall (f 12) (mCons (mVar 0) (mCons (mC (.int 0)) mNil)))) sNext)
/-- _law_draws(script, many); names 0 script, 1 many, 2 draws, 3 mixed, 4 k, 5 cell, 6 rest, 7 turn -/
noncomputable def b14 (cl : Nat → Addr) (f : Nat → List D → Me → Res D) : MS :=
  (sSeq (sSet 2 (mNew mNil)) (sSeq (sSet 3 (mC (.int 7))) (sSeq (sFor (iRange1 (mCons (mArgs gLen (mCons (mVar 0) mNil)) mNil)) (tgN 4) (sSeq (sSet 5 (mArgs gAbs (mCons (mArgs gInt (mCons (m2 gIx (mVar 0) (mVar 4)) mNil)) mNil))) (sSeq (sSet 3 (m2 gMod (mArgs gInt (mCons (m2 gAdd (m2 gAdd (m2 gMul (mVar 3) (mC (.int 48271))) (m2 gMod (mVar 5) (mC (.int 1000003)))) (mVar 4)) mNil)) (mC (.int 65537)))) (sSeq (sSet 6 (mC (.int 0))) (sSeq (sIf (mB (m2 gGe (mVar 5) (m2 gPow (mC (.int 10)) (mC (.int 18))))) (sSeq (sSet 6 (mVar 5)) sNext) (sSeq (sDo (mAppend (mVar 2) (m2 gMod (mArgs gInt (mCons (mVar 5) mNil)) (mC (.int 997))))) (sSeq (sDo (mAppend (mVar 2) (m2 gMod (m2 gMod (mArgs gInt (mCons (m2 gAdd (m2 gMul (mVar 3) (mC (.int 69621))) (mC (.int 5))) mNil)) (mC (.int 65521))) (mC (.int 997))))) sNext))) (sSeq (sFor (iRange1 (mCons (mC (.int 60)) mNil)) (tgN 7) (sSeq (sIf (mB (m2 gGt (mVar 6) (mC (.int 0)))) (sSeq (sDo (mAppend (mVar 2) (m2 gMod (mArgs gInt (mCons (mVar 6) mNil)) (mC (.int 997))))) (sSeq (sSet 6 (m2 gDiv (mVar 6) (mC (.int 997)))) sNext)) sNext) sNext)) sNext)))))) (sSeq (sFor (iRange1 (mCons (mVar 1) mNil)) (tgN 4) (sSeq (sSet 3 (m2 gMod (mArgs gInt (mCons (m2 gAdd (m2 gAdd (m2 gMul (mVar 3) (mC (.int 16807))) (mVar 4)) (mC (.int 1))) mNil)) (mC (.int 65537)))) (sSeq (sDo (mAppend (mVar 2) (m2 gMod (mArgs gInt (mCons (mVar 3) mNil)) (mC (.int 997))))) sNext))) (sSeq (sRet (mSl (mVar 2) mNo (mOpt (mVar 1)))) sNext)))))
/-- _law_next(w, many); names 0 w, 1 many -/
noncomputable def b15 (cl : Nat → Addr) (f : Nat → List D → Me → Res D) : MS :=
  (sSeq (sDaug (mVar 0) (mC (.str ("at" : Str))) (mC (.int 1))) (sSeq (sIf (mB (m2 gGt (m2 gDget (mVar 0) (mC (.str ("at" : Str)))) (mArgs gLen (mCons (m2 gDget (mVar 0) (mC (.str ("draws" : Str)))) mNil)))) (sSeq (sRet (mC (.int 0))) sNext) sNext) (sSeq (sRet (m2 gMod (mArgs gInt (mCons (m2 gIx (m2 gDget (mVar 0) (mC (.str ("draws" : Str)))) (m2 gSub (m2 gDget (mVar 0) (mC (.str ("at" : Str)))) (mC (.int 1)))) mNil)) (mVar 1))) sNext)))
/-- _law_pick(w, rows); names 0 w, 1 rows -/
noncomputable def b16 (cl : Nat → Addr) (f : Nat → List D → Me → Res D) : MS :=
  (sSeq (sRet (m2 gIx (mVar 1) (mCall (f 15) (mCons (mVar 0) (mCons (mArgs gLen (mCons (mVar 1) mNil)) mNil))))) sNext)
/-- _law_alike(told, due); names 0 told, 1 due, 2 k -/
noncomputable def b17 (cl : Nat → Addr) (f : Nat → List D → Me → Res D) : MS :=
  (sSeq (sIf (mB (m1 (gIsi "tuple") (mVar 1))) (sSeq (sIf (mOr (mNot (mB (m1 (gIsi "tuple") (mVar 0)))) (mB (m2 gNe (mArgs gLen (mCons (mVar 0) mNil)) (mArgs gLen (mCons (mVar 1) mNil))))) (sSeq (sRet (mC (.bl false))) sNext) sNext) (sSeq (sRet (m2 gEq (mComp (iRange1 (mCons (mArgs gLen (mCons (mVar 1) mNil)) mNil)) [2] (tgN 2) (mNot (mB (mCall (f 17) (mCons (m2 gIx (mVar 0) (mVar 2)) (mCons (m2 gIx (mVar 1) (mVar 2)) mNil))))) (mVar 2)) (mLst mNil))) sNext)) sNext) (sSeq (sIf (mB (m2 gIsN (mVar 1) (mC .non))) (sSeq (sRet (m2 gIsN (mVar 0) (mC .non))) sNext) sNext) (sSeq (sIf (mB (m1 (gIsi "bool") (mVar 1))) (sSeq (sRet (mAndV (m1 (gIsi "bool") (mVar 0)) (m2 gEq (mVar 0) (mVar 1)))) sNext) sNext) (sSeq (sIf (mB (m1 (gIsi "int") (mVar 1))) (sSeq (sRet (mAndV (m1 (gIsi "int") (mVar 0)) (mAndV (mNotV (m1 (gIsi "bool") (mVar 0))) (m2 gEq (mVar 0) (mVar 1))))) sNext) sNext) (sSeq (sRet (mAndV (m1 (gIsi "str") (mVar 0)) (m2 gEq (mVar 0) (mVar 1)))) sNext)))))
/-- _law_sum(w, depth); names 0 w, 1 depth, 2 kind, 3 one, 4 k -/
noncomputable def b18 (cl : Nat → Addr) (f : Nat → List D → Me → Res D) : MS :=
  (sSeq (sSet 2 (mIf (mB (m2 gGt (mVar 1) (mC (.int 0)))) (mCall (f 15) (mCons (mVar 0) (mCons (mC (.int 8)) mNil))) (mCall (f 15) (mCons (mVar 0) (mCons (mC (.int 3)) mNil))))) (sSeq (sIf (mB (m2 gLt (mVar 2) (mC (.int 2)))) (sSeq (sRet (mIf (mB (m2 gEq (mVar 2) (mC (.int 0)))) (mTup (mCons (mC (.str ("word" : Str))) (mCons (mCall (f 16) (mCons (mVar 0) (mCons (mLst (mCons (mC (.str ("a" : Str))) (mCons (mC (.str ("b" : Str))) (mCons (mC (.str ("if?" : Str))) (mCons (mC (.str ("x1" : Str))) (mCons (mC (.str ("f" : Str))) mNil)))))) mNil))) mNil))) (mTup (mCons (mC (.str ("num" : Str))) (mCons (mCall (f 16) (mCons (mVar 0) (mCons (mLst (mCons (mC (.int 0)) (mCons (mC (.int 1)) (mCons (mC (.int 42)) (mCons (m1 gNeg (mC (.int 1))) (mCons (m1 gNeg (mC (.int 30))) mNil)))))) mNil))) mNil))))) sNext) sNext) (sSeq (sIf (mB (m2 gEq (mVar 2) (mC (.int 2)))) (sSeq (sRet (mTup (mCons (mC (.str ("word" : Str))) (mCons (mC (.str ("c" : Str))) mNil)))) sNext) sNext) (sSeq (sIf (mB (m2 gEq (mVar 2) (mC (.int 3)))) (sSeq (sRet (mTup (mCons (mC (.str ("list" : Str))) (mCons (m2 gAdd (mTup (mCons (mTup (mCons (mC (.str ("word" : Str))) (mCons (mCall (f 16) (mCons (mVar 0) (mCons (mLst (mCons (mC (.str ("f" : Str))) (mCons (mC (.str ("g!" : Str))) mNil))) mNil))) mNil))) mNil)) (mArgs gTuple (mCons (mComp (iRange1 (mCons (mCall (f 15) (mCons (mVar 0) (mCons (mC (.int 4)) mNil))) mNil)) [4] (tgN 4) cYes (mCall (f 18) (mCons (mVar 0) (mCons (m2 gSub (mVar 1) (mC (.int 1))) mNil)))) mNil))) mNil)))) sNext) sNext) (sSeq (sSet 3 (mCall (f 18) (mCons (mVar 0) (mCons (m2 gSub (mVar 1) (mC (.int 1))) mNil)))) (sSeq (sRet (mTup (mCons (mC (.str ("list" : Str))) (mCons (mTup (mCons (mTup (mCons (mC (.str ("word" : Str))) (mCons (mCall (f 16) (mCons (mVar 0) (mCons (mLst (mCons (mC (.str ("+" : Str))) (mCons (mC (.str ("-" : Str))) (mCons (mC (.str ("*" : Str))) (mCons (mC (.str ("<" : Str))) (mCons (mC (.str ("=" : Str))) (mCons (mC (.str ("*" : Str))) (mCons (mC (.str ("+" : Str))) mNil)))))))) mNil))) mNil))) (mCons (mVar 3) (mCons (mCall (f 18) (mCons (mVar 0) (mCons (m2 gSub (mVar 1) (mC (.int 1))) mNil))) mNil)))) mNil)))) sNext))))))
/-- _law_level(word); names 0 word -/
noncomputable def b19 (cl : Nat → Addr) (f : Nat → List D → Me → Res D) : MS :=
  (sSeq (sRet (m3 gDget2 (mDisp (pCons (mC (.str ("<" : Str))) (mC (.int 0)) (pCons (mC (.str ("=" : Str))) (mC (.int 0)) (pCons (mC (.str ("+" : Str))) (mC (.int 1)) (pCons (mC (.str ("-" : Str))) (mC (.int 1)) (pCons (mC (.str ("*" : Str))) (mC (.int 2)) pNil)))))) (mVar 0) (mC (.int 3)))) sNext)
/-- _law_text(w, datum, least); names 0 w, 1 datum, 2 least, 3 gap, 4 text, 5 own, 6 first, 7 item -/
noncomputable def b20 (cl : Nat → Addr) (f : Nat → List D → Me → Res D) : MS :=
  (sSeq (sSet 3 (mIf (mB (m2 gDget (mVar 0) (mC (.str ("more" : Str))))) (mCall (f 16) (mCons (mVar 0) (mCons (mLst (mCons (mC (.str ("" : Str))) (mCons (mC (.str (" " : Str))) (mCons (mC (.str ("  " : Str))) mNil)))) mNil))) (mC (.str (" " : Str))))) (sSeq (sIf (mB (m2 gNe (m2 gIx (mVar 1) (mC (.int 0))) (mC (.str ("list" : Str))))) (sSeq (sPar 4 5 (mCons (mArgs gStrS (mCons (m2 gIx (mVar 1) (mC (.int 1))) mNil)) (mCons (mC (.int 3)) mNil))) sNext) (sSeq (sIf (mB (m2 gLt (mCall (f 19) (mCons (m2 gIx (m2 gIx (m2 gIx (mVar 1) (mC (.int 1))) (mC (.int 0))) (mC (.int 1))) mNil)) (mC (.int 3)))) (sSeq (sSet 5 (mCall (f 19) (mCons (m2 gIx (m2 gIx (m2 gIx (mVar 1) (mC (.int 1))) (mC (.int 0))) (mC (.int 1))) mNil))) (sSeq (sSet 6 (mCall (f 20) (mCons (mVar 0) (mCons (m2 gIx (m2 gIx (mVar 1) (mC (.int 1))) (mC (.int 1))) (mCons (mVar 5) mNil))))) (sSeq (sSet 4 (m2 gAdd (m2 gAdd (m2 gAdd (m2 gAdd (mVar 6) (mVar 3)) (m2 gIx (m2 gIx (m2 gIx (mVar 1) (mC (.int 1))) (mC (.int 0))) (mC (.int 1)))) (mVar 3)) (mCall (f 20) (mCons (mVar 0) (mCons (m2 gIx (m2 gIx (mVar 1) (mC (.int 1))) (mC (.int 2))) (mCons (m2 gAdd (mVar 5) (mC (.int 1))) mNil)))))) sNext))) (sSeq (sPar 4 5 (mCons (m2 gAdd (m2 gAdd (m2 gAdd (m2 gIx (m2 gIx (m2 gIx (mVar 1) (mC (.int 1))) (mC (.int 0))) (mC (.int 1))) (mC (.str ("(" : Str)))) (mJoin (m2 gAdd (mC (.str ("," : Str))) (mVar 3)) (mComp (iSeq (mSl (m2 gIx (mVar 1) (mC (.int 1))) (mOpt (mC (.int 1))) mNo)) [7] (tgN 7) cYes (mCall (f 20) (mCons (mVar 0) (mCons (mVar 7) (mCons (mC (.int 0)) mNil))))))) (mC (.str (")" : Str)))) (mCons (mC (.int 3)) mNil))) sNext)) sNext)) (sSeq (sRet (mIf (mOr (mB (m2 gLt (mVar 5) (mVar 2))) (mAnd (mB (m2 gDget (mVar 0) (mC (.str ("more" : Str))))) (mAnd (mB (m2 gEq (m2 gIx (mVar 1) (mC (.int 0))) (mC (.str ("list" : Str))))) (mB (m2 gEq (mCall (f 15) (mCons (mVar 0) (mCons (mC (.int 5)) mNil))) (mC (.int 0))))))) (m2 gAdd (m2 gAdd (mC (.str ("(" : Str))) (mVar 4)) (mC (.str (")" : Str)))) (mVar 4))) sNext)))
/-- _law_is_sums(datum); names 0 datum, 1 items, 2 item, 3 sign -/
noncomputable def b21 (cl : Nat → Addr) (f : Nat → List D → Me → Res D) : MS :=
  (sSeq (sIf (mB (m2 gNe (m2 gIx (mVar 0) (mC (.int 0))) (mC (.str ("list" : Str))))) (sSeq (sRet (mOrV (m2 gEq (m2 gIx (mVar 0) (mC (.int 0))) (mC (.str ("num" : Str)))) (mAndV (m2 (gInS false) (m2 gIx (m2 gIx (mVar 0) (mC (.int 1))) (mC (.int 0))) (mC (.str ("abcdefghijklmnopqrstuvwxyz" : Str)))) (m2 gEq (mComp (iTxt (m2 gIx (mVar 0) (mC (.int 1)))) [3] (tgN 3) (mB (m2 (gInS true) (mVar 3) (mC (.str ("abcdefghijklmnopqrstuvwxyz0123456789?!" : Str))))) (mVar 3)) (mLst mNil))))) sNext) sNext) (sSeq (sSet 1 (m2 gIx (mVar 0) (mC (.int 1)))) (sSeq (sIf (mAnd (mB (m2 gEq (mArgs gLen (mCons (mVar 1) mNil)) (mC (.int 3)))) (mAnd (mB (m2 gEq (m2 gIx (m2 gIx (mVar 1) (mC (.int 0))) (mC (.int 0))) (mC (.str ("word" : Str))))) (mB (m2 gLt (mCall (f 19) (mCons (m2 gIx (m2 gIx (mVar 1) (mC (.int 0))) (mC (.int 1))) mNil)) (mC (.int 3)))))) (sSeq (sRet (mAndV (mCall (f 21) (mCons (m2 gIx (mVar 1) (mC (.int 1))) mNil)) (mCall (f 21) (mCons (m2 gIx (mVar 1) (mC (.int 2))) mNil)))) sNext) sNext) (sSeq (sRet (mAndV (m2 gNe (mVar 1) (mTup mNil)) (mAndV (m2 gEq (m2 gIx (m2 gIx (mVar 1) (mC (.int 0))) (mC (.int 0))) (mC (.str ("word" : Str)))) (m2 gEq (mComp (iSeq (mVar 1)) [2] (tgN 2) (mNot (mB (mCall (f 21) (mCons (mVar 2) mNil)))) (mVar 2)) (mLst mNil))))) sNext))))
/-- _law_bent(w, datum); names 0 w, 1 datum, 2 at -/
noncomputable def b22 (cl : Nat → Addr) (f : Nat → List D → Me → Res D) : MS :=
  (sSeq (sIf (mAnd (mB (m2 gEq (m2 gIx (mVar 1) (mC (.int 0))) (mC (.str ("list" : Str))))) (mAnd (mB (m2 gNe (m2 gIx (mVar 1) (mC (.int 1))) (mTup mNil))) (mB (m2 gGt (mCall (f 15) (mCons (mVar 0) (mCons (mC (.int 3)) mNil))) (mC (.int 0)))))) (sSeq (sSet 2 (mCall (f 15) (mCons (mVar 0) (mCons (mArgs gLen (mCons (m2 gIx (mVar 1) (mC (.int 1))) mNil)) mNil)))) (sSeq (sRet (mTup (mCons (mC (.str ("list" : Str))) (mCons (m2 gAdd (m2 gAdd (mSl (m2 gIx (mVar 1) (mC (.int 1))) mNo (mOpt (mVar 2))) (mTup (mCons (mCall (f 22) (mCons (mVar 0) (mCons (m2 gIx (m2 gIx (mVar 1) (mC (.int 1))) (mVar 2)) mNil))) mNil))) (mSl (m2 gIx (mVar 1) (mC (.int 1))) (mOpt (m2 gAdd (mVar 2) (mC (.int 1)))) mNo)) mNil)))) sNext)) sNext) (sSeq (sRet (mCall (f 16) (mCons (mVar 0) (mCons (mLst (mCons (mTup (mCons (mC (.str ("list" : Str))) (mCons (mTup mNil) mNil))) (mCons (mTup (mCons (mC (.str ("word" : Str))) (mCons (mC (.str ("+" : Str))) mNil))) (mCons (mTup (mCons (mC (.str ("word" : Str))) (mCons (mC (.str ("a-b" : Str))) mNil))) (mCons (mTup (mCons (mC (.str ("list" : Str))) (mCons (mTup (mCons (mTup (mCons (mC (.str ("num" : Str))) (mCons (mC (.int 1)) mNil))) mNil)) mNil))) (mCons (mTup (mCons (mC (.str ("list" : Str))) (mCons (mTup (mCons (mTup (mCons (mC (.str ("word" : Str))) (mCons (mC (.str ("+" : Str))) mNil))) (mCons (mTup (mCons (mC (.str ("num" : Str))) (mCons (mC (.int 1)) mNil))) mNil))) mNil))) (mCons (mTup (mCons (mC (.str ("list" : Str))) (mCons (mTup (mCons (mVar 1) (mCons (mVar 1) mNil))) mNil))) (mCons (mTup (mCons (mC (.str ("word" : Str))) (mCons (mC (.str ("_" : Str))) mNil))) (mCons (mTup (mCons (mC (.str ("word" : Str))) (mCons (mC (.str ("..." : Str))) mNil))) (mCons (mTup (mCons (mC (.str ("num" : Str))) (mCons (mC (.int 0)) mNil))) (mCons (mTup (mCons (mC (.str ("word" : Str))) (mCons (mC (.str ("f" : Str))) mNil))) mNil))))))))))) mNil)))) sNext))
/-- law(script); names 0 script, 1 w, 2 turn, 3 datum, 4 one, 5 k -/
noncomputable def b23 (cl : Nat → Addr) (f : Nat → List D → Me → Res D) : MS :=
  (sSeq (sSet 1 (mDisp (pCons (mC (.str ("draws" : Str))) (mCall (f 14) (mCons (mVar 0) (mCons (mC (.int 800)) mNil))) (pCons (mC (.str ("at" : Str))) (mC (.int 0)) (pCons (mC (.str ("more" : Str))) (mC (.bl false)) pNil))))) (sSeq (sFor (iRange1 (mCons (mC (.int 7)) mNil)) (tgN 2) (sSeq (sSet 3 (mCall (f 18) (mCons (mVar 1) (mCons (mC (.int 4)) mNil)))) (sSeq (sDput (mVar 1) (mC (.str ("more" : Str))) (mC (.bl false))) (sSeq (sIf (mOr (mNot (mB (mCall (f 17) (mCons (mCall (f 13) (mCons (mVar 3) mNil)) (mCons (mCall (f 20) (mCons (mVar 1) (mCons (mVar 3) (mCons (mC (.int 0)) mNil)))) mNil))))) (mNot (mB (mCall (f 17) (mCons (mCall (f 8) (mCons (mCall (f 13) (mCons (mVar 3) mNil)) mNil)) (mCons (mVar 3) mNil)))))) (sSeq (sRet (mC (.bl false))) sNext) sNext) (sSeq (sDput (mVar 1) (mC (.str ("more" : Str))) (mC (.bl true))) (sSeq (sIf (mNot (mB (mCall (f 17) (mCons (mCall (f 8) (mCons (m2 gAdd (m2 gAdd (mCall (f 16) (mCons (mVar 1) (mCons (mLst (mCons (mC (.str ("" : Str))) (mCons (mC (.str (" " : Str))) mNil))) mNil))) (mCall (f 20) (mCons (mVar 1) (mCons (mVar 3) (mCons (mC (.int 0)) mNil))))) (mCall (f 16) (mCons (mVar 1) (mCons (mLst (mCons (mC (.str ("" : Str))) (mCons (mC (.str ("  " : Str))) mNil))) mNil)))) mNil)) (mCons (mVar 3) mNil))))) (sSeq (sRet (mC (.bl false))) sNext) sNext) (sSeq (sSet 4 (mVar 3)) (sSeq (sFor (iRange1 (mCons (mC (.int 4)) mNil)) (tgN 5) (sSeq (sIf (mNot (mB (mCall (f 17) (mCons (mCall (f 11) (mCons (mVar 4) mNil)) (mCons (mCall (f 21) (mCons (mVar 4) mNil)) mNil))))) (sSeq (sRet (mC (.bl false))) sNext) sNext) (sSeq (sSet 4 (mCall (f 22) (mCons (mVar 1) (mCons (mVar 3) mNil)))) sNext))) sNext)))))))) (sSeq (sRet (mAndV (mCall (f 17) (mCons (mCall (f 8) (mCons (mC (.str ("a-1" : Str))) mNil)) (mCons (mTup (mCons (mC (.str ("list" : Str))) (mCons (mTup (mCons (mTup (mCons (mC (.str ("word" : Str))) (mCons (mC (.str ("-" : Str))) mNil))) (mCons (mTup (mCons (mC (.str ("word" : Str))) (mCons (mC (.str ("a" : Str))) mNil))) (mCons (mTup (mCons (mC (.str ("num" : Str))) (mCons (mC (.int 1)) mNil))) mNil)))) mNil))) mNil))) (mCall (f 17) (mCons (mCall (f 8) (mCons (mC (.str ("a - -1" : Str))) mNil)) (mCons (mTup (mCons (mC (.str ("list" : Str))) (mCons (mTup (mCons (mTup (mCons (mC (.str ("word" : Str))) (mCons (mC (.str ("-" : Str))) mNil))) (mCons (mTup (mCons (mC (.str ("word" : Str))) (mCons (mC (.str ("a" : Str))) mNil))) (mCons (mTup (mCons (mC (.str ("num" : Str))) (mCons (m1 gNeg (mC (.int 1))) mNil))) mNil)))) mNil))) mNil))))) sNext)))
noncomputable def fns (cl : Nat → Addr) : Nat → Nat → List D → Me → Res D
  | 0, _ => fun _ _ => .no
  | n + 1, 0 => runDefK 2 2 (b0 cl (fns cl n))
  | n + 1, 1 => runDef 1 1 (b1 cl (fns cl n))
  | n + 1, 2 => runDef 1 1 (b2 cl (fns cl n))
  | n + 1, 3 => runDef 2 2 (b3 cl (fns cl n))
  | n + 1, 4 => runDef 4 2 (b4 cl (fns cl n))
  | n + 1, 5 => runDef 3 1 (b5 cl (fns cl n))
  | n + 1, 6 => runDef 5 1 (b6 cl (fns cl n))
  | n + 1, 7 => runDef 5 1 (b7 cl (fns cl n))
  | n + 1, 8 => runDef 3 1 (b8 cl (fns cl n))
  | n + 1, 9 => runDef 2 1 (b9 cl (fns cl n))
  | n + 1, 10 => runDef 2 1 (b10 cl (fns cl n))
  | n + 1, 11 => runDef 2 1 (b11 cl (fns cl n))
  | n + 1, 12 => runDef 8 2 (b12 cl (fns cl n))
  | n + 1, 13 => runDef 1 1 (b13 cl (fns cl n))
  | n + 1, 14 => runDef 8 2 (b14 cl (fns cl n))
  | n + 1, 15 => runDef 2 2 (b15 cl (fns cl n))
  | n + 1, 16 => runDef 2 2 (b16 cl (fns cl n))
  | n + 1, 17 => runDef 3 2 (b17 cl (fns cl n))
  | n + 1, 18 => runDef 5 2 (b18 cl (fns cl n))
  | n + 1, 19 => runDef 1 1 (b19 cl (fns cl n))
  | n + 1, 20 => runDef 8 3 (b20 cl (fns cl n))
  | n + 1, 21 => runDef 4 1 (b21 cl (fns cl n))
  | n + 1, 22 => runDef 3 2 (b22 cl (fns cl n))
  | n + 1, 23 => runDef 6 1 (b23 cl (fns cl n))
  | n + 1, 24 => mkC (cl 0) (fns cl n 0)
  | _ + 1, _ => fun _ _ => .no
theorem ct0 (cl : Nat → Addr) (n : Nat) : fns cl n 24 = ctF (cl 0) (fun k => fns cl k 0) n := by cases n <;> rfl
/-! ### what stands at the top -/
structure Facts (K : PySem.W.Frag) (mg : Str → Option Value) where
  a0 : Addr
  fd0 : FuncData
  F0 : Fun K "__init__" "SumReader.__init__" s0 a0 fd0
  b0 : Binds K fd0 ["self", "text"] []
  a1 : Addr
  fd1 : FuncData
  F1 : Fun K "skip" "SumReader.skip" s1 a1 fd1
  b1 : Binds K fd1 ["self"] []
  a2 : Addr
  fd2 : FuncData
  F2 : Fun K "sign" "SumReader.sign" s2 a2 fd2
  b2 : Binds K fd2 ["self"] []
  a3 : Addr
  fd3 : FuncData
  F3 : Fun K "need" "SumReader.need" s3 a3 fd3
  b3 : Binds K fd3 ["self", "sign"] []
  a4 : Addr
  fd4 : FuncData
  F4 : Fun K "sum_at" "SumReader.sum_at" s4 a4 fd4
  b4 : Binds K fd4 ["self", "level"] []
  a5 : Addr
  fd5 : FuncData
  F5 : Fun K "digits" "SumReader.digits" s5 a5 fd5
  b5 : Binds K fd5 ["self"] []
  a6 : Addr
  fd6 : FuncData
  F6 : Fun K "single" "SumReader.single" s6 a6 fd6
  b6 : Binds K fd6 ["self"] []
  a7 : Addr
  fd7 : FuncData
  F7 : Fun K "read_word" "SumReader.read_word" s7 a7 fd7
  b7 : Binds K fd7 ["self"] []
  a8 : Addr
  fd8 : FuncData
  F8 : Fun K "read_sums" "read_sums" s8 a8 fd8
  m8 : mg "read_sums" = some (.ref a8)
  b8 : Binds K fd8 ["text"] []
  a9 : Addr
  fd9 : FuncData
  F9 : Fun K "level_of" "level_of" s9 a9 fd9
  m9 : mg "level_of" = some (.ref a9)
  b9 : Binds K fd9 ["datum"] []
  a10 : Addr
  fd10 : FuncData
  F10 : Fun K "is_letters" "is_letters" s10 a10 fd10
  m10 : mg "is_letters" = some (.ref a10)
  b10 : Binds K fd10 ["word"] []
  a11 : Addr
  fd11 : FuncData
  F11 : Fun K "is_sums" "is_sums" s11 a11 fd11
  m11 : mg "is_sums" = some (.ref a11)
  b11 : Binds K fd11 ["datum"] []
  a12 : Addr
  fd12 : FuncData
  F12 : Fun K "print_at" "print_at" s12 a12 fd12
  m12 : mg "print_at" = some (.ref a12)
  b12 : Binds K fd12 ["datum", "least"] []
  a13 : Addr
  fd13 : FuncData
  F13 : Fun K "print_sums" "print_sums" s13 a13 fd13
  m13 : mg "print_sums" = some (.ref a13)
  b13 : Binds K fd13 ["datum"] []
  a14 : Addr
  fd14 : FuncData
  F14 : Fun K "_law_draws" "_law_draws" s14 a14 fd14
  m14 : mg "_law_draws" = some (.ref a14)
  b14 : Binds K fd14 ["script", "many"] []
  a15 : Addr
  fd15 : FuncData
  F15 : Fun K "_law_next" "_law_next" s15 a15 fd15
  m15 : mg "_law_next" = some (.ref a15)
  b15 : Binds K fd15 ["w", "many"] []
  a16 : Addr
  fd16 : FuncData
  F16 : Fun K "_law_pick" "_law_pick" s16 a16 fd16
  m16 : mg "_law_pick" = some (.ref a16)
  b16 : Binds K fd16 ["w", "rows"] []
  a17 : Addr
  fd17 : FuncData
  F17 : Fun K "_law_alike" "_law_alike" s17 a17 fd17
  m17 : mg "_law_alike" = some (.ref a17)
  b17 : Binds K fd17 ["told", "due"] []
  a18 : Addr
  fd18 : FuncData
  F18 : Fun K "_law_sum" "_law_sum" s18 a18 fd18
  m18 : mg "_law_sum" = some (.ref a18)
  b18 : Binds K fd18 ["w", "depth"] []
  a19 : Addr
  fd19 : FuncData
  F19 : Fun K "_law_level" "_law_level" s19 a19 fd19
  m19 : mg "_law_level" = some (.ref a19)
  b19 : Binds K fd19 ["word"] []
  a20 : Addr
  fd20 : FuncData
  F20 : Fun K "_law_text" "_law_text" s20 a20 fd20
  m20 : mg "_law_text" = some (.ref a20)
  b20 : Binds K fd20 ["w", "datum", "least"] []
  a21 : Addr
  fd21 : FuncData
  F21 : Fun K "_law_is_sums" "_law_is_sums" s21 a21 fd21
  m21 : mg "_law_is_sums" = some (.ref a21)
  b21 : Binds K fd21 ["datum"] []
  a22 : Addr
  fd22 : FuncData
  F22 : Fun K "_law_bent" "_law_bent" s22 a22 fd22
  m22 : mg "_law_bent" = some (.ref a22)
  b22 : Binds K fd22 ["w", "datum"] []
  a23 : Addr
  fd23 : FuncData
  F23 : Fun K "law" "law" s23 a23 fd23
  m23 : mg "law" = some (.ref a23)
  b23 : Binds K fd23 ["script"] []
  C0 : Addr
  cls0 : Cls K C0
  mgC0 : mg "SumReader" = some (.ref C0)
  mk0 : Mk K C0 a0
  nA0_at : NoAttr K C0 "at"
  nA0_text : NoAttr K C0 "text"
  me1 : Meth K C0 "skip" a1
  me2 : Meth K C0 "sign" a2
  me3 : Meth K C0 "need" a3
  me4 : Meth K C0 "sum_at" a4
  me5 : Meth K C0 "digits" a5
  me6 : Meth K C0 "single" a6
  me7 : Meth K C0 "read_word" a7
  z_len : mg "len" = none
  z_int : mg "int" = none
  z_tuple : mg "tuple" = none
  z_range : mg "range" = none
  z_all : mg "all" = none
  z_str : mg "str" = none
  z_abs : mg "abs" = none
  z_isinstance : mg "isinstance" = none
  z_bool : mg "bool" = none
  c_LEVELS : KTup K mg "LEVELS" [.tup [.str ("<" : Str), .str ("=" : Str)], .tup [.str ("+" : Str), .str ("-" : Str)], .tup [.str ("*" : Str)]]
  t_DIGITS : Tok
  c_DIGITS : mg "DIGITS" = some (.str ("0123456789" : Str) t_DIGITS)
  t_LETTERS : Tok
  c_LETTERS : mg "LETTERS" = some (.str ("abcdefghijklmnopqrstuvwxyz" : Str) t_LETTERS)
def Facts.cl {K : PySem.W.Frag} {mg : Str → Option Value} (T : Facts K mg) : Nat → Addr
  | 0 => T.C0
  | _ => 0
section
variable {P : Program} {w : World} {K : PySem.W.Frag} {mg : Str → Option Value} {base : Heap}
structure OkAll (P : Program) (w : World) (base : Heap) {K : PySem.W.Frag} {mg : Str → Option Value} (T : Facts K mg) (n : Nat) : Prop where
  g0 : FnOk P w K mg base CX0 n T.a0 T.fd0 ["self", "text"] (spF K 2 (fns T.cl n 0))
  g1 : FnOk P w K mg base CX0 n T.a1 T.fd1 ["self"] (spF K 1 (fns T.cl n 1))
  g2 : FnOk P w K mg base CX0 n T.a2 T.fd2 ["self"] (spF K 1 (fns T.cl n 2))
  g3 : FnOk P w K mg base CX0 n T.a3 T.fd3 ["self", "sign"] (spF K 2 (fns T.cl n 3))
  g4 : FnOk P w K mg base CX0 n T.a4 T.fd4 ["self", "level"] (spF K 2 (fns T.cl n 4))
  g5 : FnOk P w K mg base CX0 n T.a5 T.fd5 ["self"] (spF K 1 (fns T.cl n 5))
  g6 : FnOk P w K mg base CX0 n T.a6 T.fd6 ["self"] (spF K 1 (fns T.cl n 6))
  g7 : FnOk P w K mg base CX0 n T.a7 T.fd7 ["self"] (spF K 1 (fns T.cl n 7))
  g8 : FnOk P w K mg base CX0 n T.a8 T.fd8 ["text"] (spF K 1 (fns T.cl n 8))
  g9 : FnOk P w K mg base CX0 n T.a9 T.fd9 ["datum"] (spF K 1 (fns T.cl n 9))
  g10 : FnOk P w K mg base CX0 n T.a10 T.fd10 ["word"] (spF K 1 (fns T.cl n 10))
  g11 : FnOk P w K mg base CX0 n T.a11 T.fd11 ["datum"] (spF K 1 (fns T.cl n 11))
  g12 : FnOk P w K mg base CX0 n T.a12 T.fd12 ["datum", "least"] (spF K 2 (fns T.cl n 12))
  g13 : FnOk P w K mg base CX0 n T.a13 T.fd13 ["datum"] (spF K 1 (fns T.cl n 13))
  g14 : FnOk P w K mg base CX0 n T.a14 T.fd14 ["script", "many"] (spF K 2 (fns T.cl n 14))
  g15 : FnOk P w K mg base CX0 n T.a15 T.fd15 ["w", "many"] (spF K 2 (fns T.cl n 15))
  g16 : FnOk P w K mg base CX0 n T.a16 T.fd16 ["w", "rows"] (spF K 2 (fns T.cl n 16))
  g17 : FnOk P w K mg base CX0 n T.a17 T.fd17 ["told", "due"] (spF K 2 (fns T.cl n 17))
  g18 : FnOk P w K mg base CX0 n T.a18 T.fd18 ["w", "depth"] (spF K 2 (fns T.cl n 18))
  g19 : FnOk P w K mg base CX0 n T.a19 T.fd19 ["word"] (spF K 1 (fns T.cl n 19))
  g20 : FnOk P w K mg base CX0 n T.a20 T.fd20 ["w", "datum", "least"] (spF K 3 (fns T.cl n 20))
  g21 : FnOk P w K mg base CX0 n T.a21 T.fd21 ["datum"] (spF K 1 (fns T.cl n 21))
  g22 : FnOk P w K mg base CX0 n T.a22 T.fd22 ["w", "datum"] (spF K 2 (fns T.cl n 22))
  g23 : FnOk P w K mg base CX0 n T.a23 T.fd23 ["script"] (spF K 1 (fns T.cl n 23))
  h0 : CtOk P w K mg base T.a0 T.fd0 ["self", "text"] 2 (fun k => fns T.cl k 0) n
theorem ok0 (T : Facts K mg) {n : Nat} (O : OkAll P w base T n) : FnOk P w K mg base CX0 (n + 1) T.a0 T.fd0 ["self", "text"] (spF K 2 (fns T.cl (n + 1) 0)) := by
  refine fn_okK (fm := b0 T.cl (fns T.cl n)) T.F0 sc0 fun cdv A outer s H E hr => ?_
  have nd := sc0.nd
  exact (pdb_cons (pds_fld T.cls0 T.nA0_text (pd_var 0) (pd_var 1))
    (pdb_cons (pds_fld T.cls0 T.nA0_at (pd_var 0) pd_int)
    pdb_nil))
theorem ok1 (T : Facts K mg) {n : Nat} (O : OkAll P w base T n) : FnOk P w K mg base CX0 (n + 1) T.a1 T.fd1 ["self"] (spF K 1 (fns T.cl (n + 1) 1)) := by
  refine fn_ok (fm := b1 T.cl (fns T.cl n)) T.F1 sc1 fun cdv A outer s H E hr => ?_
  have nd := sc1.nd
  exact (pdb_cons (pds_while 1000 PassesOwn.never (pdt_cmp (op_eqD hr.units) g_eq (pd_slice (pd_fld T.cls0 T.nA0_text (pd_var 0)) (pdo_some (pd_fld T.cls0 T.nA0_at (pd_var 0))) (pdo_some (pd_add (pd_fld T.cls0 T.nA0_at (pd_var 0)) pd_int))) pd_str (nomark _)) (pdb_cons (pds_fldaug inI_add T.cls0 T.nA0_at (pd_var 0) pd_int)
    pdb_nil))
    pdb_nil)
theorem ok2 (T : Facts K mg) {n : Nat} (O : OkAll P w base T n) : FnOk P w K mg base CX0 (n + 1) T.a2 T.fd2 ["self"] (spF K 1 (fns T.cl (n + 1) 2)) := by
  refine fn_ok (fm := b2 T.cl (fns T.cl n)) T.F2 sc2 fun cdv A outer s H E hr => ?_
  have nd := sc2.nd
  exact (pdb_cons (pds_expr (pd_meth0 _ T.cls0 T.me1 O.g1 hr T.b1 (pd_var 0)))
    (pdb_cons (pds_ret (pd_slice (pd_fld T.cls0 T.nA0_text (pd_var 0)) (pdo_some (pd_fld T.cls0 T.nA0_at (pd_var 0))) (pdo_some (pd_add (pd_fld T.cls0 T.nA0_at (pd_var 0)) pd_int))))
    pdb_nil))
theorem ok3 (T : Facts K mg) {n : Nat} (O : OkAll P w base T n) : FnOk P w K mg base CX0 (n + 1) T.a3 T.fd3 ["self", "sign"] (spF K 2 (fns T.cl (n + 1) 3)) := by
  refine fn_ok (fm := b3 T.cl (fns T.cl n)) T.F3 sc3 fun cdv A outer s H E hr => ?_
  have nd := sc3.nd
  exact (pdb_cons (pds_if (pdt_cmp (op_neD hr.units) g_ne (pd_meth0 _ T.cls0 T.me2 O.g2 hr T.b2 (pd_var 0)) (pd_var 1) (nomark _)) (pdb_cons pds_never
    pdb_nil) pdb_nil)
    (pdb_cons (pds_fldaug inI_add T.cls0 T.nA0_at (pd_var 0) pd_int)
    pdb_nil))
theorem ok4 (T : Facts K mg) {n : Nat} (O : OkAll P w base T n) : FnOk P w K mg base CX0 (n + 1) T.a4 T.fd4 ["self", "level"] (spF K 2 (fns T.cl (n + 1) 4)) := by
  refine fn_ok (fm := b4 T.cl (fns T.cl n)) T.F4 sc4 fun cdv A outer s H E hr => ?_
  have nd := sc4.nd
  exact (pdb_cons (pds_if (pdt_cmp (op_eqD hr.units) g_eq (pd_var 1) (pd_callB (call_len.or call_lenR) g_len rfl T.z_len PySem.boot_len (pda_cons (pd_globT rfl T.c_LEVELS) pda_nil)) (nomark _)) (pdb_cons (pds_ret (pd_meth0 _ T.cls0 T.me6 O.g6 hr T.b6 (pd_var 0)))
    pdb_nil) pdb_nil)
    (pdb_cons (pds_set 2 nd (pd_meth _ T.cls0 T.me4 O.g4 hr T.b4 (pd_var 0) (pda_cons (pd_add (pd_var 1) pd_int) pda_nil)))
    (pdb_cons (pds_while 1000 PassesOwn.never (pdt_w (pdw_and (pdt_cmp (op_neD hr.units) g_ne (pd_meth0 _ T.cls0 T.me2 O.g2 hr T.b2 (pd_var 0)) pd_str (nomark _)) (pdw_and1 (pdt_cmp op_in_seq g_inN (pd_meth0 _ T.cls0 T.me2 O.g2 hr T.b2 (pd_var 0)) (pd_at (pd_globT rfl T.c_LEVELS) (pd_var 1)) (by rfl))))) (pdb_cons (pds_set 3 nd (pd_meth0 _ T.cls0 T.me2 O.g2 hr T.b2 (pd_var 0)))
    (pdb_cons (pds_fldaug inI_add T.cls0 T.nA0_at (pd_var 0) pd_int)
    (pdb_cons (pds_set 2 nd (pd_tup (pda_cons pd_str (pda_cons (pd_tup (pda_cons (pd_tup (pda_cons pd_str (pda_cons (pd_var 3) pda_nil))) (pda_cons (pd_var 2) (pda_cons (pd_meth _ T.cls0 T.me4 O.g4 hr T.b4 (pd_var 0) (pda_cons (pd_add (pd_var 1) pd_int) pda_nil)) pda_nil)))) pda_nil))))
    pdb_nil))))
    (pdb_cons (pds_ret (pd_var 2))
    pdb_nil))))
theorem ok5 (T : Facts K mg) {n : Nat} (O : OkAll P w base T n) : FnOk P w K mg base CX0 (n + 1) T.a5 T.fd5 ["self"] (spF K 1 (fns T.cl (n + 1) 5)) := by
  refine fn_ok (fm := b5 T.cl (fns T.cl n)) T.F5 sc5 fun cdv A outer s H E hr => ?_
  have nd := sc5.nd
  exact (pdb_cons (pds_set 1 nd (pd_fld T.cls0 T.nA0_at (pd_var 0)))
    (pdb_cons (pds_while 1000 PassesOwn.never (pdt_w (pdw_and (pdt_cmp (op_neD hr.units) g_ne (pd_slice (pd_fld T.cls0 T.nA0_text (pd_var 0)) (pdo_some (pd_fld T.cls0 T.nA0_at (pd_var 0))) (pdo_some (pd_add (pd_fld T.cls0 T.nA0_at (pd_var 0)) pd_int))) pd_str (nomark _)) (pdw_and1 (pdt_cmp op_in_str g_inS (pd_at (pd_fld T.cls0 T.nA0_text (pd_var 0)) (pd_fld T.cls0 T.nA0_at (pd_var 0))) (pd_globS rfl T.c_DIGITS) (by rfl))))) (pdb_cons (pds_fldaug inI_add T.cls0 T.nA0_at (pd_var 0) pd_int)
    pdb_nil))
    (pdb_cons (pds_set 2 nd (pd_slice (pd_fld T.cls0 T.nA0_text (pd_var 0)) (pdo_some (pd_var 1)) (pdo_some (pd_fld T.cls0 T.nA0_at (pd_var 0)))))
    (pdb_cons (pds_if (pdt_cmp (op_eqD hr.units) g_eq (pd_var 2) pd_str (nomark _)) (pdb_cons pds_never
    pdb_nil) pdb_nil)
    (pdb_cons (pds_if (pdt_w (pdw_and (pdt_cmp (op_eqD hr.units) g_eq (pd_at (pd_var 2) pd_int) pd_str (nomark _)) (pdw_and1 (pdt_cmp op_gt g_gt (pd_callB (call_len.or call_lenR) g_len rfl T.z_len PySem.boot_len (pda_cons (pd_var 2) pda_nil)) pd_int (nomark _))))) (pdb_cons pds_never
    pdb_nil) pdb_nil)
    (pdb_cons (pds_ret (pd_callTy call_int_str g_intS rfl T.z_int boot_int' (pda_cons (pd_var 2) pda_nil)))
    pdb_nil))))))
theorem ok6 (T : Facts K mg) {n : Nat} (O : OkAll P w base T n) : FnOk P w K mg base CX0 (n + 1) T.a6 T.fd6 ["self"] (spF K 1 (fns T.cl (n + 1) 6)) := by
  refine fn_ok (fm := b6 T.cl (fns T.cl n)) T.F6 sc6 fun cdv A outer s H E hr => ?_
  have nd := sc6.nd
  exact (pdb_cons (pds_set 1 nd (pd_meth0 _ T.cls0 T.me2 O.g2 hr T.b2 (pd_var 0)))
    (pdb_cons (pds_if (pdt_cmp (op_eqD hr.units) g_eq (pd_var 1) pd_str (nomark _)) (pdb_cons (pds_fldaug inI_add T.cls0 T.nA0_at (pd_var 0) pd_int)
    (pdb_cons (pds_set 2 nd (pd_meth _ T.cls0 T.me4 O.g4 hr T.b4 (pd_var 0) (pda_cons pd_int pda_nil)))
    (pdb_cons (pds_expr (pd_meth _ T.cls0 T.me3 O.g3 hr T.b3 (pd_var 0) (pda_cons pd_str pda_nil)))
    (pdb_cons (pds_ret (pd_var 2))
    pdb_nil)))) pdb_nil)
    (pdb_cons (pds_if (pdt_cmp (op_eqD hr.units) g_eq (pd_var 1) pd_str (nomark _)) (pdb_cons (pds_fldaug inI_add T.cls0 T.nA0_at (pd_var 0) pd_int)
    (pdb_cons (pds_set 3 nd (pd_fld T.cls0 T.nA0_at (pd_var 0)))
    (pdb_cons (pds_set 4 nd (pd_meth0 _ T.cls0 T.me5 O.g5 hr T.b5 (pd_var 0)))
    (pdb_cons (pds_if (pdt_cmp (op_eqD hr.units) g_eq (pd_var 4) pd_int (nomark _)) (pdb_cons pds_never
    pdb_nil) pdb_nil)
    (pdb_cons (pds_ret (pd_tup (pda_cons pd_str (pda_cons (pd_neg (pd_var 4)) pda_nil))))
    pdb_nil))))) pdb_nil)
    (pdb_cons (pds_if (pdt_w (pdw_and (pdt_cmp (op_neD hr.units) g_ne (pd_var 1) pd_str (nomark _)) (pdw_and1 (pdt_cmp op_in_str g_inS (pd_var 1) (pd_globS rfl T.c_DIGITS) (by rfl))))) (pdb_cons (pds_ret (pd_tup (pda_cons pd_str (pda_cons (pd_meth0 _ T.cls0 T.me5 O.g5 hr T.b5 (pd_var 0)) pda_nil))))
    pdb_nil) pdb_nil)
    (pdb_cons (pds_ret (pd_meth0 _ T.cls0 T.me7 O.g7 hr T.b7 (pd_var 0)))
    pdb_nil)))))
theorem ok7 (T : Facts K mg) {n : Nat} (O : OkAll P w base T n) : FnOk P w K mg base CX0 (n + 1) T.a7 T.fd7 ["self"] (spF K 1 (fns T.cl (n + 1) 7)) := by
  refine fn_ok (fm := b7 T.cl (fns T.cl n)) T.F7 sc7 fun cdv A outer s H E hr => ?_
  have nd := sc7.nd
  exact (pdb_cons (pds_set 1 nd (pd_fld T.cls0 T.nA0_at (pd_var 0)))
    (pdb_cons (pds_set 2 nd (pd_slice (pd_fld T.cls0 T.nA0_text (pd_var 0)) (pdo_some (pd_fld T.cls0 T.nA0_at (pd_var 0))) (pdo_some (pd_add (pd_fld T.cls0 T.nA0_at (pd_var 0)) pd_int))))
    (pdb_cons (pds_if (pdt_w (pdw_or (pdt_cmp (op_eqD hr.units) g_eq (pd_var 2) pd_str (nomark _)) (pdw_or1 (pdt_cmp op_notin_str g_notInS (pd_var 2) (pd_globS rfl T.c_LETTERS) (by rfl))))) (pdb_cons pds_never
    pdb_nil) pdb_nil)
    (pdb_cons (pds_while 1000 PassesOwn.never (pdt_w (pdw_and (pdt_cmp (op_neD hr.units) g_ne (pd_slice (pd_fld T.cls0 T.nA0_text (pd_var 0)) (pdo_some (pd_fld T.cls0 T.nA0_at (pd_var 0))) (pdo_some (pd_add (pd_fld T.cls0 T.nA0_at (pd_var 0)) pd_int))) pd_str (nomark _)) (pdw_and1 (pdt_cmp op_in_str g_inS (pd_at (pd_fld T.cls0 T.nA0_text (pd_var 0)) (pd_fld T.cls0 T.nA0_at (pd_var 0))) (pd_add (pd_add (pd_globS rfl T.c_LETTERS) (pd_globS rfl T.c_DIGITS)) pd_str) (by rfl))))) (pdb_cons (pds_fldaug inI_add T.cls0 T.nA0_at (pd_var 0) pd_int)
    pdb_nil))
    (pdb_cons (pds_set 3 nd (pd_tup (pda_cons pd_str (pda_cons (pd_slice (pd_fld T.cls0 T.nA0_text (pd_var 0)) (pdo_some (pd_var 1)) (pdo_some (pd_fld T.cls0 T.nA0_at (pd_var 0)))) pda_nil))))
    (pdb_cons (pds_if (pdt_cmp (op_neD hr.units) g_ne (pd_meth0 _ T.cls0 T.me2 O.g2 hr T.b2 (pd_var 0)) pd_str (nomark _)) (pdb_cons (pds_ret (pd_var 3))
    pdb_nil) pdb_nil)
    (pdb_cons (pds_fldaug inI_add T.cls0 T.nA0_at (pd_var 0) pd_int)
    (pdb_cons (pds_set 4 nd (pd_new pda_nil))
    (pdb_cons (pds_while 1000 PassesOwn.never (pdt_cmp (op_neD hr.units) g_ne (pd_meth0 _ T.cls0 T.me2 O.g2 hr T.b2 (pd_var 0)) pd_str (nomark _)) (pdb_cons (pds_if (pdt_cmp (op_neD hr.units) g_ne (pd_var 4) (pd_lst pda_nil) (nomark _)) (pdb_cons (pds_expr (pd_meth _ T.cls0 T.me3 O.g3 hr T.b3 (pd_var 0) (pda_cons pd_str pda_nil)))
    pdb_nil) pdb_nil)
    (pdb_cons (pds_expr (pd_append (pd_var 4) (pd_meth _ T.cls0 T.me4 O.g4 hr T.b4 (pd_var 0) (pda_cons pd_int pda_nil))))
    pdb_nil)))
    (pdb_cons (pds_fldaug inI_add T.cls0 T.nA0_at (pd_var 0) pd_int)
    (pdb_cons (pds_ret (pd_tup (pda_cons pd_str (pda_cons (pd_add (pd_tup (pda_cons (pd_var 3) pda_nil)) (pd_callTy call_tuple_ofN g_tuple rfl T.z_tuple boot_tuple' (pda_cons (pd_var 4) pda_nil))) pda_nil))))
    pdb_nil)))))))))))
theorem ok8 (T : Facts K mg) {n : Nat} (O : OkAll P w base T n) : FnOk P w K mg base CX0 (n + 1) T.a8 T.fd8 ["text"] (spF K 1 (fns T.cl (n + 1) 8)) := by
  refine fn_ok (fm := b8 T.cl (fns T.cl n)) T.F8 sc8 fun cdv A outer s H E hr => ?_
  have nd := sc8.nd
  exact (pdb_cons (pds_set 1 nd (pd_make T.mk0 O.h0 hr rfl T.mgC0 T.b0 (pda_cons (pd_var 0) pda_nil) (ct0 _ _)))
    (pdb_cons (pds_set 2 nd (pd_meth _ T.cls0 T.me4 O.g4 hr T.b4 (pd_var 1) (pda_cons pd_int pda_nil)))
    (pdb_cons (pds_if (pdt_cmp (op_neD hr.units) g_ne (pd_meth0 _ T.cls0 T.me2 O.g2 hr T.b2 (pd_var 1)) pd_str (nomark _)) (pdb_cons pds_never
    pdb_nil) pdb_nil)
    (pdb_cons (pds_ret (pd_var 2))
    pdb_nil))))
theorem ok9 (T : Facts K mg) {n : Nat} (O : OkAll P w base T n) : FnOk P w K mg base CX0 (n + 1) T.a9 T.fd9 ["datum"] (spF K 1 (fns T.cl (n + 1) 9)) := by
  refine fn_ok (fm := b9 T.cl (fns T.cl n)) T.F9 sc9 fun cdv A outer s H E hr => ?_
  have nd := sc9.nd
  exact (pdb_cons (pds_if (pdt_w (pdw_or (pdt_cmp (op_neD hr.units) g_ne (pd_at (pd_var 0) pd_int) pd_str (nomark _)) (pdw_or (pdt_cmp (op_neD hr.units) g_ne (pd_callB (call_len.or call_lenR) g_len rfl T.z_len PySem.boot_len (pda_cons (pd_at (pd_var 0) pd_int) pda_nil)) pd_int (nomark _)) (pdw_or1 (pdt_cmp (op_neD hr.units) g_ne (pd_at (pd_at (pd_at (pd_var 0) pd_int) pd_int) pd_int) pd_str (nomark _)))))) (pdb_cons (pds_ret pd_non)
    pdb_nil) pdb_nil)
    (pdb_cons (pds_for PassesOwn.never rfl (pdi_range1 rfl T.z_range (pda_cons (pd_callB (call_len.or call_lenR) g_len rfl T.z_len PySem.boot_len (pda_cons (pd_globT rfl T.c_LEVELS) pda_nil)) pda_nil)) (pg_name (i := 1) nd rfl (by first | exact Or.inl rfl | exact Or.inr rfl)) tg_n (pdb_cons (pds_if (pdt_cmp op_in_seq g_inN (pd_at (pd_at (pd_at (pd_var 0) pd_int) pd_int) pd_int) (pd_at (pd_globT rfl T.c_LEVELS) (pd_var 1)) (by rfl)) (pdb_cons (pds_ret (pd_var 1))
    pdb_nil) pdb_nil)
    pdb_nil))
    (pdb_cons (pds_ret pd_non)
    pdb_nil)))
theorem ok10 (T : Facts K mg) {n : Nat} (O : OkAll P w base T n) : FnOk P w K mg base CX0 (n + 1) T.a10 T.fd10 ["word"] (spF K 1 (fns T.cl (n + 1) 10)) := by
  refine fn_ok (fm := b10 T.cl (fns T.cl n)) T.F10 sc10 fun cdv A outer s H E hr => ?_
  have nd := sc10.nd
  exact (pdb_cons (pds_ret (pd_and (pd_cmp op_in_str g_inS (pd_at (pd_var 0) pd_int) (pd_globS rfl T.c_LETTERS) (by rfl)) (pd_one (pd_callB (cr_all rfl) g_all rfl T.z_all boot_all' (pda_cons (pd_lc rfl nd (pdi_txt (pd_var 0)) (own := [("sign", 1)]) (blkOk_by (by kernel_rfl)) tg_n (by decide) (fun _ _ _ _ _ => (pg_name (i := 1) nd rfl (by first | exact Or.inl rfl | exact Or.inr rfl))) (fun _ _ _ _ _ => pts_yes) (fun _ _ _ _ _ => (pd_cmp op_in_str g_inS (pd_var 1) (pd_add (pd_add (pd_globS rfl T.c_LETTERS) (pd_globS rfl T.c_DIGITS)) pd_str) (by rfl)))) pda_nil)))))
    pdb_nil)
theorem ok11 (T : Facts K mg) {n : Nat} (O : OkAll P w base T n) : FnOk P w K mg base CX0 (n + 1) T.a11 T.fd11 ["datum"] (spF K 1 (fns T.cl (n + 1) 11)) := by
  refine fn_ok (fm := b11 T.cl (fns T.cl n)) T.F11 sc11 fun cdv A outer s H E hr => ?_
  have nd := sc11.nd
  exact (pdb_cons (pds_if (pdt_cmp (op_eqD hr.units) g_eq (pd_at (pd_var 0) pd_int) pd_str (nomark _)) (pdb_cons (pds_ret pd_bl)
    pdb_nil) pdb_nil)
    (pdb_cons (pds_if (pdt_cmp (op_eqD hr.units) g_eq (pd_at (pd_var 0) pd_int) pd_str (nomark _)) (pdb_cons (pds_ret (pd_call O.g10 hr rfl T.m10 T.F10.kp T.b10 (pda_cons (pd_at (pd_var 0) pd_int) pda_nil)))
    pdb_nil) pdb_nil)
    (pdb_cons (pds_if (pdt_cmp op_notN g_notN (pd_call O.g9 hr rfl T.m9 T.F9.kp T.b9 (pda_cons (pd_var 0) pda_nil)) pd_non (nomark _)) (pdb_cons (pds_ret (pd_callB (cr_all rfl) g_all rfl T.z_all boot_all' (pda_cons (pd_lc rfl nd (pdi_seq (pd_slice (pd_at (pd_var 0) pd_int) (pdo_some pd_int) pdo_none)) (own := [("item", 1)]) (blkOk_by (by kernel_rfl)) tg_n (by decide) (fun _ _ _ _ _ => (pg_name (i := 1) nd rfl (by first | exact Or.inl rfl | exact Or.inr rfl))) (fun _ _ _ _ _ => pts_yes) (fun _ _ _ _ _ => (pd_call O.g11 hr rfl T.m11 T.F11.kp T.b11 (pda_cons (pd_var 1) pda_nil)))) pda_nil)))
    pdb_nil) pdb_nil)
    (pdb_cons (pds_ret (pd_and (pd_cmp (op_neD hr.units) g_ne (pd_at (pd_var 0) pd_int) (pd_tup pda_nil) (nomark _)) (pd_and (pd_cmp (op_eqD hr.units) g_eq (pd_at (pd_at (pd_at (pd_var 0) pd_int) pd_int) pd_int) pd_str (nomark _)) (pd_one (pd_callB (cr_all rfl) g_all rfl T.z_all boot_all' (pda_cons (pd_lc rfl nd (pdi_seq (pd_at (pd_var 0) pd_int)) (own := [("item", 1)]) (blkOk_by (by kernel_rfl)) tg_n (by decide) (fun _ _ _ _ _ => (pg_name (i := 1) nd rfl (by first | exact Or.inl rfl | exact Or.inr rfl))) (fun _ _ _ _ _ => pts_yes) (fun _ _ _ _ _ => (pd_call O.g11 hr rfl T.m11 T.F11.kp T.b11 (pda_cons (pd_var 1) pda_nil)))) pda_nil))))))
    pdb_nil))))
theorem ok12 (T : Facts K mg) {n : Nat} (O : OkAll P w base T n) : FnOk P w K mg base CX0 (n + 1) T.a12 T.fd12 ["datum", "least"] (spF K 2 (fns T.cl (n + 1) 12)) := by
  refine fn_ok (fm := b12 T.cl (fns T.cl n)) T.F12 sc12 fun cdv A outer s H E hr => ?_
  have nd := sc12.nd
  exact (pdb_cons (pds_set 2 nd (pd_call O.g9 hr rfl T.m9 T.F9.kp T.b9 (pda_cons (pd_var 0) pda_nil)))
    (pdb_cons (pds_if (pdt_cmp op_notN g_notN (pd_var 2) pd_non (nomark _)) (pdb_cons (pds_par3 rfl nd (i := 4) (j := 5) (l := 6) rfl rfl rfl (by decide) (by decide) (by decide) (by kernel_rfl) (by kernel_rfl) (by kernel_rfl) (pda_cons (pd_at (pd_at (pd_at (pd_var 0) pd_int) pd_int) pd_int) (pda_cons (pd_at (pd_at (pd_var 0) pd_int) pd_int) (pda_cons (pd_at (pd_at (pd_var 0) pd_int) pd_int) pda_nil))) (by kernel_rfl) (by kernel_rfl))
    (pdb_cons (pds_set 3 nd (pd_add (pd_add (pd_add (pd_add (pd_call O.g12 hr rfl T.m12 T.F12.kp T.b12 (pda_cons (pd_var 5) (pda_cons (pd_var 2) pda_nil))) pd_str) (pd_var 4)) pd_str) (pd_call O.g12 hr rfl T.m12 T.F12.kp T.b12 (pda_cons (pd_var 6) (pda_cons (pd_add (pd_var 2) pd_int) pda_nil)))))
    (pdb_cons (pds_ret (pd_if (pdt_cmp op_lt g_lt (pd_var 2) (pd_var 1) (nomark _)) (pd_add (pd_add pd_str (pd_var 3)) pd_str) (pd_var 3)))
    pdb_nil))) pdb_nil)
    (pdb_cons (pds_if (pdt_cmp (op_eqD hr.units) g_eq (pd_at (pd_var 0) pd_int) pd_str (nomark _)) (pdb_cons (pds_ret (pd_add (pd_add (pd_add (pd_at (pd_at (pd_at (pd_var 0) pd_int) pd_int) pd_int) pd_str) (pd_join pd_str (pd_lc rfl nd (pdi_seq (pd_slice (pd_at (pd_var 0) pd_int) (pdo_some pd_int) pdo_none)) (own := [("item", 7)]) (blkOk_by (by kernel_rfl)) tg_n (by decide) (fun _ _ _ _ _ => (pg_name (i := 7) nd rfl (by first | exact Or.inl rfl | exact Or.inr rfl))) (fun _ _ _ _ _ => pts_yes) (fun _ _ _ _ _ => (pd_call O.g12 hr rfl T.m12 T.F12.kp T.b12 (pda_cons (pd_var 7) (pda_cons pd_int pda_nil))))))) pd_str))
    pdb_nil) pdb_nil)
    (pdb_cons (pds_ret (pd_callTy cr_strS g_strS rfl T.z_str boot_str' (pda_cons (pd_at (pd_var 0) pd_int) pda_nil)))
    pdb_nil))))
theorem ok13 (T : Facts K mg) {n : Nat} (O : OkAll P w base T n) : FnOk P w K mg base CX0 (n + 1) T.a13 T.fd13 ["datum"] (spF K 1 (fns T.cl (n + 1) 13)) := by
  refine fn_ok (fm := b13 T.cl (fns T.cl n)) T.F13 sc13 fun cdv A outer s H E hr => ?_
  have nd := sc13.nd
  exact (pdb_cons (pds_ret (pd_call O.g12 hr rfl T.m12 T.F12.kp T.b12 (pda_cons (pd_var 0) (pda_cons pd_int pda_nil))))
    pdb_nil)
theorem ok14 (T : Facts K mg) {n : Nat} (O : OkAll P w base T n) : FnOk P w K mg base CX0 (n + 1) T.a14 T.fd14 ["script", "many"] (spF K 2 (fns T.cl (n + 1) 14)) := by
  refine fn_ok (fm := b14 T.cl (fns T.cl n)) T.F14 sc14 fun cdv A outer s H E hr => ?_
  have nd := sc14.nd
  exact (pdb_cons (pds_set 2 nd (pd_new pda_nil))
    (pdb_cons (pds_set 3 nd pd_int)
    (pdb_cons (pds_for PassesOwn.never rfl (pdi_range1 rfl T.z_range (pda_cons (pd_callB (call_len.or call_lenR) g_len rfl T.z_len PySem.boot_len (pda_cons (pd_var 0) pda_nil)) pda_nil)) (pg_name (i := 4) nd rfl (by first | exact Or.inl rfl | exact Or.inr rfl)) tg_n (pdb_cons (pds_set 5 nd (pd_callB call_abs g_abs rfl T.z_abs boot_abs' (pda_cons (pd_callTy call_int1 g_int rfl T.z_int boot_int' (pda_cons (pd_at (pd_var 0) (pd_var 4)) pda_nil)) pda_nil)))
    (pdb_cons (pds_set 3 nd (pd_mod (pd_callTy call_int1 g_int rfl T.z_int boot_int' (pda_cons (pd_add (pd_add (pd_mul (pd_var 3) pd_int) (pd_mod (pd_var 5) pd_int)) (pd_var 4)) pda_nil)) pd_int))
    (pdb_cons (pds_set 6 nd pd_int)
    (pdb_cons (pds_if (pdt_cmp op_ge g_ge (pd_var 5) (pd_pow pd_int pd_int) (nomark _)) (pdb_cons (pds_set 6 nd (pd_var 5))
    pdb_nil) (pdb_cons (pds_expr (pd_append (pd_var 2) (pd_mod (pd_callTy call_int1 g_int rfl T.z_int boot_int' (pda_cons (pd_var 5) pda_nil)) pd_int)))
    (pdb_cons (pds_expr (pd_append (pd_var 2) (pd_mod (pd_mod (pd_callTy call_int1 g_int rfl T.z_int boot_int' (pda_cons (pd_add (pd_mul (pd_var 3) pd_int) pd_int) pda_nil)) pd_int) pd_int)))
    pdb_nil)))
    (pdb_cons (pds_for PassesOwn.never rfl (pdi_range1 rfl T.z_range (pda_cons pd_int pda_nil)) (pg_name (i := 7) nd rfl (by first | exact Or.inl rfl | exact Or.inr rfl)) tg_n (pdb_cons (pds_if (pdt_cmp op_gt g_gt (pd_var 6) pd_int (nomark _)) (pdb_cons (pds_expr (pd_append (pd_var 2) (pd_mod (pd_callTy call_int1 g_int rfl T.z_int boot_int' (pda_cons (pd_var 6) pda_nil)) pd_int)))
    (pdb_cons (pds_set 6 nd (pd_div (pd_var 6) pd_int))
    pdb_nil)) pdb_nil)
    pdb_nil))
    pdb_nil))))))
    (pdb_cons (pds_for PassesOwn.never rfl (pdi_range1 rfl T.z_range (pda_cons (pd_var 1) pda_nil)) (pg_name (i := 4) nd rfl (by first | exact Or.inl rfl | exact Or.inr rfl)) tg_n (pdb_cons (pds_set 3 nd (pd_mod (pd_callTy call_int1 g_int rfl T.z_int boot_int' (pda_cons (pd_add (pd_add (pd_mul (pd_var 3) pd_int) (pd_var 4)) pd_int) pda_nil)) pd_int))
    (pdb_cons (pds_expr (pd_append (pd_var 2) (pd_mod (pd_callTy call_int1 g_int rfl T.z_int boot_int' (pda_cons (pd_var 3) pda_nil)) pd_int)))
    pdb_nil)))
    (pdb_cons (pds_ret (pd_slice (pd_var 2) pdo_none (pdo_some (pd_var 1))))
    pdb_nil)))))
theorem ok15 (T : Facts K mg) {n : Nat} (O : OkAll P w base T n) : FnOk P w K mg base CX0 (n + 1) T.a15 T.fd15 ["w", "many"] (spF K 2 (fns T.cl (n + 1) 15)) := by
  refine fn_ok (fm := b15 T.cl (fns T.cl n)) T.F15 sc15 fun cdv A outer s H E hr => ?_
  have nd := sc15.nd
  exact (pdb_cons (pds_daug (hu_of hr) (pd_var 0) pd_str pd_int)
    (pdb_cons (pds_if (pdt_cmp op_gt g_gt (pd_dget (hu_of hr) (pd_var 0) pd_str) (pd_callB (call_len.or call_lenR) g_len rfl T.z_len PySem.boot_len (pda_cons (pd_dget (hu_of hr) (pd_var 0) pd_str) pda_nil)) (nomark _)) (pdb_cons (pds_ret pd_int)
    pdb_nil) pdb_nil)
    (pdb_cons (pds_ret (pd_mod (pd_callTy call_int1 g_int rfl T.z_int boot_int' (pda_cons (pd_at (pd_dget (hu_of hr) (pd_var 0) pd_str) (pd_sub (pd_dget (hu_of hr) (pd_var 0) pd_str) pd_int)) pda_nil)) (pd_var 1)))
    pdb_nil)))
theorem ok16 (T : Facts K mg) {n : Nat} (O : OkAll P w base T n) : FnOk P w K mg base CX0 (n + 1) T.a16 T.fd16 ["w", "rows"] (spF K 2 (fns T.cl (n + 1) 16)) := by
  refine fn_ok (fm := b16 T.cl (fns T.cl n)) T.F16 sc16 fun cdv A outer s H E hr => ?_
  have nd := sc16.nd
  exact (pdb_cons (pds_ret (pd_at (pd_var 1) (pd_call O.g15 hr rfl T.m15 T.F15.kp T.b15 (pda_cons (pd_var 0) (pda_cons (pd_callB (call_len.or call_lenR) g_len rfl T.z_len PySem.boot_len (pda_cons (pd_var 1) pda_nil)) pda_nil)))))
    pdb_nil)
theorem ok17 (T : Facts K mg) {n : Nat} (O : OkAll P w base T n) : FnOk P w K mg base CX0 (n + 1) T.a17 T.fd17 ["told", "due"] (spF K 2 (fns T.cl (n + 1) 17)) := by
  refine fn_ok (fm := b17 T.cl (fns T.cl n)) T.F17 sc17 fun cdv A outer s H E hr => ?_
  have nd := sc17.nd
  exact (pdb_cons (pds_if (pdt_val (pd_isi rfl T.z_isinstance rfl T.z_tuple boot_tuple' (pd_var 1))) (pdb_cons (pds_if (pdt_w (pdw_or (pdt_not (pdt_val (pd_isi rfl T.z_isinstance rfl T.z_tuple boot_tuple' (pd_var 0)))) (pdw_or1 (pdt_cmp (op_neD hr.units) g_ne (pd_callB (call_len.or call_lenR) g_len rfl T.z_len PySem.boot_len (pda_cons (pd_var 0) pda_nil)) (pd_callB (call_len.or call_lenR) g_len rfl T.z_len PySem.boot_len (pda_cons (pd_var 1) pda_nil)) (nomark _))))) (pdb_cons (pds_ret pd_bl)
    pdb_nil) pdb_nil)
    (pdb_cons (pds_ret (pd_cmp (op_eqD hr.units) g_eq (pd_lc rfl nd (pdi_range1 rfl T.z_range (pda_cons (pd_callB (call_len.or call_lenR) g_len rfl T.z_len PySem.boot_len (pda_cons (pd_var 1) pda_nil)) pda_nil)) (own := [("k", 2)]) (blkOk_by (by kernel_rfl)) tg_n (by decide) (fun _ _ _ _ _ => (pg_name (i := 2) nd rfl (by first | exact Or.inl rfl | exact Or.inr rfl))) (fun _ _ _ _ _ => pts_c (pdt_not (pdt_val (pd_call O.g17 hr rfl T.m17 T.F17.kp T.b17 (pda_cons (pd_at (pd_var 0) (pd_var 2)) (pda_cons (pd_at (pd_var 1) (pd_var 2)) pda_nil)))))) (fun _ _ _ _ _ => (pd_var 2))) (pd_lst pda_nil) (nomark _)))
    pdb_nil)) pdb_nil)
    (pdb_cons (pds_if (pdt_cmp op_isN g_isN (pd_var 1) pd_non (nomark _)) (pdb_cons (pds_ret (pd_cmp op_isN g_isN (pd_var 0) pd_non (nomark _)))
    pdb_nil) pdb_nil)
    (pdb_cons (pds_if (pdt_val (pd_isi rfl T.z_isinstance rfl T.z_bool boot_bool' (pd_var 1))) (pdb_cons (pds_ret (pd_and (pd_isi rfl T.z_isinstance rfl T.z_bool boot_bool' (pd_var 0)) (pd_one (pd_cmp (op_eqD hr.units) g_eq (pd_var 0) (pd_var 1) (nomark _)))))
    pdb_nil) pdb_nil)
    (pdb_cons (pds_if (pdt_val (pd_isi rfl T.z_isinstance rfl T.z_int boot_int' (pd_var 1))) (pdb_cons (pds_ret (pd_and (pd_isi rfl T.z_isinstance rfl T.z_int boot_int' (pd_var 0)) (pd_and (pd_not (pd_isi rfl T.z_isinstance rfl T.z_bool boot_bool' (pd_var 0))) (pd_one (pd_cmp (op_eqD hr.units) g_eq (pd_var 0) (pd_var 1) (nomark _))))))
    pdb_nil) pdb_nil)
    (pdb_cons (pds_ret (pd_and (pd_isi rfl T.z_isinstance rfl T.z_str boot_str' (pd_var 0)) (pd_one (pd_cmp (op_eqD hr.units) g_eq (pd_var 0) (pd_var 1) (nomark _)))))
    pdb_nil)))))
theorem ok18 (T : Facts K mg) {n : Nat} (O : OkAll P w base T n) : FnOk P w K mg base CX0 (n + 1) T.a18 T.fd18 ["w", "depth"] (spF K 2 (fns T.cl (n + 1) 18)) := by
  refine fn_ok (fm := b18 T.cl (fns T.cl n)) T.F18 sc18 fun cdv A outer s H E hr => ?_
  have nd := sc18.nd
  exact (pdb_cons (pds_set 2 nd (pd_if (pdt_cmp op_gt g_gt (pd_var 1) pd_int (nomark _)) (pd_call O.g15 hr rfl T.m15 T.F15.kp T.b15 (pda_cons (pd_var 0) (pda_cons pd_int pda_nil))) (pd_call O.g15 hr rfl T.m15 T.F15.kp T.b15 (pda_cons (pd_var 0) (pda_cons pd_int pda_nil)))))
    (pdb_cons (pds_if (pdt_cmp op_lt g_lt (pd_var 2) pd_int (nomark _)) (pdb_cons (pds_ret (pd_if (pdt_cmp (op_eqD hr.units) g_eq (pd_var 2) pd_int (nomark _)) (pd_tup (pda_cons pd_str (pda_cons (pd_call O.g16 hr rfl T.m16 T.F16.kp T.b16 (pda_cons (pd_var 0) (pda_cons (pd_lst (pda_cons pd_str (pda_cons pd_str (pda_cons pd_str (pda_cons pd_str (pda_cons pd_str pda_nil)))))) pda_nil))) pda_nil))) (pd_tup (pda_cons pd_str (pda_cons (pd_call O.g16 hr rfl T.m16 T.F16.kp T.b16 (pda_cons (pd_var 0) (pda_cons (pd_lst (pda_cons pd_int (pda_cons pd_int (pda_cons pd_int (pda_cons (pd_neg pd_int) (pda_cons (pd_neg pd_int) pda_nil)))))) pda_nil))) pda_nil)))))
    pdb_nil) pdb_nil)
    (pdb_cons (pds_if (pdt_cmp (op_eqD hr.units) g_eq (pd_var 2) pd_int (nomark _)) (pdb_cons (pds_ret (pd_tup (pda_cons pd_str (pda_cons pd_str pda_nil))))
    pdb_nil) pdb_nil)
    (pdb_cons (pds_if (pdt_cmp (op_eqD hr.units) g_eq (pd_var 2) pd_int (nomark _)) (pdb_cons (pds_ret (pd_tup (pda_cons pd_str (pda_cons (pd_add (pd_tup (pda_cons (pd_tup (pda_cons pd_str (pda_cons (pd_call O.g16 hr rfl T.m16 T.F16.kp T.b16 (pda_cons (pd_var 0) (pda_cons (pd_lst (pda_cons pd_str (pda_cons pd_str pda_nil))) pda_nil))) pda_nil))) pda_nil)) (pd_callTy call_tuple_ofN g_tuple rfl T.z_tuple boot_tuple' (pda_cons (pd_lc rfl nd (pdi_range1 rfl T.z_range (pda_cons (pd_call O.g15 hr rfl T.m15 T.F15.kp T.b15 (pda_cons (pd_var 0) (pda_cons pd_int pda_nil))) pda_nil)) (own := [("k", 4)]) (blkOk_by (by kernel_rfl)) tg_n (by decide) (fun _ _ _ _ _ => (pg_name (i := 4) nd rfl (by first | exact Or.inl rfl | exact Or.inr rfl))) (fun _ _ _ _ _ => pts_yes) (fun _ _ _ _ _ => (pd_call O.g18 hr rfl T.m18 T.F18.kp T.b18 (pda_cons (pd_var 0) (pda_cons (pd_sub (pd_var 1) pd_int) pda_nil))))) pda_nil))) pda_nil))))
    pdb_nil) pdb_nil)
    (pdb_cons (pds_set 3 nd (pd_call O.g18 hr rfl T.m18 T.F18.kp T.b18 (pda_cons (pd_var 0) (pda_cons (pd_sub (pd_var 1) pd_int) pda_nil))))
    (pdb_cons (pds_ret (pd_tup (pda_cons pd_str (pda_cons (pd_tup (pda_cons (pd_tup (pda_cons pd_str (pda_cons (pd_call O.g16 hr rfl T.m16 T.F16.kp T.b16 (pda_cons (pd_var 0) (pda_cons (pd_lst (pda_cons pd_str (pda_cons pd_str (pda_cons pd_str (pda_cons pd_str (pda_cons pd_str (pda_cons pd_str (pda_cons pd_str pda_nil)))))))) pda_nil))) pda_nil))) (pda_cons (pd_var 3) (pda_cons (pd_call O.g18 hr rfl T.m18 T.F18.kp T.b18 (pda_cons (pd_var 0) (pda_cons (pd_sub (pd_var 1) pd_int) pda_nil))) pda_nil)))) pda_nil))))
    pdb_nil))))))
theorem ok19 (T : Facts K mg) {n : Nat} (O : OkAll P w base T n) : FnOk P w K mg base CX0 (n + 1) T.a19 T.fd19 ["word"] (spF K 1 (fns T.cl (n + 1) 19)) := by
  refine fn_ok (fm := b19 T.cl (fns T.cl n)) T.F19 sc19 fun cdv A outer s H E hr => ?_
  have nd := sc19.nd
  exact (pdb_cons (pds_ret (pd_dget2 (hu_of hr) (pd_disp (pdp_cons pd_str pd_int (pdp_cons pd_str pd_int (pdp_cons pd_str pd_int (pdp_cons pd_str pd_int (pdp_cons pd_str pd_int pdp_nil)))))) (pd_var 0) pd_int ⟨rfl, rfl, rfl, rfl⟩))
    pdb_nil)
theorem ok20 (T : Facts K mg) {n : Nat} (O : OkAll P w base T n) : FnOk P w K mg base CX0 (n + 1) T.a20 T.fd20 ["w", "datum", "least"] (spF K 3 (fns T.cl (n + 1) 20)) := by
  refine fn_ok (fm := b20 T.cl (fns T.cl n)) T.F20 sc20 fun cdv A outer s H E hr => ?_
  have nd := sc20.nd
  exact (pdb_cons (pds_set 3 nd (pd_if (pdt_val (pd_dget (hu_of hr) (pd_var 0) pd_str)) (pd_call O.g16 hr rfl T.m16 T.F16.kp T.b16 (pda_cons (pd_var 0) (pda_cons (pd_lst (pda_cons pd_str (pda_cons pd_str (pda_cons pd_str pda_nil)))) pda_nil))) pd_str))
    (pdb_cons (pds_if (pdt_cmp (op_neD hr.units) g_ne (pd_at (pd_var 1) pd_int) pd_str (nomark _)) (pdb_cons (pds_par rfl nd (i := 4) (j := 5) rfl rfl (by decide) (by kernel_rfl) (by kernel_rfl) (pda_cons (pd_callTy cr_strS g_strS rfl T.z_str boot_str' (pda_cons (pd_at (pd_var 1) pd_int) pda_nil)) (pda_cons pd_int pda_nil)) (by kernel_rfl) (by kernel_rfl))
    pdb_nil) (pdb_cons (pds_if (pdt_cmp op_lt g_lt (pd_call O.g19 hr rfl T.m19 T.F19.kp T.b19 (pda_cons (pd_at (pd_at (pd_at (pd_var 1) pd_int) pd_int) pd_int) pda_nil)) pd_int (nomark _)) (pdb_cons (pds_set 5 nd (pd_call O.g19 hr rfl T.m19 T.F19.kp T.b19 (pda_cons (pd_at (pd_at (pd_at (pd_var 1) pd_int) pd_int) pd_int) pda_nil)))
    (pdb_cons (pds_set 6 nd (pd_call O.g20 hr rfl T.m20 T.F20.kp T.b20 (pda_cons (pd_var 0) (pda_cons (pd_at (pd_at (pd_var 1) pd_int) pd_int) (pda_cons (pd_var 5) pda_nil)))))
    (pdb_cons (pds_set 4 nd (pd_add (pd_add (pd_add (pd_add (pd_var 6) (pd_var 3)) (pd_at (pd_at (pd_at (pd_var 1) pd_int) pd_int) pd_int)) (pd_var 3)) (pd_call O.g20 hr rfl T.m20 T.F20.kp T.b20 (pda_cons (pd_var 0) (pda_cons (pd_at (pd_at (pd_var 1) pd_int) pd_int) (pda_cons (pd_add (pd_var 5) pd_int) pda_nil))))))
    pdb_nil))) (pdb_cons (pds_par rfl nd (i := 4) (j := 5) rfl rfl (by decide) (by kernel_rfl) (by kernel_rfl) (pda_cons (pd_add (pd_add (pd_add (pd_at (pd_at (pd_at (pd_var 1) pd_int) pd_int) pd_int) pd_str) (pd_join (pd_add pd_str (pd_var 3)) (pd_lc rfl nd (pdi_seq (pd_slice (pd_at (pd_var 1) pd_int) (pdo_some pd_int) pdo_none)) (own := [("item", 7)]) (blkOk_by (by kernel_rfl)) tg_n (by decide) (fun _ _ _ _ _ => (pg_name (i := 7) nd rfl (by first | exact Or.inl rfl | exact Or.inr rfl))) (fun _ _ _ _ _ => pts_yes) (fun _ _ _ _ _ => (pd_call O.g20 hr rfl T.m20 T.F20.kp T.b20 (pda_cons (pd_var 0) (pda_cons (pd_var 7) (pda_cons pd_int pda_nil)))))))) pd_str) (pda_cons pd_int pda_nil)) (by kernel_rfl) (by kernel_rfl))
    pdb_nil))
    pdb_nil))
    (pdb_cons (pds_ret (pd_if (pdt_w (pdw_or (pdt_cmp op_lt g_lt (pd_var 5) (pd_var 2) (nomark _)) (pdw_or1 (pdt_w (pdw_and (pdt_val (pd_dget (hu_of hr) (pd_var 0) pd_str)) (pdw_and (pdt_cmp (op_eqD hr.units) g_eq (pd_at (pd_var 1) pd_int) pd_str (nomark _)) (pdw_and1 (pdt_cmp (op_eqD hr.units) g_eq (pd_call O.g15 hr rfl T.m15 T.F15.kp T.b15 (pda_cons (pd_var 0) (pda_cons pd_int pda_nil))) pd_int (nomark _))))))))) (pd_add (pd_add pd_str (pd_var 4)) pd_str) (pd_var 4)))
    pdb_nil)))
theorem ok21 (T : Facts K mg) {n : Nat} (O : OkAll P w base T n) : FnOk P w K mg base CX0 (n + 1) T.a21 T.fd21 ["datum"] (spF K 1 (fns T.cl (n + 1) 21)) := by
  refine fn_ok (fm := b21 T.cl (fns T.cl n)) T.F21 sc21 fun cdv A outer s H E hr => ?_
  have nd := sc21.nd
  exact (pdb_cons (pds_if (pdt_cmp (op_neD hr.units) g_ne (pd_at (pd_var 0) pd_int) pd_str (nomark _)) (pdb_cons (pds_ret (pd_or (pd_cmp (op_eqD hr.units) g_eq (pd_at (pd_var 0) pd_int) pd_str (nomark _)) (pd_one (pd_and (pd_cmp op_in_str g_inS (pd_at (pd_at (pd_var 0) pd_int) pd_int) pd_str (by rfl)) (pd_one (pd_cmp (op_eqD hr.units) g_eq (pd_lc rfl nd (pdi_txt (pd_at (pd_var 0) pd_int)) (own := [("sign", 3)]) (blkOk_by (by kernel_rfl)) tg_n (by decide) (fun _ _ _ _ _ => (pg_name (i := 3) nd rfl (by first | exact Or.inl rfl | exact Or.inr rfl))) (fun _ _ _ _ _ => pts_c (pdt_cmp op_notin_str g_notInS (pd_var 3) pd_str (by rfl))) (fun _ _ _ _ _ => (pd_var 3))) (pd_lst pda_nil) (nomark _)))))))
    pdb_nil) pdb_nil)
    (pdb_cons (pds_set 1 nd (pd_at (pd_var 0) pd_int))
    (pdb_cons (pds_if (pdt_w (pdw_and (pdt_cmp (op_eqD hr.units) g_eq (pd_callB (call_len.or call_lenR) g_len rfl T.z_len PySem.boot_len (pda_cons (pd_var 1) pda_nil)) pd_int (nomark _)) (pdw_and (pdt_cmp (op_eqD hr.units) g_eq (pd_at (pd_at (pd_var 1) pd_int) pd_int) pd_str (nomark _)) (pdw_and1 (pdt_cmp op_lt g_lt (pd_call O.g19 hr rfl T.m19 T.F19.kp T.b19 (pda_cons (pd_at (pd_at (pd_var 1) pd_int) pd_int) pda_nil)) pd_int (nomark _)))))) (pdb_cons (pds_ret (pd_and (pd_call O.g21 hr rfl T.m21 T.F21.kp T.b21 (pda_cons (pd_at (pd_var 1) pd_int) pda_nil)) (pd_one (pd_call O.g21 hr rfl T.m21 T.F21.kp T.b21 (pda_cons (pd_at (pd_var 1) pd_int) pda_nil)))))
    pdb_nil) pdb_nil)
    (pdb_cons (pds_ret (pd_and (pd_cmp (op_neD hr.units) g_ne (pd_var 1) (pd_tup pda_nil) (nomark _)) (pd_and (pd_cmp (op_eqD hr.units) g_eq (pd_at (pd_at (pd_var 1) pd_int) pd_int) pd_str (nomark _)) (pd_one (pd_cmp (op_eqD hr.units) g_eq (pd_lc rfl nd (pdi_seq (pd_var 1)) (own := [("item", 2)]) (blkOk_by (by kernel_rfl)) tg_n (by decide) (fun _ _ _ _ _ => (pg_name (i := 2) nd rfl (by first | exact Or.inl rfl | exact Or.inr rfl))) (fun _ _ _ _ _ => pts_c (pdt_not (pdt_val (pd_call O.g21 hr rfl T.m21 T.F21.kp T.b21 (pda_cons (pd_var 2) pda_nil))))) (fun _ _ _ _ _ => (pd_var 2))) (pd_lst pda_nil) (nomark _))))))
    pdb_nil))))
theorem ok22 (T : Facts K mg) {n : Nat} (O : OkAll P w base T n) : FnOk P w K mg base CX0 (n + 1) T.a22 T.fd22 ["w", "datum"] (spF K 2 (fns T.cl (n + 1) 22)) := by
  refine fn_ok (fm := b22 T.cl (fns T.cl n)) T.F22 sc22 fun cdv A outer s H E hr => ?_
  have nd := sc22.nd
  exact (pdb_cons (pds_if (pdt_w (pdw_and (pdt_cmp (op_eqD hr.units) g_eq (pd_at (pd_var 1) pd_int) pd_str (nomark _)) (pdw_and (pdt_cmp (op_neD hr.units) g_ne (pd_at (pd_var 1) pd_int) (pd_tup pda_nil) (nomark _)) (pdw_and1 (pdt_cmp op_gt g_gt (pd_call O.g15 hr rfl T.m15 T.F15.kp T.b15 (pda_cons (pd_var 0) (pda_cons pd_int pda_nil))) pd_int (nomark _)))))) (pdb_cons (pds_set 2 nd (pd_call O.g15 hr rfl T.m15 T.F15.kp T.b15 (pda_cons (pd_var 0) (pda_cons (pd_callB (call_len.or call_lenR) g_len rfl T.z_len PySem.boot_len (pda_cons (pd_at (pd_var 1) pd_int) pda_nil)) pda_nil))))
    (pdb_cons (pds_ret (pd_tup (pda_cons pd_str (pda_cons (pd_add (pd_add (pd_slice (pd_at (pd_var 1) pd_int) pdo_none (pdo_some (pd_var 2))) (pd_tup (pda_cons (pd_call O.g22 hr rfl T.m22 T.F22.kp T.b22 (pda_cons (pd_var 0) (pda_cons (pd_at (pd_at (pd_var 1) pd_int) (pd_var 2)) pda_nil))) pda_nil))) (pd_slice (pd_at (pd_var 1) pd_int) (pdo_some (pd_add (pd_var 2) pd_int)) pdo_none)) pda_nil))))
    pdb_nil)) pdb_nil)
    (pdb_cons (pds_ret (pd_call O.g16 hr rfl T.m16 T.F16.kp T.b16 (pda_cons (pd_var 0) (pda_cons (pd_lst (pda_cons (pd_tup (pda_cons pd_str (pda_cons (pd_tup pda_nil) pda_nil))) (pda_cons (pd_tup (pda_cons pd_str (pda_cons pd_str pda_nil))) (pda_cons (pd_tup (pda_cons pd_str (pda_cons pd_str pda_nil))) (pda_cons (pd_tup (pda_cons pd_str (pda_cons (pd_tup (pda_cons (pd_tup (pda_cons pd_str (pda_cons pd_int pda_nil))) pda_nil)) pda_nil))) (pda_cons (pd_tup (pda_cons pd_str (pda_cons (pd_tup (pda_cons (pd_tup (pda_cons pd_str (pda_cons pd_str pda_nil))) (pda_cons (pd_tup (pda_cons pd_str (pda_cons pd_int pda_nil))) pda_nil))) pda_nil))) (pda_cons (pd_tup (pda_cons pd_str (pda_cons (pd_tup (pda_cons (pd_var 1) (pda_cons (pd_var 1) pda_nil))) pda_nil))) (pda_cons (pd_tup (pda_cons pd_str (pda_cons pd_str pda_nil))) (pda_cons (pd_tup (pda_cons pd_str (pda_cons pd_str pda_nil))) (pda_cons (pd_tup (pda_cons pd_str (pda_cons pd_int pda_nil))) (pda_cons (pd_tup (pda_cons pd_str (pda_cons pd_str pda_nil))) pda_nil))))))))))) pda_nil))))
    pdb_nil))
theorem ok23 (T : Facts K mg) {n : Nat} (O : OkAll P w base T n) : FnOk P w K mg base CX0 (n + 1) T.a23 T.fd23 ["script"] (spF K 1 (fns T.cl (n + 1) 23)) := by
  refine fn_ok (fm := b23 T.cl (fns T.cl n)) T.F23 sc23 fun cdv A outer s H E hr => ?_
  have nd := sc23.nd
  exact (pdb_cons (pds_set 1 nd (pd_disp (pdp_cons pd_str (pd_call O.g14 hr rfl T.m14 T.F14.kp T.b14 (pda_cons (pd_var 0) (pda_cons pd_int pda_nil))) (pdp_cons pd_str pd_int (pdp_cons pd_str pd_bl pdp_nil)))))
    (pdb_cons (pds_for PassesOwn.never rfl (pdi_range1 rfl T.z_range (pda_cons pd_int pda_nil)) (pg_name (i := 2) nd rfl (by first | exact Or.inl rfl | exact Or.inr rfl)) tg_n (pdb_cons (pds_set 3 nd (pd_call O.g18 hr rfl T.m18 T.F18.kp T.b18 (pda_cons (pd_var 1) (pda_cons pd_int pda_nil))))
    (pdb_cons (pds_dput (hu_of hr) (pd_var 1) pd_str pd_bl)
    (pdb_cons (pds_if (pdt_w (pdw_or (pdt_not (pdt_val (pd_call O.g17 hr rfl T.m17 T.F17.kp T.b17 (pda_cons (pd_call O.g13 hr rfl T.m13 T.F13.kp T.b13 (pda_cons (pd_var 3) pda_nil)) (pda_cons (pd_call O.g20 hr rfl T.m20 T.F20.kp T.b20 (pda_cons (pd_var 1) (pda_cons (pd_var 3) (pda_cons pd_int pda_nil)))) pda_nil))))) (pdw_or1 (pdt_not (pdt_val (pd_call O.g17 hr rfl T.m17 T.F17.kp T.b17 (pda_cons (pd_call O.g8 hr rfl T.m8 T.F8.kp T.b8 (pda_cons (pd_call O.g13 hr rfl T.m13 T.F13.kp T.b13 (pda_cons (pd_var 3) pda_nil)) pda_nil)) (pda_cons (pd_var 3) pda_nil)))))))) (pdb_cons (pds_ret pd_bl)
    pdb_nil) pdb_nil)
    (pdb_cons (pds_dput (hu_of hr) (pd_var 1) pd_str pd_bl)
    (pdb_cons (pds_if (pdt_not (pdt_val (pd_call O.g17 hr rfl T.m17 T.F17.kp T.b17 (pda_cons (pd_call O.g8 hr rfl T.m8 T.F8.kp T.b8 (pda_cons (pd_add (pd_add (pd_call O.g16 hr rfl T.m16 T.F16.kp T.b16 (pda_cons (pd_var 1) (pda_cons (pd_lst (pda_cons pd_str (pda_cons pd_str pda_nil))) pda_nil))) (pd_call O.g20 hr rfl T.m20 T.F20.kp T.b20 (pda_cons (pd_var 1) (pda_cons (pd_var 3) (pda_cons pd_int pda_nil))))) (pd_call O.g16 hr rfl T.m16 T.F16.kp T.b16 (pda_cons (pd_var 1) (pda_cons (pd_lst (pda_cons pd_str (pda_cons pd_str pda_nil))) pda_nil)))) pda_nil)) (pda_cons (pd_var 3) pda_nil))))) (pdb_cons (pds_ret pd_bl)
    pdb_nil) pdb_nil)
    (pdb_cons (pds_set 4 nd (pd_var 3))
    (pdb_cons (pds_for PassesOwn.never rfl (pdi_range1 rfl T.z_range (pda_cons pd_int pda_nil)) (pg_name (i := 5) nd rfl (by first | exact Or.inl rfl | exact Or.inr rfl)) tg_n (pdb_cons (pds_if (pdt_not (pdt_val (pd_call O.g17 hr rfl T.m17 T.F17.kp T.b17 (pda_cons (pd_call O.g11 hr rfl T.m11 T.F11.kp T.b11 (pda_cons (pd_var 4) pda_nil)) (pda_cons (pd_call O.g21 hr rfl T.m21 T.F21.kp T.b21 (pda_cons (pd_var 4) pda_nil)) pda_nil))))) (pdb_cons (pds_ret pd_bl)
    pdb_nil) pdb_nil)
    (pdb_cons (pds_set 4 nd (pd_call O.g22 hr rfl T.m22 T.F22.kp T.b22 (pda_cons (pd_var 1) (pda_cons (pd_var 3) pda_nil))))
    pdb_nil)))
    pdb_nil))))))))
    (pdb_cons (pds_ret (pd_and (pd_call O.g17 hr rfl T.m17 T.F17.kp T.b17 (pda_cons (pd_call O.g8 hr rfl T.m8 T.F8.kp T.b8 (pda_cons pd_str pda_nil)) (pda_cons (pd_tup (pda_cons pd_str (pda_cons (pd_tup (pda_cons (pd_tup (pda_cons pd_str (pda_cons pd_str pda_nil))) (pda_cons (pd_tup (pda_cons pd_str (pda_cons pd_str pda_nil))) (pda_cons (pd_tup (pda_cons pd_str (pda_cons pd_int pda_nil))) pda_nil)))) pda_nil))) pda_nil))) (pd_one (pd_call O.g17 hr rfl T.m17 T.F17.kp T.b17 (pda_cons (pd_call O.g8 hr rfl T.m8 T.F8.kp T.b8 (pda_cons pd_str pda_nil)) (pda_cons (pd_tup (pda_cons pd_str (pda_cons (pd_tup (pda_cons (pd_tup (pda_cons pd_str (pda_cons pd_str pda_nil))) (pda_cons (pd_tup (pda_cons pd_str (pda_cons pd_str pda_nil))) (pda_cons (pd_tup (pda_cons pd_str (pda_cons (pd_neg pd_int) pda_nil))) pda_nil)))) pda_nil))) pda_nil))))))
    pdb_nil)))
theorem okAll (T : Facts K mg) : ∀ n, OkAll P w base T n
  | 0 => ⟨fn_zero, fn_zero, fn_zero, fn_zero, fn_zero, fn_zero, fn_zero, fn_zero, fn_zero, fn_zero, fn_zero, fn_zero, fn_zero, fn_zero, fn_zero, fn_zero, fn_zero, fn_zero, fn_zero, fn_zero, fn_zero, fn_zero, fn_zero, fn_zero, trivial⟩
  | n + 1 => have O := okAll T n
    ⟨ok0 T O, ok1 T O, ok2 T O, ok3 T O, ok4 T O, ok5 T O, ok6 T O, ok7 T O, ok8 T O, ok9 T O, ok10 T O, ok11 T O, ok12 T O, ok13 T O, ok14 T O, ok15 T O, ok16 T O, ok17 T O, ok18 T O, ok19 T O, ok20 T O, ok21 T O, ok22 T O, ok23 T O, O.g0⟩
end
set_option maxHeartbeats 0 in
theorem all_mk {l : PySem.W.OpenLaw} {w : World} {K : PySem.W.Frag} {h : Heap} {mg : Str → Option Value} {fa : Addr} (X : K.In h) (G : h.Ns mainGlobals mg) (hfa : mg "law" = some (.ref fa)) {f0 f1 f2 f3 f4 f5 f6 f7 f8 f9 f10 f11 f12 f13 f14 f15 f16 f17 f18 f19 f20 f21 f22 f23 C0 : Addr}
    (aC0 : PySem.W.nsIn K mainGlobals "SumReader" = some (some (.ref C0))) (pg0 : PySem.W.plainGet K C0 Str.empty = true) (hd0 : PySem.W.hasDictIn K C0 = true) (po0 : PySem.W.plainOver K C0 = true) (sa0 : PySem.W.findIn K (.ref C0) "__setattr__" = some (some (.builtin "object.__setattr__"))) (mk0 : PySem.W.makesIn K C0 = true) (kc0 : PySem.W.keepIn K (.ref C0) = true)
    (nA0_at : PySem.W.findIn K (.ref C0) "at" = some none)
    (nA0_text : PySem.W.findIn K (.ref C0) "text" = some none)
    {od0 an0 : Option Addr} {sl0 : Array (Option Value)} {oc0 kV0 dc0 pm0 cd0 ct0 : Value} (A0 : PySem.W.findIn K (.ref C0) "__init__" = some (some (.ref f0))) (i0 : PySem.W.isFn K (.ref f0) = true) (l0 : K.lookup f0 = some ⟨oc0, od0, .func (PySem.W.fnOf "__init__" "SumReader.__init__" (defArgs s0) (defBody s0) (defScope s0) .none kV0 dc0 pm0 an0 cd0 ct0), sl0⟩) (c0 : PySem.W.codeIn K cd0 "SumReader.__init__" = true) (k0 : PySem.W.keepIn K (.ref f0) = true)
    {od1 an1 : Option Addr} {sl1 : Array (Option Value)} {oc1 kV1 dc1 pm1 cd1 ct1 : Value} (A1 : PySem.W.findIn K (.ref C0) "skip" = some (some (.ref f1))) (i1 : PySem.W.isFn K (.ref f1) = true) (l1 : K.lookup f1 = some ⟨oc1, od1, .func (PySem.W.fnOf "skip" "SumReader.skip" (defArgs s1) (defBody s1) (defScope s1) .none kV1 dc1 pm1 an1 cd1 ct1), sl1⟩) (c1 : PySem.W.codeIn K cd1 "SumReader.skip" = true) (k1 : PySem.W.keepIn K (.ref f1) = true)
    {od2 an2 : Option Addr} {sl2 : Array (Option Value)} {oc2 kV2 dc2 pm2 cd2 ct2 : Value} (A2 : PySem.W.findIn K (.ref C0) "sign" = some (some (.ref f2))) (i2 : PySem.W.isFn K (.ref f2) = true) (l2 : K.lookup f2 = some ⟨oc2, od2, .func (PySem.W.fnOf "sign" "SumReader.sign" (defArgs s2) (defBody s2) (defScope s2) .none kV2 dc2 pm2 an2 cd2 ct2), sl2⟩) (c2 : PySem.W.codeIn K cd2 "SumReader.sign" = true) (k2 : PySem.W.keepIn K (.ref f2) = true)
    {od3 an3 : Option Addr} {sl3 : Array (Option Value)} {oc3 kV3 dc3 pm3 cd3 ct3 : Value} (A3 : PySem.W.findIn K (.ref C0) "need" = some (some (.ref f3))) (i3 : PySem.W.isFn K (.ref f3) = true) (l3 : K.lookup f3 = some ⟨oc3, od3, .func (PySem.W.fnOf "need" "SumReader.need" (defArgs s3) (defBody s3) (defScope s3) .none kV3 dc3 pm3 an3 cd3 ct3), sl3⟩) (c3 : PySem.W.codeIn K cd3 "SumReader.need" = true) (k3 : PySem.W.keepIn K (.ref f3) = true)
    {od4 an4 : Option Addr} {sl4 : Array (Option Value)} {oc4 kV4 dc4 pm4 cd4 ct4 : Value} (A4 : PySem.W.findIn K (.ref C0) "sum_at" = some (some (.ref f4))) (i4 : PySem.W.isFn K (.ref f4) = true) (l4 : K.lookup f4 = some ⟨oc4, od4, .func (PySem.W.fnOf "sum_at" "SumReader.sum_at" (defArgs s4) (defBody s4) (defScope s4) .none kV4 dc4 pm4 an4 cd4 ct4), sl4⟩) (c4 : PySem.W.codeIn K cd4 "SumReader.sum_at" = true) (k4 : PySem.W.keepIn K (.ref f4) = true)
    {od5 an5 : Option Addr} {sl5 : Array (Option Value)} {oc5 kV5 dc5 pm5 cd5 ct5 : Value} (A5 : PySem.W.findIn K (.ref C0) "digits" = some (some (.ref f5))) (i5 : PySem.W.isFn K (.ref f5) = true) (l5 : K.lookup f5 = some ⟨oc5, od5, .func (PySem.W.fnOf "digits" "SumReader.digits" (defArgs s5) (defBody s5) (defScope s5) .none kV5 dc5 pm5 an5 cd5 ct5), sl5⟩) (c5 : PySem.W.codeIn K cd5 "SumReader.digits" = true) (k5 : PySem.W.keepIn K (.ref f5) = true)
    {od6 an6 : Option Addr} {sl6 : Array (Option Value)} {oc6 kV6 dc6 pm6 cd6 ct6 : Value} (A6 : PySem.W.findIn K (.ref C0) "single" = some (some (.ref f6))) (i6 : PySem.W.isFn K (.ref f6) = true) (l6 : K.lookup f6 = some ⟨oc6, od6, .func (PySem.W.fnOf "single" "SumReader.single" (defArgs s6) (defBody s6) (defScope s6) .none kV6 dc6 pm6 an6 cd6 ct6), sl6⟩) (c6 : PySem.W.codeIn K cd6 "SumReader.single" = true) (k6 : PySem.W.keepIn K (.ref f6) = true)
    {od7 an7 : Option Addr} {sl7 : Array (Option Value)} {oc7 kV7 dc7 pm7 cd7 ct7 : Value} (A7 : PySem.W.findIn K (.ref C0) "read_word" = some (some (.ref f7))) (i7 : PySem.W.isFn K (.ref f7) = true) (l7 : K.lookup f7 = some ⟨oc7, od7, .func (PySem.W.fnOf "read_word" "SumReader.read_word" (defArgs s7) (defBody s7) (defScope s7) .none kV7 dc7 pm7 an7 cd7 ct7), sl7⟩) (c7 : PySem.W.codeIn K cd7 "SumReader.read_word" = true) (k7 : PySem.W.keepIn K (.ref f7) = true)
    {od8 an8 : Option Addr} {sl8 : Array (Option Value)} {oc8 kV8 dc8 pm8 cd8 ct8 : Value} (A8 : PySem.W.nsIn K mainGlobals "read_sums" = some (some (.ref f8))) (l8 : K.lookup f8 = some ⟨oc8, od8, .func (PySem.W.fnOf "read_sums" "read_sums" (defArgs s8) (defBody s8) (defScope s8) .none kV8 dc8 pm8 an8 cd8 ct8), sl8⟩) (c8 : PySem.W.codeIn K cd8 "read_sums" = true) (k8 : PySem.W.keepIn K (.ref f8) = true)
    {od9 an9 : Option Addr} {sl9 : Array (Option Value)} {oc9 kV9 dc9 pm9 cd9 ct9 : Value} (A9 : PySem.W.nsIn K mainGlobals "level_of" = some (some (.ref f9))) (l9 : K.lookup f9 = some ⟨oc9, od9, .func (PySem.W.fnOf "level_of" "level_of" (defArgs s9) (defBody s9) (defScope s9) .none kV9 dc9 pm9 an9 cd9 ct9), sl9⟩) (c9 : PySem.W.codeIn K cd9 "level_of" = true) (k9 : PySem.W.keepIn K (.ref f9) = true)
    {od10 an10 : Option Addr} {sl10 : Array (Option Value)} {oc10 kV10 dc10 pm10 cd10 ct10 : Value} (A10 : PySem.W.nsIn K mainGlobals "is_letters" = some (some (.ref f10))) (l10 : K.lookup f10 = some ⟨oc10, od10, .func (PySem.W.fnOf "is_letters" "is_letters" (defArgs s10) (defBody s10) (defScope s10) .none kV10 dc10 pm10 an10 cd10 ct10), sl10⟩) (c10 : PySem.W.codeIn K cd10 "is_letters" = true) (k10 : PySem.W.keepIn K (.ref f10) = true)
    {od11 an11 : Option Addr} {sl11 : Array (Option Value)} {oc11 kV11 dc11 pm11 cd11 ct11 : Value} (A11 : PySem.W.nsIn K mainGlobals "is_sums" = some (some (.ref f11))) (l11 : K.lookup f11 = some ⟨oc11, od11, .func (PySem.W.fnOf "is_sums" "is_sums" (defArgs s11) (defBody s11) (defScope s11) .none kV11 dc11 pm11 an11 cd11 ct11), sl11⟩) (c11 : PySem.W.codeIn K cd11 "is_sums" = true) (k11 : PySem.W.keepIn K (.ref f11) = true)
    {od12 an12 : Option Addr} {sl12 : Array (Option Value)} {oc12 kV12 dc12 pm12 cd12 ct12 : Value} (A12 : PySem.W.nsIn K mainGlobals "print_at" = some (some (.ref f12))) (l12 : K.lookup f12 = some ⟨oc12, od12, .func (PySem.W.fnOf "print_at" "print_at" (defArgs s12) (defBody s12) (defScope s12) .none kV12 dc12 pm12 an12 cd12 ct12), sl12⟩) (c12 : PySem.W.codeIn K cd12 "print_at" = true) (k12 : PySem.W.keepIn K (.ref f12) = true)
    {od13 an13 : Option Addr} {sl13 : Array (Option Value)} {oc13 kV13 dc13 pm13 cd13 ct13 : Value} (A13 : PySem.W.nsIn K mainGlobals "print_sums" = some (some (.ref f13))) (l13 : K.lookup f13 = some ⟨oc13, od13, .func (PySem.W.fnOf "print_sums" "print_sums" (defArgs s13) (defBody s13) (defScope s13) .none kV13 dc13 pm13 an13 cd13 ct13), sl13⟩) (c13 : PySem.W.codeIn K cd13 "print_sums" = true) (k13 : PySem.W.keepIn K (.ref f13) = true)
    {od14 an14 : Option Addr} {sl14 : Array (Option Value)} {oc14 kV14 dc14 pm14 cd14 ct14 : Value} (A14 : PySem.W.nsIn K mainGlobals "_law_draws" = some (some (.ref f14))) (l14 : K.lookup f14 = some ⟨oc14, od14, .func (PySem.W.fnOf "_law_draws" "_law_draws" (defArgs s14) (defBody s14) (defScope s14) .none kV14 dc14 pm14 an14 cd14 ct14), sl14⟩) (c14 : PySem.W.codeIn K cd14 "_law_draws" = true) (k14 : PySem.W.keepIn K (.ref f14) = true)
    {od15 an15 : Option Addr} {sl15 : Array (Option Value)} {oc15 kV15 dc15 pm15 cd15 ct15 : Value} (A15 : PySem.W.nsIn K mainGlobals "_law_next" = some (some (.ref f15))) (l15 : K.lookup f15 = some ⟨oc15, od15, .func (PySem.W.fnOf "_law_next" "_law_next" (defArgs s15) (defBody s15) (defScope s15) .none kV15 dc15 pm15 an15 cd15 ct15), sl15⟩) (c15 : PySem.W.codeIn K cd15 "_law_next" = true) (k15 : PySem.W.keepIn K (.ref f15) = true)
    {od16 an16 : Option Addr} {sl16 : Array (Option Value)} {oc16 kV16 dc16 pm16 cd16 ct16 : Value} (A16 : PySem.W.nsIn K mainGlobals "_law_pick" = some (some (.ref f16))) (l16 : K.lookup f16 = some ⟨oc16, od16, .func (PySem.W.fnOf "_law_pick" "_law_pick" (defArgs s16) (defBody s16) (defScope s16) .none kV16 dc16 pm16 an16 cd16 ct16), sl16⟩) (c16 : PySem.W.codeIn K cd16 "_law_pick" = true) (k16 : PySem.W.keepIn K (.ref f16) = true)
    {od17 an17 : Option Addr} {sl17 : Array (Option Value)} {oc17 kV17 dc17 pm17 cd17 ct17 : Value} (A17 : PySem.W.nsIn K mainGlobals "_law_alike" = some (some (.ref f17))) (l17 : K.lookup f17 = some ⟨oc17, od17, .func (PySem.W.fnOf "_law_alike" "_law_alike" (defArgs s17) (defBody s17) (defScope s17) .none kV17 dc17 pm17 an17 cd17 ct17), sl17⟩) (c17 : PySem.W.codeIn K cd17 "_law_alike" = true) (k17 : PySem.W.keepIn K (.ref f17) = true)
    {od18 an18 : Option Addr} {sl18 : Array (Option Value)} {oc18 kV18 dc18 pm18 cd18 ct18 : Value} (A18 : PySem.W.nsIn K mainGlobals "_law_sum" = some (some (.ref f18))) (l18 : K.lookup f18 = some ⟨oc18, od18, .func (PySem.W.fnOf "_law_sum" "_law_sum" (defArgs s18) (defBody s18) (defScope s18) .none kV18 dc18 pm18 an18 cd18 ct18), sl18⟩) (c18 : PySem.W.codeIn K cd18 "_law_sum" = true) (k18 : PySem.W.keepIn K (.ref f18) = true)
    {od19 an19 : Option Addr} {sl19 : Array (Option Value)} {oc19 kV19 dc19 pm19 cd19 ct19 : Value} (A19 : PySem.W.nsIn K mainGlobals "_law_level" = some (some (.ref f19))) (l19 : K.lookup f19 = some ⟨oc19, od19, .func (PySem.W.fnOf "_law_level" "_law_level" (defArgs s19) (defBody s19) (defScope s19) .none kV19 dc19 pm19 an19 cd19 ct19), sl19⟩) (c19 : PySem.W.codeIn K cd19 "_law_level" = true) (k19 : PySem.W.keepIn K (.ref f19) = true)
    {od20 an20 : Option Addr} {sl20 : Array (Option Value)} {oc20 kV20 dc20 pm20 cd20 ct20 : Value} (A20 : PySem.W.nsIn K mainGlobals "_law_text" = some (some (.ref f20))) (l20 : K.lookup f20 = some ⟨oc20, od20, .func (PySem.W.fnOf "_law_text" "_law_text" (defArgs s20) (defBody s20) (defScope s20) .none kV20 dc20 pm20 an20 cd20 ct20), sl20⟩) (c20 : PySem.W.codeIn K cd20 "_law_text" = true) (k20 : PySem.W.keepIn K (.ref f20) = true)
    {od21 an21 : Option Addr} {sl21 : Array (Option Value)} {oc21 kV21 dc21 pm21 cd21 ct21 : Value} (A21 : PySem.W.nsIn K mainGlobals "_law_is_sums" = some (some (.ref f21))) (l21 : K.lookup f21 = some ⟨oc21, od21, .func (PySem.W.fnOf "_law_is_sums" "_law_is_sums" (defArgs s21) (defBody s21) (defScope s21) .none kV21 dc21 pm21 an21 cd21 ct21), sl21⟩) (c21 : PySem.W.codeIn K cd21 "_law_is_sums" = true) (k21 : PySem.W.keepIn K (.ref f21) = true)
    {od22 an22 : Option Addr} {sl22 : Array (Option Value)} {oc22 kV22 dc22 pm22 cd22 ct22 : Value} (A22 : PySem.W.nsIn K mainGlobals "_law_bent" = some (some (.ref f22))) (l22 : K.lookup f22 = some ⟨oc22, od22, .func (PySem.W.fnOf "_law_bent" "_law_bent" (defArgs s22) (defBody s22) (defScope s22) .none kV22 dc22 pm22 an22 cd22 ct22), sl22⟩) (c22 : PySem.W.codeIn K cd22 "_law_bent" = true) (k22 : PySem.W.keepIn K (.ref f22) = true)
    {od23 an23 : Option Addr} {sl23 : Array (Option Value)} {oc23 kV23 dc23 pm23 cd23 ct23 : Value} (A23 : PySem.W.nsIn K mainGlobals "law" = some (some (.ref f23))) (l23 : K.lookup f23 = some ⟨oc23, od23, .func (PySem.W.fnOf "law" "law" (defArgs s23) (defBody s23) (defScope s23) .none kV23 dc23 pm23 an23 cd23 ct23), sl23⟩) (c23 : PySem.W.codeIn K cd23 "law" = true) (k23 : PySem.W.keepIn K (.ref f23) = true)
    (z_len : PySem.W.nsIn K mainGlobals "len" = some none)
    (z_int : PySem.W.nsIn K mainGlobals "int" = some none)
    (z_tuple : PySem.W.nsIn K mainGlobals "tuple" = some none)
    (z_range : PySem.W.nsIn K mainGlobals "range" = some none)
    (z_all : PySem.W.nsIn K mainGlobals "all" = some none)
    (z_str : PySem.W.nsIn K mainGlobals "str" = some none)
    (z_abs : PySem.W.nsIn K mainGlobals "abs" = some none)
    (z_isinstance : PySem.W.nsIn K mainGlobals "isinstance" = some none)
    (z_bool : PySem.W.nsIn K mainGlobals "bool" = some none)
    {k_LEVELS : Addr} {o_LEVELS : Obj} {its_LEVELS : Array Value} {n_LEVELS : Nat} {r0_LEVELS : Addr} {o0_LEVELS : Obj} {its0_LEVELS : Array Value} {n0_LEVELS : Nat} {r1_LEVELS : Addr} {o1_LEVELS : Obj} {its1_LEVELS : Array Value} {n1_LEVELS : Nat} {r2_LEVELS : Addr} {o2_LEVELS : Obj} {its2_LEVELS : Array Value} {n2_LEVELS : Nat}
    (c_LEVELS : PySem.W.nsIn K mainGlobals "LEVELS" = some (some (.ref k_LEVELS))) (d_LEVELS : K.lookup k_LEVELS = some o_LEVELS) (e_LEVELS : WrTupT o_LEVELS its_LEVELS n_LEVELS [(r0_LEVELS, [.str ("<" : Str), .str ("=" : Str)]), (r1_LEVELS, [.str ("+" : Str), .str ("-" : Str)]), (r2_LEVELS, [.str ("*" : Str)])])
    (d0_LEVELS : K.lookup r0_LEVELS = some o0_LEVELS) (e0_LEVELS : WrTup o0_LEVELS its0_LEVELS n0_LEVELS [.str ("<" : Str), .str ("=" : Str)])
    (d1_LEVELS : K.lookup r1_LEVELS = some o1_LEVELS) (e1_LEVELS : WrTup o1_LEVELS its1_LEVELS n1_LEVELS [.str ("+" : Str), .str ("-" : Str)])
    (d2_LEVELS : K.lookup r2_LEVELS = some o2_LEVELS) (e2_LEVELS : WrTup o2_LEVELS its2_LEVELS n2_LEVELS [.str ("*" : Str)])
    {t_DIGITS : Tok} (c_DIGITS : PySem.W.nsIn K mainGlobals "DIGITS" = some (some (.str ("0123456789" : Str) t_DIGITS)))
    {t_LETTERS : Tok} (c_LETTERS : PySem.W.nsIn K mainGlobals "LETTERS" = some (some (.str ("abcdefghijklmnopqrstuvwxyz" : Str) t_LETTERS)))
    (hL : ∀ (cl : Nat → Addr) (ns : List Int), ns.length ≤ 63 → ∃ m', fns cl 230 23 [.scr ns] [] = .ok (.bl true) m')
    : ∃ (fd : FuncData) (F0 : List D → Me → Res D), (∀ ns : List Int, ns.length ≤ 63 → ∃ m', F0 [.scr ns] [] = .ok (.bl true) m') ∧ (∀ (s : Shared) (v : Value), BindsTo s fd ⟨[v], []⟩ [("script", v)]) ∧ ∀ base : Heap, K.In base → base.Ns mainGlobals mg → FnOk l.prog w K mg base CX0 230 fa fd ["script"] (spF K 1 F0) := by
  have e := hfa.symm.trans (PySem.W.mg_of X G A23)
  cases e
  have F0 := fun_mk (st := s0) l0 c0 k0
  have F1 := fun_mk (st := s1) l1 c1 k1
  have F2 := fun_mk (st := s2) l2 c2 k2
  have F3 := fun_mk (st := s3) l3 c3 k3
  have F4 := fun_mk (st := s4) l4 c4 k4
  have F5 := fun_mk (st := s5) l5 c5 k5
  have F6 := fun_mk (st := s6) l6 c6 k6
  have F7 := fun_mk (st := s7) l7 c7 k7
  have F8 := fun_mk (st := s8) l8 c8 k8
  have F9 := fun_mk (st := s9) l9 c9 k9
  have F10 := fun_mk (st := s10) l10 c10 k10
  have F11 := fun_mk (st := s11) l11 c11 k11
  have F12 := fun_mk (st := s12) l12 c12 k12
  have F13 := fun_mk (st := s13) l13 c13 k13
  have F14 := fun_mk (st := s14) l14 c14 k14
  have F15 := fun_mk (st := s15) l15 c15 k15
  have F16 := fun_mk (st := s16) l16 c16 k16
  have F17 := fun_mk (st := s17) l17 c17 k17
  have F18 := fun_mk (st := s18) l18 c18 k18
  have F19 := fun_mk (st := s19) l19 c19 k19
  have F20 := fun_mk (st := s20) l20 c20 k20
  have F21 := fun_mk (st := s21) l21 c21 k21
  have F22 := fun_mk (st := s22) l22 c22 k22
  have F23 := fun_mk (st := s23) l23 c23 k23
  let T : Facts K mg := {
    a0 := f0, fd0 := _, F0 := F0, b0 := F0.binds fun _ _ _ _ _ _ us hl => match us, hl with | [_, _], _ => rfl
    a1 := f1, fd1 := _, F1 := F1, b1 := F1.binds fun _ _ _ _ _ _ us hl => match us, hl with | [_], _ => rfl
    a2 := f2, fd2 := _, F2 := F2, b2 := F2.binds fun _ _ _ _ _ _ us hl => match us, hl with | [_], _ => rfl
    a3 := f3, fd3 := _, F3 := F3, b3 := F3.binds fun _ _ _ _ _ _ us hl => match us, hl with | [_, _], _ => rfl
    a4 := f4, fd4 := _, F4 := F4, b4 := F4.binds fun _ _ _ _ _ _ us hl => match us, hl with | [_, _], _ => rfl
    a5 := f5, fd5 := _, F5 := F5, b5 := F5.binds fun _ _ _ _ _ _ us hl => match us, hl with | [_], _ => rfl
    a6 := f6, fd6 := _, F6 := F6, b6 := F6.binds fun _ _ _ _ _ _ us hl => match us, hl with | [_], _ => rfl
    a7 := f7, fd7 := _, F7 := F7, b7 := F7.binds fun _ _ _ _ _ _ us hl => match us, hl with | [_], _ => rfl
    a8 := f8, fd8 := _, F8 := F8, m8 := PySem.W.mg_of X G A8, b8 := F8.binds fun _ _ _ _ _ _ us hl => match us, hl with | [_], _ => rfl
    a9 := f9, fd9 := _, F9 := F9, m9 := PySem.W.mg_of X G A9, b9 := F9.binds fun _ _ _ _ _ _ us hl => match us, hl with | [_], _ => rfl
    a10 := f10, fd10 := _, F10 := F10, m10 := PySem.W.mg_of X G A10, b10 := F10.binds fun _ _ _ _ _ _ us hl => match us, hl with | [_], _ => rfl
    a11 := f11, fd11 := _, F11 := F11, m11 := PySem.W.mg_of X G A11, b11 := F11.binds fun _ _ _ _ _ _ us hl => match us, hl with | [_], _ => rfl
    a12 := f12, fd12 := _, F12 := F12, m12 := PySem.W.mg_of X G A12, b12 := F12.binds fun _ _ _ _ _ _ us hl => match us, hl with | [_, _], _ => rfl
    a13 := f13, fd13 := _, F13 := F13, m13 := PySem.W.mg_of X G A13, b13 := F13.binds fun _ _ _ _ _ _ us hl => match us, hl with | [_], _ => rfl
    a14 := f14, fd14 := _, F14 := F14, m14 := PySem.W.mg_of X G A14, b14 := F14.binds fun _ _ _ _ _ _ us hl => match us, hl with | [_, _], _ => rfl
    a15 := f15, fd15 := _, F15 := F15, m15 := PySem.W.mg_of X G A15, b15 := F15.binds fun _ _ _ _ _ _ us hl => match us, hl with | [_, _], _ => rfl
    a16 := f16, fd16 := _, F16 := F16, m16 := PySem.W.mg_of X G A16, b16 := F16.binds fun _ _ _ _ _ _ us hl => match us, hl with | [_, _], _ => rfl
    a17 := f17, fd17 := _, F17 := F17, m17 := PySem.W.mg_of X G A17, b17 := F17.binds fun _ _ _ _ _ _ us hl => match us, hl with | [_, _], _ => rfl
    a18 := f18, fd18 := _, F18 := F18, m18 := PySem.W.mg_of X G A18, b18 := F18.binds fun _ _ _ _ _ _ us hl => match us, hl with | [_, _], _ => rfl
    a19 := f19, fd19 := _, F19 := F19, m19 := PySem.W.mg_of X G A19, b19 := F19.binds fun _ _ _ _ _ _ us hl => match us, hl with | [_], _ => rfl
    a20 := f20, fd20 := _, F20 := F20, m20 := PySem.W.mg_of X G A20, b20 := F20.binds fun _ _ _ _ _ _ us hl => match us, hl with | [_, _, _], _ => rfl
    a21 := f21, fd21 := _, F21 := F21, m21 := PySem.W.mg_of X G A21, b21 := F21.binds fun _ _ _ _ _ _ us hl => match us, hl with | [_], _ => rfl
    a22 := f22, fd22 := _, F22 := F22, m22 := PySem.W.mg_of X G A22, b22 := F22.binds fun _ _ _ _ _ _ us hl => match us, hl with | [_, _], _ => rfl
    a23 := fa, fd23 := _, F23 := F23, m23 := PySem.W.mg_of X G A23, b23 := F23.binds fun _ _ _ _ _ _ us hl => match us, hl with | [_], _ => rfl
    C0 := C0, cls0 := ⟨pg0, hd0, po0, sa0⟩, mgC0 := PySem.W.mg_of X G aC0, mk0 := ⟨mk0, A0, i0, kc0⟩
    nA0_at := nA0_at
    nA0_text := nA0_text
    me1 := ⟨A1, i1, k1⟩
    me2 := ⟨A2, i2, k2⟩
    me3 := ⟨A3, i3, k3⟩
    me4 := ⟨A4, i4, k4⟩
    me5 := ⟨A5, i5, k5⟩
    me6 := ⟨A6, i6, k6⟩
    me7 := ⟨A7, i7, k7⟩
    z_len := PySem.W.mg_none_of X G z_len
    z_int := PySem.W.mg_none_of X G z_int
    z_tuple := PySem.W.mg_none_of X G z_tuple
    z_range := PySem.W.mg_none_of X G z_range
    z_all := PySem.W.mg_none_of X G z_all
    z_str := PySem.W.mg_none_of X G z_str
    z_abs := PySem.W.mg_none_of X G z_abs
    z_isinstance := PySem.W.mg_none_of X G z_isinstance
    z_bool := PySem.W.mg_none_of X G z_bool
    c_LEVELS := e_LEVELS.mk' (PySem.W.mg_of X G c_LEVELS) d_LEVELS (List.forall_mem_cons.mpr ⟨⟨_, _, _, d0_LEVELS, e0_LEVELS⟩, (List.forall_mem_cons.mpr ⟨⟨_, _, _, d1_LEVELS, e1_LEVELS⟩, (List.forall_mem_cons.mpr ⟨⟨_, _, _, d2_LEVELS, e2_LEVELS⟩, (fun _ h => nomatch h)⟩)⟩)⟩)
    t_DIGITS := t_DIGITS, c_DIGITS := PySem.W.mg_of X G c_DIGITS
    t_LETTERS := t_LETTERS, c_LETTERS := PySem.W.mg_of X G c_LETTERS
  }
  exact ⟨T.fd23, fns T.cl 230 23, hL T.cl, fun s v => .of_eq rfl, fun base _ _ => (okAll (P := l.prog) (w := w) (base := base) T 230).g23⟩
end G

set_option maxRecDepth 100000
namespace FL
open PySem PySem.Spec PyProof.Rows L2

/-! ### the combinators, one step each -/
@[simp] theorem mVar_e (i : Nat) (ρ : En) (m : Me) : mVar i ρ m = match ρ[i]? with
  | some (some d) => .ok d m
  | _ => .no := rfl
@[simp] theorem mC_e (d : D) (ρ : En) (m : Me) : mC d ρ m = .ok d m := rfl
@[simp] theorem mNil_e (ρ : En) (m : Me) : mNil ρ m = .ok [] m := rfl
@[simp] theorem mCons_e (f : ME) (g : MA) (ρ : En) (m : Me) : mCons f g ρ m = (f ρ m).bind fun d m => (g ρ m).bind fun ds m => .ok (d :: ds) m := rfl
@[simp] theorem mTup_e (f : MA) (ρ : En) (m : Me) : mTup f ρ m = (f ρ m).bind fun ds m => .ok (.tup ds) m := rfl
@[simp] theorem mLst_e (f : MA) (ρ : En) (m : Me) : mLst f ρ m = (f ρ m).bind fun ds m => .ok (.lst ds) m := rfl
@[simp] theorem mNew_e (f : MA) (ρ : En) (m : Me) : mNew f ρ m = (f ρ m).bind fun ds m => .ok (.ref m.length) (m ++ [.lst ds]) := rfl
@[simp] theorem mNewK_e (ρ : En) (m : Me) : mNewK ρ m = .ok (.ref m.length) (m ++ [.dK []]) := rfl
@[simp] theorem m1_e (g : D → Me → Res D) (fa : ME) (ρ : En) (m : Me) : m1 g fa ρ m = (fa ρ m).bind g := rfl
@[simp] theorem m2_e (g : D → D → Me → Res D) (fa fb : ME) (ρ : En) (m : Me) : m2 g fa fb ρ m = (fa ρ m).bind fun d m => (fb ρ m).bind fun d' m => g d d' m := rfl
@[simp] theorem mB_e (f : ME) (ρ : En) (m : Me) : mB f ρ m = (f ρ m).bind asB := rfl
@[simp] theorem asB_e (b : Bool) (m : Me) : asB (.bl b) m = .ok b m := rfl
@[simp] theorem mAnd_e (f g : MT) (ρ : En) (m : Me) : mAnd f g ρ m = (f ρ m).bind fun b m => if b = true then g ρ m else .ok false m := rfl
@[simp] theorem mOr_e (f g : MT) (ρ : En) (m : Me) : mOr f g ρ m = (f ρ m).bind fun b m => if b = true then .ok true m else g ρ m := rfl
@[simp] theorem mNot_e (f : MT) (ρ : En) (m : Me) : mNot f ρ m = (f ρ m).bind fun b m => .ok (!b) m := rfl
@[simp] theorem mAndV_e (f g : ME) (ρ : En) (m : Me) : mAndV f g ρ m = (f ρ m).bind fun d m => match d with
  | .bl true => g ρ m
  | .bl false => .ok (.bl false) m
  | _ => .no := rfl
@[simp] theorem mOrV_e (f g : ME) (ρ : En) (m : Me) : mOrV f g ρ m = (f ρ m).bind fun d m => match d with
  | .bl true => .ok (.bl true) m
  | .bl false => g ρ m
  | _ => .no := rfl
@[simp] theorem mNotV_e (f : ME) (ρ : En) (m : Me) : mNotV f ρ m = (f ρ m).bind fun d m => match d with
  | .bl b => .ok (.bl (!b)) m
  | _ => .no := rfl
@[simp] theorem mIf_e (c : MT) (f g : ME) (ρ : En) (m : Me) : mIf c f g ρ m = (c ρ m).bind fun b m => if b = true then f ρ m else g ρ m := rfl
@[simp] theorem mArgs_e (g : List D → Me → Res D) (fa : MA) (ρ : En) (m : Me) : mArgs g fa ρ m = (fa ρ m).bind g := rfl
@[simp] theorem mCall_e (F : List D → Me → Res D) (fa : MA) (ρ : En) (m : Me) : mCall F fa ρ m = (fa ρ m).bind fun ds m => noX (F ds m) := rfl
@[simp] theorem mOpt_e (f : ME) (ρ : En) (m : Me) : mOpt f ρ m = (f ρ m).bind fun d m => match d with
  | .int i => .ok (some i) m
  | _ => .no := rfl
@[simp] theorem mNo_e (ρ : En) (m : Me) : mNo ρ m = .ok none m := rfl
@[simp] theorem mSl_e (fa : ME) (fl fh : En → Me → Res (Option Int)) (ρ : En) (m : Me) : mSl fa fl fh ρ m = (fa ρ m).bind fun d m => (fl ρ m).bind fun lo m => (fh ρ m).bind fun hi m => gSl d lo hi m := rfl
@[simp] theorem m3_e (g : D → D → D → Me → Res D) (fa fb fc : ME) (ρ : En) (m : Me) : m3 g fa fb fc ρ m = (fa ρ m).bind fun d m => match view m d with
  | .dct _ => (fb ρ m).bind fun d' m => (fc ρ m).bind fun d'' m => g d d' d'' m
  | _ => .no := rfl
@[simp] theorem sSeq_e (f g : MS) (ρ : En) (m : Me) : sSeq f g ρ m = match f ρ m with
  | .nx ρ m => g ρ m
  | r => r := rfl
@[simp] theorem sNext_e (ρ : En) (m : Me) : sNext ρ m = .nx ρ m := rfl
@[simp] theorem sSet_e (i : Nat) (f : ME) (ρ : En) (m : Me) : sSet i f ρ m = bindS (f ρ m) ρ fun d m => .nx (ρ.set i (some d)) m := rfl
@[simp] theorem sRet_e (f : ME) (ρ : En) (m : Me) : sRet f ρ m = bindS (f ρ m) ρ fun d m => .rt d m := rfl
@[simp] theorem sRetN_e (ρ : En) (m : Me) : sRetN ρ m = .rt .non m := rfl
@[simp] theorem sDo_e (f : ME) (ρ : En) (m : Me) : sDo f ρ m = bindS (f ρ m) ρ fun _ m => .nx ρ m := rfl
@[simp] theorem sIf_e (c : MT) (f g : MS) (ρ : En) (m : Me) : sIf c f g ρ m = bindS (c ρ m) ρ fun b m => if b = true then f ρ m else g ρ m := rfl
@[simp] theorem sBk_e (ρ : En) (m : Me) : sBk ρ m = .bk ρ m := rfl
@[simp] theorem sCt_e (ρ : En) (m : Me) : sCt ρ m = .ct ρ m := rfl
@[simp] theorem sFor_e (it : MI) (gt : D → En → Option En) (body : MS) (ρ : En) (m : Me) : sFor it gt body ρ m = bindS (it ρ m) ρ fun p m => forF gt body p.2 p.1 ρ m := rfl
@[simp] theorem sAsg_e (gt : D → En → Option En) (f : ME) (ρ : En) (m : Me) : sAsg gt f ρ m = bindS (f ρ m) ρ fun d m => match gt d ρ with
  | some ρ' => .nx ρ' m
  | none => .no := rfl
@[simp] theorem sDput_e (fo fi fv : ME) (ρ : En) (m : Me) : sDput fo fi fv ρ m = bindS (fv ρ m) ρ fun y m => bindS (fo ρ m) ρ fun d m => bindS (fi ρ m) ρ fun k m => match dput m d k y with
  | some m' => .nx ρ m'
  | none => .no := rfl
@[simp] theorem sDaug_e (fo fi fe : ME) (ρ : En) (m : Me) : sDaug fo fi fe ρ m = bindS (fo ρ m) ρ fun d m => bindS (fi ρ m) ρ fun k m => match look m d k with
  | some (some (.int i)) => bindS (fe ρ m) ρ fun y m => match y with
    | .int j => match dput m d k (.int (i + j)) with
      | some m' => .nx ρ m'
      | none => .no
    | _ => .no
  | _ => .no := rfl
@[simp] theorem sAug_e (i : Nat) (f : D → D → Me → Res D) (fe : ME) (ρ : En) (m : Me) : sAug i f fe ρ m = match ρ[i]? with
  | some (some d) => bindS (fe ρ m) ρ fun y m => bindS (f d y m) ρ fun z m => .nx (ρ.set i (some z)) m
  | _ => .no := rfl
@[simp] theorem sSetIx_e (fo fi fv : ME) (ρ : En) (m : Me) : sSetIx fo fi fv ρ m = bindS (fv ρ m) ρ fun y m => bindS (fo ρ m) ρ fun d m => bindS (fi ρ m) ρ fun k m => match d, k with
  | .ref i, .int k => match m[i]? with
    | some (.lst xs) => match ixN xs.length k with
      | some j => .nx ρ (m.set i (.lst (xs.set j y)))
      | none => .no
    | _ => .no
  | _, _ => .no := rfl
@[simp] theorem mAppend_e (fo fe : ME) (ρ : En) (m : Me) : mAppend fo fe ρ m = (fo ρ m).bind fun d m => match d with
  | .ref i => match m[i]? with
    | some (.lst _) => (fe ρ m).bind fun y m => match m[i]? with
      | some (.lst xs) => if xs.length < 1000000 then .ok .non (m.set i (.lst (xs ++ [y]))) else .no
      | _ => .no
    | _ => .no
  | _ => .no := rfl
@[simp] theorem mExtend_e (fo fe : ME) (ρ : En) (m : Me) : mExtend fo fe ρ m = (fo ρ m).bind fun d m => match d with
  | .ref i => match m[i]? with
    | some (.lst _) => (fe ρ m).bind fun y m => match m[i]?, lstV m y with
      | some (.lst xs), some ys => if xs.length + ys.length < 1000000 then .ok .non (m.set i (.lst (xs ++ ys))) else .no
      | _, _ => .no
    | _ => .no
  | _ => .no := rfl
@[simp] theorem iSeq_e (f : ME) (ρ : En) (m : Me) : iSeq f ρ m = (f ρ m).bind asIt := rfl
@[simp] theorem asIt_tup (ds : List D) (m : Me) : asIt (.tup ds) m = .ok (ds, gdY) m := rfl
@[simp] theorem asIt_lst (ds : List D) (m : Me) : asIt (.lst ds) m = .ok (ds, gdY) m := rfl
@[simp] theorem iRange1_e (f : MA) (ρ : En) (m : Me) : iRange1 f ρ m = (f ρ m).bind fun ds m => match ds with
  | [.int j] => if j ≤ 1000000 ∧ -1000000 ≤ j then .ok (rngL 0 j.toNat, gdY) m else .no
  | _ => .no := rfl
@[simp] theorem iRange2_e (f : MA) (ρ : En) (m : Me) : iRange2 f ρ m = (f ρ m).bind fun ds m => match ds with
  | [.int i, .int j] => if (j ≤ 1000000 ∧ -1000000 ≤ j) ∧ i ≤ 1000000 ∧ -1000000 ≤ i then .ok (rngL i (j - i).toNat, gdY) m else .no
  | _ => .no := rfl
@[simp] theorem mComp_e (it : MI) (vs : List Nat) (gt : D → En → Option En) (c : MT) (e : ME) (ρ : En) (m : Me) : mComp it vs gt c e ρ m = (it ρ m).bind fun p m => (noX (compF gt c e p.2 (wipeD ρ vs) p.1 m)).bind fun ys m => .ok (.lst ys) m := rfl
@[simp] theorem mDisp_e (f : En → Me → Res (List (Key × D))) (ρ : En) (m : Me) : mDisp f ρ m = (f ρ m).bind fun kvs m => if kvs.length ≤ 15 then .ok (.ref m.length) (m ++ [.dK (kvs.foldl (fun acc kv => setK acc kv.1 kv.2) [])]) else .no := rfl
@[simp] theorem pNil_e (ρ : En) (m : Me) : pNil ρ m = .ok [] m := rfl
@[simp] theorem pCons_e (fk fv : ME) (fr : En → Me → Res (List (Key × D))) (ρ : En) (m : Me) : pCons fk fv fr ρ m = (fk ρ m).bind fun k m => match keyD k with
  | none => .no
  | some k => (fv ρ m).bind fun v m => (fr ρ m).bind fun r m => .ok ((k, v) :: r) m := rfl
@[simp] theorem gdY_e (m : Me) : gdY m = true := rfl
@[simp] theorem cYes_e (ρ : En) (m : Me) : cYes ρ m = .ok true m := rfl
@[simp] theorem tgN_e (i : Nat) (d : D) (ρ : En) : tgN i d ρ = some (ρ.set i (some d)) := rfl
@[simp] theorem tgNil_e (ρ : En) : tgNil [] ρ = some ρ := rfl
@[simp] theorem tgCons_e (g : D → En → Option En) (gs : List D → En → Option En) (d : D) (r : List D) (ρ : En) : tgCons g gs (d :: r) ρ = (g d ρ).bind (gs r) := rfl
@[simp] theorem tgTup_e (n : Nat) (gs : List D → En → Option En) (ds : List D) (ρ : En) : tgTup n gs (.tup ds) ρ = if ds.length = n then gs ds ρ else none := rfl
@[simp] theorem wipeD_nil (ρ : En) : wipeD ρ [] = ρ := rfl
@[simp] theorem wipeD_cons (ρ : En) (v : Nat) (vs : List Nat) : wipeD ρ (v :: vs) = (wipeD ρ vs).set v none := rfl
@[simp] theorem view_non (m : Me) : view m .non = .non := rfl
@[simp] theorem view_bl (m : Me) (b : Bool) : view m (.bl b) = .bl b := rfl
@[simp] theorem view_int' (m : Me) (i : Int) : view m (.int i) = .int i := rfl
@[simp] theorem view_str' (m : Me) (i : Str) : view m (.str i) = .str i := rfl
@[simp] theorem view_tup' (m : Me) (i : List D) : view m (.tup i) = .tup i := rfl
@[simp] theorem view_lst' (m : Me) (i : List D) : view m (.lst i) = .lst i := rfl
@[simp] theorem view_dct' (m : Me) (i : List (Key × D)) : view m (.dct i) = .dct i := rfl
@[simp] theorem view_scr' (m : Me) (i : List Int) : view m (.scr i) = .scr i := rfl
theorem view_ref_lst {m : Me} {i : Nat} {xs : List D} (h : m[i]? = some (.lst xs)) : view m (.ref i) = .lst xs := by simp [view, h]
theorem view_ref_dK {m : Me} {i : Nat} {xs : List (Key × D)} (h : m[i]? = some (.dK xs)) : view m (.ref i) = .dct xs := by simp [view, h]
/-! numbers -/
@[simp] theorem gAdd_int (i j : Int) (m : Me) : gAdd (.int i) (.int j) m = .ok (.int (i + j)) m := rfl
@[simp] theorem gSub_int (i j : Int) (m : Me) : gSub (.int i) (.int j) m = .ok (.int (i - j)) m := by simp [gSub, gII]
theorem gMul_int {i j : Int} {m : Me} (h : (-(2 ^ 64) < i ∧ i < 2 ^ 64) ∨ (-(2 ^ 64) < j ∧ j < 2 ^ 64)) : gMul (.int i) (.int j) m = .ok (.int (i * j)) m := by simp only [gMul, gII]; rw [if_pos h]
theorem gMod_int {i j : Int} {m : Me} (h : 0 < j) : gMod (.int i) (.int j) m = .ok (.int (i % j)) m := by simp only [gMod, gII]; rw [if_pos h]
theorem gDiv_int {i j : Int} {m : Me} (h : 0 < j ∧ j.natAbs < 2 ^ 200) : gDiv (.int i) (.int j) m = .ok (.int (i / j)) m := by simp only [gDiv, gII]; rw [if_pos h]
@[simp] theorem gLt_int (i j : Int) (m : Me) : gLt (.int i) (.int j) m = .ok (.bl (decide (i < j))) m := by simp [gLt, gII]
@[simp] theorem gLe_int (i j : Int) (m : Me) : gLe (.int i) (.int j) m = .ok (.bl (decide (i ≤ j))) m := by simp [gLe, gII]
@[simp] theorem gGt_int (i j : Int) (m : Me) : gGt (.int i) (.int j) m = .ok (.bl (decide (j < i))) m := by simp [gGt, gII]
@[simp] theorem gGe_int (i j : Int) (m : Me) : gGe (.int i) (.int j) m = .ok (.bl (decide (j ≤ i))) m := by simp [gGe, gII]
@[simp] theorem gNeg_int (i : Int) (m : Me) : gNeg (.int i) m = .ok (.int (-i)) m := rfl
@[simp] theorem gIAdd_int (i j : Int) (m : Me) : gIAdd (.int i) (.int j) m = .ok (.int (i + j)) m := rfl
@[simp] theorem gInt_int (i : Int) (m : Me) : gInt [.int i] m = .ok (.int i) m := rfl
@[simp] theorem gAbs_int (i : Int) (m : Me) : gAbs [.int i] m = .ok (.int (if i < 0 then -i else i)) m := rfl
@[simp] theorem gMax2_int (i j : Int) (m : Me) : gMax2 [.int i, .int j] m = .ok (.int (if j > i then j else i)) m := rfl
@[simp] theorem gIsN_e (d : D) (m : Me) : gIsN d .non m = .ok (.bl (isN d)) m := rfl
@[simp] theorem gNotN_e (d : D) (m : Me) : gNotN d .non m = .ok (.bl (!isN d)) m := rfl
@[simp] theorem gLen_tup (xs : List D) (m : Me) : gLen [.tup xs] m = .ok (.int xs.length) m := rfl
@[simp] theorem gLen_lst (xs : List D) (m : Me) : gLen [.lst xs] m = .ok (.int xs.length) m := rfl
@[simp] theorem gLen_scr (xs : List Int) (m : Me) : gLen [.scr xs] m = .ok (.int xs.length) m := rfl
@[simp] theorem gTuple_tup (xs : List D) (m : Me) : gTuple [.tup xs] m = .ok (.tup xs) m := rfl
@[simp] theorem gTuple_lst (xs : List D) (m : Me) : gTuple [.lst xs] m = .ok (.tup xs) m := rfl
/-- equality of texts -/
theorem gEq_str (a b : Str) (m : Me) (ha : PyData.strOk a = true) (hb : PyData.strOk b = true) : gEq (.str a) (.str b) m = .ok (.bl (a == b)) m := by
  have sh : ∀ {x : Str}, PyData.strOk x = true → SeqAt.shaped (.str x) = true := fun h => by
    unfold SeqAt.shaped; simp only [PyData.canLay0, h, PyData.depth]; rfl
  simp only [gEq, view_str', py, eqRes]
  rw [if_pos ⟨sh ha, sh hb⟩]
  simp [PyData.eqv]
theorem gNe_str (a b : Str) (m : Me) (ha : PyData.strOk a = true) (hb : PyData.strOk b = true) : gNe (.str a) (.str b) m = .ok (.bl (!(a == b))) m := by
  have sh : ∀ {x : Str}, PyData.strOk x = true → SeqAt.shaped (.str x) = true := fun h => by
    unfold SeqAt.shaped; simp only [PyData.canLay0, h, PyData.depth]; rfl
  simp only [gNe, view_str', py, eqRes]
  rw [if_pos ⟨sh ha, sh hb⟩]
  simp [PyData.eqv]
@[simp] theorem gEq_int (a b : Int) (m : Me) : gEq (.int a) (.int b) m = .ok (.bl (a == b)) m := by
  have sh : ∀ {x : Int}, SeqAt.shaped (.int x) = true := by intro x; unfold SeqAt.shaped; simp [PyData.canLay0, PyData.depth]
  simp only [gEq, view_int', py, eqRes]
  rw [if_pos ⟨sh, sh⟩]
  simp [PyData.eqv]
@[simp] theorem gNe_int (a b : Int) (m : Me) : gNe (.int a) (.int b) m = .ok (.bl (!(a == b))) m := by
  have sh : ∀ {x : Int}, SeqAt.shaped (.int x) = true := by intro x; unfold SeqAt.shaped; simp [PyData.canLay0, PyData.depth]
  simp only [gNe, view_int', py, eqRes]
  rw [if_pos ⟨sh, sh⟩]
  simp [PyData.eqv]

/-! ### loops -/
theorem forF_rule {gt : D → En → Option En} {body : MS} {gd : Me → Bool} {P : Fl → Prop} (Inv : List D → En → Me → Prop)
    (step : ∀ d r ρ m, Inv (d :: r) ρ m → gd m = true ∧ ∃ ρ1, gt d ρ = some ρ1 ∧ match body ρ1 m with
      | .nx ρ2 m2 => Inv r ρ2 m2
      | .ct ρ2 m2 => Inv r ρ2 m2
      | .bk ρ2 m2 => P (.nx ρ2 m2)
      | .rt d m => P (.rt d m)
      | .exc x ρ m => P (.exc x ρ m)
      | .no => False)
    (done : ∀ ρ m, Inv [] ρ m → gd m = true ∧ P (.nx ρ m)) : ∀ (ds : List D) (ρ : En) (m : Me), Inv ds ρ m → P (forF gt body gd ds ρ m) := by
  intro ds
  induction ds with
  | nil =>
    intro ρ m h
    obtain ⟨h1, h2⟩ := done ρ m h
    unfold forF; rw [if_pos h1]; exact h2
  | cons d r ih =>
    intro ρ m h
    obtain ⟨h1, ρ1, h2, h3⟩ := step d r ρ m h
    unfold forF; rw [if_pos h1]; simp only [h2]
    cases e : body ρ1 m with
    | no => rw [e] at h3; exact h3.elim
    | exc x ρ m => rw [e] at h3; exact h3
    | nx ρ2 m2 => rw [e] at h3; exact ih ρ2 m2 h3
    | ct ρ2 m2 => rw [e] at h3; exact ih ρ2 m2 h3
    | bk ρ2 m2 => rw [e] at h3; exact h3
    | rt d m => rw [e] at h3; exact h3
/-- a comprehension whose parts leave the store as it is -/
theorem compF_pure {gt : D → En → Option En} {c : MT} {e : ME} {ρ : En} {m : Me} (p : D → Bool) (f : D → D) : ∀ (ds : List D), (∀ d ∈ ds, ∃ ρ1, gt d ρ = some ρ1 ∧ c ρ1 m = .ok (p d) m ∧ (p d = true → e ρ1 m = .ok (f d) m)) →
    compF gt c e gdY ρ ds m = .ok ((ds.filter p).map f) m := by
  intro ds
  induction ds with
  | nil => intro _; rfl
  | cons d r ih =>
    intro h
    obtain ⟨ρ1, h1, h2, h3⟩ := h d List.mem_cons_self
    have ih' := ih fun x hx => h x (List.mem_cons_of_mem _ hx)
    unfold compF
    simp only [gdY_e, if_true, h1, h2, noX_ok, Res.bind_ok]
    cases hp : p d with
    | false => simp [hp, ih']
    | true => simp [hp, ih', h3 hp]
/-- the store with one more thing -/
@[simp] theorem get_last (m : Me) (c : Cell) : (m ++ [c])[m.length]? = some c := by simp
@[simp] theorem set_last (m : Me) (c c' : Cell) : (m ++ [c]).set m.length c' = m ++ [c'] := by simp
theorem get_old {m : Me} {c x : Cell} {i : Nat} (h : m[i]? = some x) : (m ++ [c])[i]? = some x := by
  rw [List.getElem?_append_left (List.getElem?_eq_some_iff.mp h).1]; exact h
/-- what a def hands back where no thing of its own is left -/
theorem leave_same {m m' : Me} {d : D} (h : m'.length = m.length) : leave m d m' = .ok d m' := by unfold leave; rw [if_pos h]
/-- .. where one of its own is left, the rest as it was -/
theorem leave_one {m : Me} {c : Cell} {d d' : D} (h : thaw m.length (m ++ [c]) d = some d') : leave m d (m ++ [c]) = .ok d' m := by
  unfold leave
  rw [if_neg (by simp), h]
  have e : (m ++ [c]).take m.length = m := by simp
  simp only
  rw [if_pos (.inl e), e]

/-! ### the draws -/
def WS (draws : List Int) (k : Int) : Cell := .dK [(.inr "draws", .lst (draws.map .int)), (.inr "at", .int k)]
noncomputable def bNext (f : Nat → List D → Me → Res D) : MS :=
  (sSeq (sDaug (mVar 0) (mC (.str ("at" : Str))) (mC (.int 1))) (sSeq (sIf (mB (m2 gGt (m2 gDget (mVar 0) (mC (.str ("at" : Str)))) (mArgs gLen (mCons (m2 gDget (mVar 0) (mC (.str ("draws" : Str)))) mNil)))) (sSeq (sRet (mC (.int 0))) sNext) sNext) (sSeq (sRet (m2 gMod (mArgs gInt (mCons (m2 gIx (m2 gDget (mVar 0) (mC (.str ("draws" : Str)))) (m2 gSub (m2 gDget (mVar 0) (mC (.str ("at" : Str)))) (mC (.int 1)))) mNil)) (mVar 1))) sNext)))
theorem look_at {m : Me} {i : Nat} {ds : List Int} {k : Int} (h : m[i]? = some (WS ds k)) : look m (.ref i) (.str "at") = some (some (.int k)) := by
  unfold look; rw [view_ref_dK h]; rfl
theorem look_draws {m : Me} {i : Nat} {ds : List Int} {k : Int} (h : m[i]? = some (WS ds k)) : look m (.ref i) (.str "draws") = some (some (.lst (ds.map .int))) := by
  unfold look; rw [view_ref_dK h]; rfl
theorem next_ok (f : Nat → List D → Me → Res D) {m : Me} {i : Nat} {ds : List Int} {k n : Int} (h : m[i]? = some (WS ds k)) (hk : 0 ≤ k) (hn : 0 < n) :
    ∃ v : Int, 0 ≤ v ∧ v < n ∧ runDef 2 2 (bNext f) [.ref i, .int n] m = .ok (.int v) (m.set i (WS ds (k + 1))) := by
  have hi : i < m.length := (List.getElem?_eq_some_iff.mp h).1
  have hp : dput m (.ref i) (.str "at") (.int (k + 1)) = some (m.set i (WS ds (k + 1))) := by
    unfold dput; simp only [keyD, h]; rfl
  have h' : (m.set i (WS ds (k + 1)))[i]? = some (WS ds (k + 1)) := List.getElem?_set_self hi
  have hl : (m.set i (WS ds (k + 1))).length = m.length := List.length_set ..
  by_cases hc : (ds.length : Int) < k + 1
  · exact ⟨0, Int.le_refl _, hn, by simp [runDef, bNext, look_at h, hp, gDget, look_at h', look_draws h', hc, leave_same hl]⟩
  · have hlt : k.toNat < ds.length := by omega
    have e1 : atI (ds.map D.int) (k + 1 - 1) = some (.int (ds[k.toNat])) := by
      have : k + 1 - 1 = ((k.toNat : Nat) : Int) := by omega
      rw [this]
      exact atI_nat (by rw [List.getElem?_map, List.getElem?_eq_getElem hlt]; rfl)
    rw [show k + 1 - 1 = k by omega] at e1
    exact ⟨ds[k.toNat] % n, Int.emod_nonneg _ (by omega), Int.emod_lt_of_pos _ hn, by simp [runDef, bNext, look_at h, hp, gDget, look_at h', look_draws h', hc, leave_same hl, gIx, e1, gMod_int hn]⟩
def bPick (j : Nat) (f : Nat → List D → Me → Res D) : MS :=
  (sSeq (sRet (m2 gIx (mVar 1) (mCall (f j) (mCons (mVar 0) (mCons (mArgs gLen (mCons (mVar 1) mNil)) mNil))))) sNext)
theorem pick_ok {f : Nat → List D → Me → Res D} {j : Nat} {N : List D → Me → Res D} (hf : f j = N) (hN : ∀ {m : Me} {i : Nat} {ds : List Int} {k n : Int}, m[i]? = some (WS ds k) → 0 ≤ k → 0 < n → ∃ v : Int, 0 ≤ v ∧ v < n ∧ N [.ref i, .int n] m = .ok (.int v) (m.set i (WS ds (k + 1))))
    {m : Me} {i : Nat} {ds : List Int} {k : Int} (h : m[i]? = some (WS ds k)) (hk : 0 ≤ k) {xs : List D} (hx : xs ≠ []) :
    ∃ x ∈ xs, runDef 2 2 (bPick j f) [.ref i, .lst xs] m = .ok x (m.set i (WS ds (k + 1))) := by
  have hpos : 0 < xs.length := List.length_pos_iff.mpr hx
  obtain ⟨v, h0, h1, e⟩ := hN (n := (xs.length : Int)) h hk (by omega)
  have hl : (m.set i (WS ds (k + 1))).length = m.length := List.length_set ..
  have hv : v.toNat < xs.length := by omega
  have e1 : atI xs v = some xs[v.toNat] := by
    have q : atI xs ((v.toNat : Nat) : Int) = some xs[v.toNat] := atI_nat (List.getElem?_eq_getElem hv)
    rwa [show ((v.toNat : Nat) : Int) = v by omega] at q
  refine ⟨xs[v.toNat], List.getElem_mem hv, ?_⟩
  simp [runDef, bPick, hf, e, gIx, e1, leave_same hl]
end FL

set_option maxRecDepth 100000
namespace FL
open PySem PySem.Spec PyProof.Rows L2

/-- a loop that is never left -/
theorem forF_nx {gt : D → En → Option En} {body : MS} (Inv : List D → En → Me → Prop)
    (step : ∀ d r ρ m, Inv (d :: r) ρ m → ∃ ρ1 ρ2 m2, gt d ρ = some ρ1 ∧ (body ρ1 m = .nx ρ2 m2 ∨ body ρ1 m = .ct ρ2 m2) ∧ Inv r ρ2 m2) :
    ∀ (ds : List D) (ρ : En) (m : Me), Inv ds ρ m → ∃ ρ' m', forF gt body gdY ds ρ m = .nx ρ' m' ∧ Inv [] ρ' m' := by
  intro ds
  induction ds with
  | nil => intro ρ m h; exact ⟨ρ, m, rfl, h⟩
  | cons d r ih =>
    intro ρ m h
    obtain ⟨ρ1, ρ2, m2, h1, h2, h3⟩ := step d r ρ m h
    obtain ⟨ρ', m', h4, h5⟩ := ih ρ2 m2 h3
    refine ⟨ρ', m', ?_, h5⟩
    unfold forF
    simp only [gdY_e, if_true, h1]
    rcases h2 with h2 | h2 <;> (rw [h2]; exact h4)
/-- ints of a range -/
def Ints (ds : List D) : Prop := ∀ d ∈ ds, ∃ i : Int, d = .int i
theorem rng_mem {i : Int} {n : Nat} {d : D} (h : d ∈ rngL i n) : ∃ k : Nat, k < n ∧ d = .int (i + k) := by
  obtain ⟨k, hk, rfl⟩ := List.mem_map.mp h
  exact ⟨k, List.mem_range.mp hk, rfl⟩
theorem rng_length {i : Int} {n : Nat} : (rngL i n).length = n := by simp [rngL]

noncomputable def dIn : MS :=
  (sSeq (sIf (mB (m2 gGt (mVar 6) (mC (.int 0)))) (sSeq (sDo (mAppend (mVar 2) (m2 gMod (mArgs gInt (mCons (mVar 6) mNil)) (mC (.int 997))))) (sSeq (sSet 6 (m2 gDiv (mVar 6) (mC (.int 997)))) sNext)) sNext) sNext)
noncomputable def dB1 : MS :=
  (sSeq (sSet 5 (mArgs gAbs (mCons (mArgs gInt (mCons (m2 gIx (mVar 0) (mVar 4)) mNil)) mNil))) (sSeq (sSet 3 (m2 gMod (mArgs gInt (mCons (m2 gAdd (m2 gAdd (m2 gMul (mVar 3) (mC (.int 48271))) (m2 gMod (mVar 5) (mC (.int 1000003)))) (mVar 4)) mNil)) (mC (.int 65537)))) (sSeq (sSet 6 (mC (.int 0))) (sSeq (sIf (mB (m2 gGe (mVar 5) (m2 gPow (mC (.int 10)) (mC (.int 18))))) (sSeq (sSet 6 (mVar 5)) sNext) (sSeq (sDo (mAppend (mVar 2) (m2 gMod (mArgs gInt (mCons (mVar 5) mNil)) (mC (.int 997))))) (sSeq (sDo (mAppend (mVar 2) (m2 gMod (m2 gMod (mArgs gInt (mCons (m2 gAdd (m2 gMul (mVar 3) (mC (.int 69621))) (mC (.int 5))) mNil)) (mC (.int 65521))) (mC (.int 997))))) sNext))) (sSeq (sFor (iRange1 (mCons (mC (.int 60)) mNil)) (tgN 7) dIn) sNext)))))
noncomputable def dB2 : MS :=
  (sSeq (sSet 3 (m2 gMod (mArgs gInt (mCons (m2 gAdd (m2 gAdd (m2 gMul (mVar 3) (mC (.int 16807))) (mVar 4)) (mC (.int 1))) mNil)) (mC (.int 65537)))) (sSeq (sDo (mAppend (mVar 2) (m2 gMod (mArgs gInt (mCons (mVar 3) mNil)) (mC (.int 997))))) sNext))
noncomputable def bDraws (f : Nat → List D → Me → Res D) : MS :=
  (sSeq (sSet 2 (mNew mNil)) (sSeq (sSet 3 (mC (.int 7))) (sSeq (sFor (iRange1 (mCons (mArgs gLen (mCons (mVar 0) mNil)) mNil)) (tgN 4) dB1) (sSeq (sFor (iRange1 (mCons (mVar 1) mNil)) (tgN 4) dB2) (sSeq (sRet (mSl (mVar 2) mNo (mOpt (mVar 1)))) sNext)))))
theorem gPow_18 (m : Me) : gPow (.int 10) (.int 18) m = .ok (.int 1000000000000000000) m := by
  simp only [gPow, gII]
  rw [if_pos ⟨by decide, by decide, by decide⟩]
  have : (10 : Int) ^ (18 : Int).toNat = 1000000000000000000 := by decide
  rw [this]
/-- the names of _law_draws -/
def ρD (ns : List Int) (many : Int) (j : Nat) (mixed : Int) (x4 x5 x6 x7 : Option D) : En := [some (.scr ns), some (.int many), some (.ref j), some (.int mixed), x4, x5, x6, x7]
def DI (ns : List Int) (many mixed : Int) (m : Me) (x4 x5 : Option D) (B : Nat) (ds : List D) (ρ : En) (m' : Me) : Prop :=
  ∃ (r : Int) (x7 : Option D) (acc : List Int), Ints ds ∧ acc.length + ds.length ≤ B ∧ ρ = ρD ns many m.length mixed x4 x5 (some (.int r)) x7 ∧ m' = m ++ [.lst (acc.map .int)]
def D1 (ns : List Int) (many : Int) (m : Me) (ds : List D) (ρ : En) (m' : Me) : Prop :=
  ∃ (mixed : Int) (x4 x5 x6 x7 : Option D) (acc : List Int), (∀ d ∈ ds, ∃ k : Nat, k < ns.length ∧ d = .int k) ∧ acc.length + 62 * ds.length ≤ 62 * 63 ∧ 0 ≤ mixed ∧ mixed < 65537 ∧ ρ = ρD ns many m.length mixed x4 x5 x6 x7 ∧ m' = m ++ [.lst (acc.map .int)]
def D2 (ns : List Int) (many : Int) (m : Me) (x5 x6 x7 : Option D) (ds : List D) (ρ : En) (m' : Me) : Prop :=
  ∃ (mixed : Int) (x4 : Option D) (acc : List Int), Ints ds ∧ acc.length + ds.length ≤ 62 * 63 + 10000 ∧ 0 ≤ mixed ∧ mixed < 65537 ∧ ρ = ρD ns many m.length mixed x4 x5 x6 x7 ∧ m' = m ++ [.lst (acc.map .int)]
abbrev Step (gt : D → En → Option En) (body : MS) (Inv : List D → En → Me → Prop) : Prop :=
  ∀ d r ρ m, Inv (d :: r) ρ m → ∃ ρ1 ρ2 m2, gt d ρ = some ρ1 ∧ (body ρ1 m = .nx ρ2 m2 ∨ body ρ1 m = .ct ρ2 m2) ∧ Inv r ρ2 m2
theorem stepI {ns : List Int} {many mixed : Int} {m : Me} {x4 x5 : Option D} {B : Nat} (hB : B ≤ 100000) : Step (tgN 7) dIn (DI ns many mixed m x4 x5 B) := by
  rintro d rest ρ m' ⟨r, x7, acc, hi, hl, rfl, rfl⟩
  have hi' : Ints rest := fun x hx => hi x (List.mem_cons_of_mem _ hx)
  simp only [List.length_cons] at hl
  by_cases hr : 0 < r
  · refine ⟨_, _, _, rfl, .inl ?_, r / 997, some d, acc ++ [r % 997], hi', by simp; omega, rfl, rfl⟩
    simp [dIn, ρD, hr, gMod_int (show (0 : Int) < 997 by decide), gDiv_int (show (0 : Int) < 997 ∧ (997 : Int).natAbs < 2 ^ 200 by decide), show acc.length < 1000000 by omega]
  · refine ⟨_, _, _, rfl, .inl ?_, r, some d, acc, hi', by omega, rfl, rfl⟩
    simp [dIn, ρD, hr]
theorem step2 {ns : List Int} {many : Int} {m : Me} {x5 x6 x7 : Option D} : Step (tgN 4) dB2 (D2 ns many m x5 x6 x7) := by
  rintro d rest ρ m' ⟨mixed, x4, acc, hi, hl, ha, hb, rfl, rfl⟩
  obtain ⟨i, rfl⟩ := hi d List.mem_cons_self
  have hi' : Ints rest := fun x hx => hi x (List.mem_cons_of_mem _ hx)
  simp only [List.length_cons] at hl
  refine ⟨_, _, _, rfl, .inl ?_, (mixed * 16807 + i + 1) % 65537, some (.int i), acc ++ [(mixed * 16807 + i + 1) % 65537 % 997], hi', by simp; omega, by omega, by omega, rfl, rfl⟩
  simp [dB2, ρD, gMod_int (show (0 : Int) < 997 by decide), gMod_int (show (0 : Int) < 65537 by decide), gMul_int (i := mixed) (j := 16807) (.inl ⟨by omega, by omega⟩), show acc.length < 1000000 by omega]
theorem step1 {ns : List Int} {many : Int} {m : Me} : Step (tgN 4) dB1 (D1 ns many m) := by
  rintro d rest ρ m' ⟨mixed, x4, x5, x6, x7, acc, hi, hl, ha, hb, rfl, rfl⟩
  obtain ⟨k, hk, rfl⟩ := hi d List.mem_cons_self
  have hi' : ∀ d ∈ rest, ∃ k : Nat, k < ns.length ∧ d = .int k := fun x hx => hi x (List.mem_cons_of_mem _ hx)
  simp only [List.length_cons] at hl
  have hat : atI ns (k : Int) = some ns[k] := atI_nat (List.getElem?_eq_getElem hk)
  obtain ⟨c, hc⟩ : ∃ c : Int, c = if ns[k] < 0 then -ns[k] else ns[k] := ⟨_, rfl⟩
  obtain ⟨mx, hmx⟩ : ∃ x : Int, x = (mixed * 48271 + c % 1000003 + k) % 65537 := ⟨_, rfl⟩
  have g60 : (60 : Int) ≤ 1000000 ∧ (-1000000 : Int) ≤ 60 := by decide
  have g48 := gMul_int (i := mixed) (j := 48271) (m := m ++ [.lst (acc.map .int)]) (.inl ⟨by omega, by omega⟩)
  have g69 : ∀ m, gMul (.int mx) (.int 69621) m = .ok (.int (mx * 69621)) m := fun m => gMul_int (.inl ⟨by omega, by omega⟩)
  have mm : ∀ (a : Int) m, gMod (.int a) (.int 65537) m = .ok (.int (a % 65537)) m := fun a m => gMod_int (by decide)
  have mn : ∀ (a : Int) m, gMod (.int a) (.int 997) m = .ok (.int (a % 997)) m := fun a m => gMod_int (by decide)
  have mo : ∀ (a : Int) m, gMod (.int a) (.int 65521) m = .ok (.int (a % 65521)) m := fun a m => gMod_int (by decide)
  have mi : ∀ (a : Int) m, gMod (.int a) (.int 1000003) m = .ok (.int (a % 1000003)) m := fun a m => gMod_int (by decide)
  have ri : Ints (rngL 0 60) := fun d hd => by obtain ⟨k, hk, rfl⟩ := rng_mem hd; exact ⟨_, rfl⟩
  by_cases hbig : 1000000000000000000 ≤ c
  · obtain ⟨ρ', m2, f1, r, x7', acc', _, hz, f2, f3⟩ := forF_nx _ (stepI (ns := ns) (many := many) (mixed := mx) (m := m) (x4 := some (.int k)) (x5 := some (.int c)) (B := acc.length + 60) (by omega)) (rngL 0 60) (ρD ns many m.length mx (some (.int k)) (some (.int c)) (some (.int c)) x7) (m ++ [.lst (acc.map .int)])
      ⟨c, x7, acc, ri, by rw [rng_length]; omega, rfl, rfl⟩
    simp only [List.length_nil, Nat.add_zero] at hz
    refine ⟨_, ρ', m2, rfl, .inl ?_, mx, _, _, _, _, acc', hi', by omega, by omega, by omega, f2, f3⟩
    simp only [ρD] at f1
    simp [dB1, ρD, gIx, hat, g48, ← hc, mi, mm, ← hmx, gPow_18, hbig, g60, f1]
  · obtain ⟨ρ', m2, f1, r, x7', acc', _, hz, f2, f3⟩ := forF_nx _ (stepI (ns := ns) (many := many) (mixed := mx) (m := m) (x4 := some (.int k)) (x5 := some (.int c)) (B := acc.length + 62) (by omega)) (rngL 0 60) (ρD ns many m.length mx (some (.int k)) (some (.int c)) (some (.int 0)) x7) (m ++ [.lst ((acc ++ [c % 997, (mx * 69621 + 5) % 65521 % 997]).map .int)])
      ⟨0, x7, acc ++ [c % 997, (mx * 69621 + 5) % 65521 % 997], ri, by rw [rng_length]; simp, rfl, rfl⟩
    simp only [List.length_nil, Nat.add_zero] at hz
    refine ⟨_, ρ', m2, rfl, .inl ?_, mx, _, _, _, _, acc', hi', by omega, by omega, by omega, f2, f3⟩
    simp only [ρD, List.map_append, List.map_cons, List.map_nil] at f1
    simp [dB1, ρD, gIx, hat, g48, ← hc, mi, mm, mn, mo, ← hmx, gPow_18, hbig, g60, g69, f1, show acc.length < 1000000 by omega, show acc.length + 1 < 1000000 by omega]
theorem thaw_ints (n : Nat) (m : Me) : ∀ l : List Int, thawL n m (l.map D.int) = some (l.map D.int)
  | [] => rfl
  | a :: l => by simp [thawL, thaw, thaw_ints n m l]
theorem draws_ok (f : Nat → List D → Me → Res D) {ns : List Int} (hn : ns.length ≤ 63) {many : Int} (h0 : 0 ≤ many) (h1 : many ≤ 10000) (m : Me) :
    ∃ ds : List Int, runDef 8 2 (bDraws f) [.scr ns, .int many] m = .ok (.lst (ds.map .int)) m := by
  obtain ⟨ρ1, m1, e1, mixed1, x4, x5, x6, x7, acc1, _, hl1, ha1, hb1, rfl, rfl⟩ := forF_nx _ (step1 (ns := ns) (many := many) (m := m)) (rngL 0 ns.length) (ρD ns many m.length 7 none none none none) (m ++ [.lst []])
    ⟨7, none, none, none, none, [], fun d hd => by obtain ⟨k, hk, rfl⟩ := rng_mem hd; exact ⟨k, hk, by simp⟩, by rw [rng_length]; simp; omega, by decide, by decide, rfl, rfl⟩
  obtain ⟨ρ2, m2, e2, mixed2, y4, acc2, _, hl2, ha2, hb2, rfl, rfl⟩ := forF_nx _ (step2 (ns := ns) (many := many) (m := m) (x5 := x5) (x6 := x6) (x7 := x7)) (rngL 0 many.toNat) _ _
    ⟨mixed1, x4, acc1, fun d hd => by obtain ⟨k, hk, rfl⟩ := rng_mem hd; exact ⟨_, rfl⟩, by rw [rng_length]; simp at hl1; omega, ha1, hb1, rfl, rfl⟩
  refine ⟨cutD acc2 none (some many), ?_⟩
  have g1 : (ns.length : Int) ≤ 1000000 ∧ (-1000000 : Int) ≤ (ns.length : Int) := by omega
  have g2 : many ≤ 1000000 ∧ -1000000 ≤ many := by omega
  have hcut : cutD (acc2.map D.int) none (some many) = (cutD acc2 none (some many)).map D.int := by simp [cutD, List.map_take, List.map_drop]
  unfold runDef
  simp only [ρD] at e1 e2
  simp [bDraws, g1, g2, e1, e2, ρD, gSl, view_ref_lst (get_last _ _), hcut]
  refine leave_one ?_
  simp only [thaw, thaw_ints]; rfl
end FL

set_option maxRecDepth 100000
namespace FL
open PySem PySem.Spec PyProof.Rows L2

/-! ### what is wanted of a result; the wish is out of simp's reach (the result's type hangs on it) -/
abbrev Hid {α : Type} (_ : α) (β : Type) : Type := β
def RHas {α : Type} (Q : Res α → Prop) (r : Hid Q (Res α)) : Prop := match (r : Res α) with
  | .no => False
  | r => Q r
def FHas (Q : Fl → Prop) (r : Hid Q Fl) : Prop := match (r : Fl) with
  | .no => False
  | r => Q r
def kR {α β : Type} (f : α → Me → Res β) (Q : Res β → Prop) : Res α → Prop := fun
  | .ok a m => RHas Q (f a m)
  | .exc x m => Q (.exc x m)
  | .no => False
def kS {α : Type} (ρ : En) (f : α → Me → Fl) (Q : Fl → Prop) : Res α → Prop := fun
  | .ok a m => FHas Q (f a m)
  | .exc x m => Q (.exc x ρ m)
  | .no => False
def kF (g : MS) (Q : Fl → Prop) : Fl → Prop := fun
  | .nx ρ m => FHas Q (g ρ m)
  | .no => False
  | r => Q r
theorem RHas.mono {α : Type} {Q Q' : Res α → Prop} {r : Res α} (h : RHas Q r) (w : ∀ r, Q r → Q' r) : RHas Q' r := by
  cases r with
  | no => exact h
  | _ => exact w _ h
theorem FHas.mono {Q Q' : Fl → Prop} {r : Fl} (h : FHas Q r) (w : ∀ r, Q r → Q' r) : FHas Q' r := by
  cases r with
  | no => exact h
  | _ => exact w _ h
@[simp ↓, simp] theorem rhas_ok {α : Type} {Q : Res α → Prop} {a : α} {m : Me} : RHas Q (.ok a m) = Q (.ok a m) := rfl
@[simp ↓, simp] theorem rhas_bind {α β : Type} {Q : Res β → Prop} {r : Res α} {f : α → Me → Res β} : RHas Q (r.bind f) = RHas (kR f Q) r := by cases r <;> rfl
@[simp ↓, simp] theorem fhas_bindS {α : Type} {Q : Fl → Prop} {r : Res α} {ρ : En} {f : α → Me → Fl} : FHas Q (bindS r ρ f) = RHas (kS ρ f Q) r := by cases r <;> rfl
@[simp ↓, simp] theorem fhas_seq {Q : Fl → Prop} {f g : MS} {ρ : En} {m : Me} : FHas Q (sSeq f g ρ m) = FHas (kF g Q) (f ρ m) := by
  rw [sSeq_e]; cases f ρ m <;> rfl
@[simp ↓, simp] theorem fhas_nx {Q : Fl → Prop} {ρ : En} {m : Me} : FHas Q (.nx ρ m) = Q (.nx ρ m) := rfl
@[simp ↓, simp] theorem fhas_rt {Q : Fl → Prop} {d : D} {m : Me} : FHas Q (.rt d m) = Q (.rt d m) := rfl
@[simp ↓, simp] theorem fhas_bk {Q : Fl → Prop} {ρ : En} {m : Me} : FHas Q (.bk ρ m) = Q (.bk ρ m) := rfl
@[simp ↓, simp] theorem fhas_ct {Q : Fl → Prop} {ρ : En} {m : Me} : FHas Q (.ct ρ m) = Q (.ct ρ m) := rfl
@[simp ↓, simp] theorem fhas_exc {Q : Fl → Prop} {x : Exn} {ρ : En} {m : Me} : FHas Q (.exc x ρ m) = Q (.exc x ρ m) := rfl
@[simp ↓, simp] theorem rhas_exc {α : Type} {Q : Res α → Prop} {x : Exn} {m : Me} : RHas Q (.exc x m : Res α) = Q (.exc x m) := rfl
@[simp ↓, simp] theorem rhas_ite {α : Type} {Q : Res α → Prop} {c : Prop} [Decidable c] {r s : Res α} : RHas Q (if c then r else s) = if c then RHas Q r else RHas Q s := by split <;> rfl
@[simp ↓, simp] theorem fhas_ite {Q : Fl → Prop} {c : Prop} [Decidable c] {r s : Fl} : FHas Q (if c then r else s) = if c then FHas Q r else FHas Q s := by split <;> rfl
@[simp ↓, simp] theorem kR_ok {α β : Type} {f : α → Me → Res β} {Q : Res β → Prop} {a : α} {m : Me} : kR f Q (.ok a m) = RHas Q (f a m) := rfl
@[simp ↓, simp] theorem kR_exc {α β : Type} {f : α → Me → Res β} {Q : Res β → Prop} {x : Exn} {m : Me} : kR f Q (.exc x m) = Q (.exc x m) := rfl
@[simp ↓, simp] theorem kS_ok {α : Type} {ρ : En} {f : α → Me → Fl} {Q : Fl → Prop} {a : α} {m : Me} : kS ρ f Q (.ok a m) = FHas Q (f a m) := rfl
@[simp ↓, simp] theorem kS_exc {α : Type} {ρ : En} {f : α → Me → Fl} {Q : Fl → Prop} {x : Exn} {m : Me} : kS ρ f Q (.exc x m : Res α) = Q (.exc x ρ m) := rfl
@[simp ↓, simp] theorem kF_nx {g : MS} {Q : Fl → Prop} {ρ : En} {m : Me} : kF g Q (.nx ρ m) = FHas Q (g ρ m) := rfl
@[simp ↓, simp] theorem kF_rt {g : MS} {Q : Fl → Prop} {d : D} {m : Me} : kF g Q (.rt d m) = Q (.rt d m) := rfl
@[simp ↓, simp] theorem kF_bk {g : MS} {Q : Fl → Prop} {ρ : En} {m : Me} : kF g Q (.bk ρ m) = Q (.bk ρ m) := rfl
@[simp ↓, simp] theorem kF_ct {g : MS} {Q : Fl → Prop} {ρ : En} {m : Me} : kF g Q (.ct ρ m) = Q (.ct ρ m) := rfl
@[simp ↓, simp] theorem kF_exc {g : MS} {Q : Fl → Prop} {x : Exn} {ρ : En} {m : Me} : kF g Q (.exc x ρ m) = Q (.exc x ρ m) := rfl
/-- a def -/
def kD (m : Me) (Q : Res D → Prop) : Fl → Prop := fun
  | .rt d m' => RHas Q (leave m d m')
  | .nx _ m' => RHas Q (leave m .non m')
  | _ => False
@[simp ↓, simp] theorem kD_rt {m m' : Me} {Q : Res D → Prop} {d : D} : kD m Q (.rt d m') = RHas Q (leave m d m') := rfl
@[simp ↓, simp] theorem kD_nx {m m' : Me} {Q : Res D → Prop} {ρ : En} : kD m Q (.nx ρ m') = RHas Q (leave m .non m') := rfl
theorem has_def {Q : Res D → Prop} {N n : Nat} {f : MS} {ds : List D} {m : Me} (h : FHas (kD m Q) (f (ds.map some ++ List.replicate (N - n) none) m)) : RHas Q (runDef N n f ds m) := by
  unfold runDef
  cases e : f (ds.map some ++ List.replicate (N - n) none) m with
  | no => rw [e] at h; exact h
  | exc x ρ m => rw [e] at h; exact h
  | nx ρ m => rw [e] at h; exact h
  | rt d m => rw [e] at h; exact h
  | bk ρ m => rw [e] at h; exact h
  | ct ρ m => rw [e] at h; exact h
/-- .. its names written out -/
theorem has_def' {Q : Res D → Prop} {N n : Nat} {f : MS} {ds : List D} {m : Me} (ρ : En) (h : FHas (kD m Q) (f ρ m)) (e : ds.map some ++ List.replicate (N - n) none = ρ := by rfl) : RHas Q (runDef N n f ds m) := has_def (by rw [e]; exact h)
/-- what is computed just so -/
theorem has_eq {α : Type} {a : α} {m : Me} {r : Res α} (h : RHas (fun x => x = .ok a m) r) : r = .ok a m := by
  cases r with
  | no => exact h.elim
  | exc x m => exact h
  | ok a m => exact h
theorem eq_has {α : Type} {Q : Res α → Prop} {a : α} {m : Me} {r : Res α} (e : r = .ok a m) (h : Q (.ok a m)) : RHas Q r := by rw [e]; exact h
theorem feq_has {Q : Fl → Prop} {a : Fl} {r : Fl} (e : r = a) (h : FHas Q a) : FHas Q r := by rw [e]; exact h
theorem feq_of {a : Fl} {r : Fl} (h : FHas (fun x => x = a) r) : r = a := by
  cases r with
  | no => exact h.elim
  | _ => exact h
/-- it ends so -/
abbrev OkR {α : Type} (P : α → Me → Prop) : Res α → Prop := fun r => ∃ a m, r = .ok a m ∧ P a m
theorem RHas.ok {α : Type} {Q : Res α → Prop} {P : α → Me → Prop} {r : Res α} (h : RHas (OkR P) r) (w : ∀ a m, P a m → Q (.ok a m)) : RHas Q r := h.mono fun r ⟨a, m, e, p⟩ => by rw [e]; exact w a m p
theorem RHas.ex {α : Type} {P : α → Me → Prop} {r : Res α} (h : RHas (OkR P) r) : ∃ a m, r = .ok a m ∧ P a m := by
  cases r with
  | no => exact h.elim
  | exc x m => exact h
  | ok a m => exact h
/-! ### loops -/
def kL (I : En → Me → Prop) (Q : Fl → Prop) : Fl → Prop := fun
  | .nx ρ m => I ρ m
  | .ct ρ m => I ρ m
  | .bk ρ m => Q (.nx ρ m)
  | r => Q r
@[simp ↓, simp] theorem kL_nx {I : En → Me → Prop} {Q : Fl → Prop} {ρ : En} {m : Me} : kL I Q (.nx ρ m) = I ρ m := rfl
@[simp ↓, simp] theorem kL_ct {I : En → Me → Prop} {Q : Fl → Prop} {ρ : En} {m : Me} : kL I Q (.ct ρ m) = I ρ m := rfl
@[simp ↓, simp] theorem kL_bk {I : En → Me → Prop} {Q : Fl → Prop} {ρ : En} {m : Me} : kL I Q (.bk ρ m) = Q (.nx ρ m) := rfl
@[simp ↓, simp] theorem kL_rt {I : En → Me → Prop} {Q : Fl → Prop} {d : D} {m : Me} : kL I Q (.rt d m) = Q (.rt d m) := rfl
def kE (I : D → Me → Prop) : Res D → Prop := fun
  | .ok y m => I y m
  | _ => False
@[simp ↓, simp] theorem kE_ok {I : D → Me → Prop} {y : D} {m : Me} : kE I (.ok y m) = I y m := rfl
def kC (J : Me → Prop) (I : D → Me → Prop) (e : Me → Res D) : Res Bool → Prop := fun
  | .ok b m => if b = true then RHas (kE I) (e m) else J m
  | _ => False
@[simp ↓, simp] theorem kC_ok {J : Me → Prop} {I : D → Me → Prop} {e : Me → Res D} {b : Bool} {m : Me} : kC J I e (.ok b m) = if b = true then RHas (kE I) (e m) else J m := rfl
def kX {α : Type} (Q : Res α → Prop) : Res α → Prop := fun
  | .ok a m => Q (.ok a m)
  | _ => False
@[simp ↓, simp] theorem kX_ok {α : Type} {Q : Res α → Prop} {a : α} {m : Me} : kX Q (.ok a m) = Q (.ok a m) := rfl
@[simp ↓, simp] theorem rhas_noX {α : Type} {Q : Res α → Prop} {r : Res α} : RHas Q (noX r) = RHas (kX Q) r := by cases r <;> rfl
theorem for_has {gt : D → En → Option En} {body : MS} {gd : Me → Bool} {Q : Fl → Prop} (Inv : List D → En → Me → Prop)
    (step : ∀ d r ρ m, Inv (d :: r) ρ m → gd m = true ∧ ∃ ρ1, gt d ρ = some ρ1 ∧ FHas (kL (Inv r) Q) (body ρ1 m))
    (done : ∀ ρ m, Inv [] ρ m → gd m = true ∧ Q (.nx ρ m)) {ds : List D} {ρ : En} {m : Me} (h : Inv ds ρ m) : FHas Q (forF gt body gd ds ρ m) := by
  have key : ∀ (ds : List D) (ρ : En) (m : Me), Inv ds ρ m → FHas Q (forF gt body gd ds ρ m) := by
    intro ds
    induction ds with
    | nil =>
      intro ρ m h
      obtain ⟨h1, h2⟩ := done ρ m h
      unfold forF; rw [if_pos h1]; exact h2
    | cons d r ih =>
      intro ρ m h
      obtain ⟨h1, ρ1, h2, h3⟩ := step d r ρ m h
      unfold forF; rw [if_pos h1]; simp only [h2]
      cases e : body ρ1 m with
      | no => rw [e] at h3; exact h3.elim
      | exc x ρ m => rw [e] at h3; exact h3
      | nx ρ2 m2 => rw [e] at h3; exact ih ρ2 m2 h3
      | ct ρ2 m2 => rw [e] at h3; exact ih ρ2 m2 h3
      | bk ρ2 m2 => rw [e] at h3; exact h3
      | rt d m => rw [e] at h3; exact h3
  exact key ds ρ m h
/-- a comprehension, by what holds of the store and of what was made -/
theorem comp_has {gt : D → En → Option En} {c : MT} {e : ME} {gd : Me → Bool} {ρ : En} {Q : Res (List D) → Prop} (Inv : List D → List D → Me → Prop)
    (step : ∀ d r ys m, Inv (d :: r) ys m → gd m = true ∧ ∃ ρ1, gt d ρ = some ρ1 ∧ RHas (kC (Inv r ys) (fun y m2 => Inv r (ys ++ [y]) m2) (e ρ1)) (c ρ1 m))
    (done : ∀ ys m, Inv [] ys m → gd m = true ∧ Q (.ok ys m)) {ds : List D} {m : Me} (h : Inv ds [] m) : RHas Q (compF gt c e gd ρ ds m) := by
  have key : ∀ (ds ys : List D) (m : Me), Inv ds ys m → ∃ zs m', compF gt c e gd ρ ds m = .ok zs m' ∧ Q (.ok (ys ++ zs) m') := by
    intro ds
    induction ds with
    | nil =>
      intro ys m h
      obtain ⟨h1, h2⟩ := done ys m h
      exact ⟨[], m, by unfold compF; rw [if_pos h1], by simpa using h2⟩
    | cons d r ih =>
      intro ys m h
      obtain ⟨h1, ρ1, h2, h3⟩ := step d r ys m h
      cases ec : c ρ1 m with
      | no => rw [ec] at h3; exact h3.elim
      | exc x m => rw [ec] at h3; exact h3.elim
      | ok b m1 =>
        rw [ec] at h3
        simp only [rhas_ok, kC_ok] at h3
        cases b with
        | false =>
          rw [if_neg Bool.false_ne_true] at h3
          obtain ⟨zs, m', e1, e2⟩ := ih ys m1 h3
          exact ⟨zs, m', by unfold compF; simp [h1, h2, ec, e1], e2⟩
        | true =>
          rw [if_pos rfl] at h3
          cases ee : e ρ1 m1 with
          | no => rw [ee] at h3; exact h3.elim
          | exc x m => rw [ee] at h3; exact h3.elim
          | ok y m2 =>
            rw [ee] at h3
            obtain ⟨zs, m', e1, e2⟩ := ih (ys ++ [y]) m2 h3
            exact ⟨y :: zs, m', by unfold compF; simp [h1, h2, ec, ee, e1], by simpa using e2⟩
  obtain ⟨zs, m', e1, e2⟩ := key ds [] m h
  rw [e1]; exact e2
/-- a comprehension over known things whose parts leave the store as it is -/
theorem comp_map {α : Type} {gt : D → En → Option En} {c : MT} {e : ME} {ρ : En} {m : Me} {Q : Res (List D) → Prop} {xs : List α} {g : α → D} (p : α → Bool) (f : α → D)
    (h : ∀ x ∈ xs, ∃ ρ1, gt (g x) ρ = some ρ1 ∧ c ρ1 m = .ok (p x) m ∧ (p x = true → e ρ1 m = .ok (f x) m)) (q : Q (.ok ((xs.filter p).map f) m)) : RHas Q (compF gt c e gdY ρ (xs.map g) m) := by
  have key : ∀ xs : List α, (∀ x ∈ xs, ∃ ρ1, gt (g x) ρ = some ρ1 ∧ c ρ1 m = .ok (p x) m ∧ (p x = true → e ρ1 m = .ok (f x) m)) → compF gt c e gdY ρ (xs.map g) m = .ok ((xs.filter p).map f) m := by
    intro xs
    induction xs with
    | nil => intro _; rfl
    | cons x r ih =>
      intro h
      obtain ⟨ρ1, h1, h2, h3⟩ := h x List.mem_cons_self
      have ih' := ih fun y hy => h y (List.mem_cons_of_mem _ hy)
      rw [List.map_cons]
      unfold compF
      simp only [gdY_e, if_true, h1, h2, noX_ok, Res.bind_ok]
      cases hp : p x with
      | false => simp [hp, ih']
      | true => simp [hp, ih', h3 hp]
  rw [key xs h]; exact q
theorem comp_all {α : Type} {gt : D → En → Option En} {c : MT} {e : ME} {ρ : En} {m : Me} {Q : Res (List D) → Prop} {xs : List α} {g : α → D} (f : α → D)
    (h : ∀ x ∈ xs, ∃ ρ1, gt (g x) ρ = some ρ1 ∧ c ρ1 m = .ok true m ∧ e ρ1 m = .ok (f x) m) (q : Q (.ok (xs.map f) m)) : RHas Q (compF gt c e gdY ρ (xs.map g) m) := by
  refine comp_map (fun _ => true) f (fun x hx => ?_) ?_
  · obtain ⟨ρ1, h1, h2, h3⟩ := h x hx; exact ⟨ρ1, h1, h2, fun _ => h3⟩
  · rw [List.filter_eq_self.mpr fun _ _ => rfl]; exact q
@[simp] theorem isN_non : isN .non = true := rfl
@[simp] theorem isN_bl (b : Bool) : isN (.bl b) = false := rfl
@[simp] theorem isN_int (i : Int) : isN (.int i) = false := rfl
@[simp] theorem isN_str (s : Str) : isN (.str s) = false := rfl
@[simp] theorem isN_tup (xs : List D) : isN (.tup xs) = false := rfl
@[simp] theorem isN_lst (xs : List D) : isN (.lst xs) = false := rfl
@[simp] theorem isN_dct (xs : List (Key × D)) : isN (.dct xs) = false := rfl
@[simp ↓] theorem sPut2_h {Q : Fl → Prop} (fo fi fo' fi' fv : ME) (ρ : En) (m : Me) : FHas Q (sPut2 fo fi fo' fi' fv ρ m) = FHas Q (bindS (fv ρ m) ρ fun d m => match d with
  | .tup [x, y] => bindS (fo ρ m) ρ fun d m => bindS (fi ρ m) ρ fun k m => match dput m d k x with
    | none => .no
    | some m => bindS (fo' ρ m) ρ fun d m => bindS (fi' ρ m) ρ fun k m => match dput m d k y with
      | none => .no
      | some m => .nx ρ m
  | _ => .no) := rfl
@[simp ↓] theorem sPar_h {Q : Fl → Prop} (i j : Nat) (fa : MA) (ρ : En) (m : Me) : FHas Q (sPar i j fa ρ m) = FHas Q (bindS (fa ρ m) ρ fun ds m => match ds with
  | [x, y] => .nx ((ρ.set i (some x)).set j (some y)) m
  | _ => .no) := rfl
/-! ### leaving a def -/
mutual
theorem thaw_clo {n : Nat} {m : Me} : ∀ d : D, clo n d = true → thaw n m d = some d
  | .non, _ => rfl
  | .bl _, _ => rfl
  | .int _, _ => rfl
  | .str _, _ => rfl
  | .scr _, _ => rfl
  | .fn _, _ => rfl
  | .tup ds, h => by simp only [clo] at h; simp [thaw, thawL_clo ds h]
  | .lst ds, h => by simp only [clo] at h; simp [thaw, thawL_clo ds h]
  | .dct kvs, h => by simp only [clo] at h; simp [thaw, h]
  | .ref i, h => by simp only [clo, decide_eq_true_eq] at h; simp [thaw, h]
theorem thawL_clo {n : Nat} {m : Me} : ∀ ds : List D, cloL n ds = true → thawL n m ds = some ds
  | [], _ => rfl
  | d :: ds, h => by simp only [cloL, Bool.and_eq_true] at h; simp [thawL, thaw_clo d h.1, thawL_clo ds h.2]
end
/-- data without things of the store -/
abbrev Pl (d : D) : Prop := ∀ n, clo n d = true
abbrev PlL (ds : List D) : Prop := ∀ n, cloL n ds = true
theorem pll_iff {ds : List D} : PlL ds ↔ ∀ d ∈ ds, Pl d := by
  induction ds with
  | nil => exact ⟨fun _ _ h => (nomatch h), fun _ _ => rfl⟩
  | cons d ds ih =>
    constructor
    · intro h x hx n
      have := h n
      simp only [cloL, Bool.and_eq_true] at this
      rcases List.mem_cons.mp hx with e | hx
      · rw [e]; exact this.1
      · exact ih.mp (fun n => by have := h n; simp only [cloL, Bool.and_eq_true] at this; exact this.2) x hx n
    · intro h n
      simp only [cloL, Bool.and_eq_true]
      exact ⟨h d List.mem_cons_self n, ih.mpr (fun x hx => h x (List.mem_cons_of_mem _ hx)) n⟩
/-- a store of plain things -/
def FlatM (m : Me) : Prop := ∀ c ∈ m, ∀ n, cloC n c = true
theorem FlatM.nil : FlatM [] := fun _ h => nomatch h
theorem FlatM.app {a b : Me} (h : FlatM a) (h' : FlatM b) : FlatM (a ++ b) := fun c hc => by
  rcases List.mem_append.mp hc with q | q
  · exact h c q
  · exact h' c q
theorem FlatM.take {a : Me} (h : FlatM a) (n : Nat) : FlatM (a.take n) := fun c hc => h c (List.mem_of_mem_take hc)
theorem FlatM.set {a : Me} (h : FlatM a) {i : Nat} {c : Cell} (hc : ∀ n, cloC n c = true) : FlatM (a.set i c) := fun x hx => by
  rcases List.mem_or_eq_of_mem_set hx with q | q
  · exact h x q
  · rw [q]; exact hc
theorem FlatM.one {c : Cell} (hc : ∀ n, cloC n c = true) : FlatM [c] := fun x hx => by rw [List.mem_singleton.mp hx]; exact hc
theorem leave_flat {m m' : Me} {d d' : D} (hf : FlatM m') (hl : m.length ≤ m'.length) (ht : thaw m.length m' d = some d') (hs : m'.length = m.length → d' = d) : leave m d m' = .ok d' (m'.take m.length) := by
  unfold leave
  by_cases q : m'.length = m.length
  · rw [if_pos q, hs q, ← q, List.take_length]
  · rw [if_neg q, ht]
    simp only
    rw [if_pos (.inr (List.all_eq_true.mpr fun c hc => hf c (List.mem_of_mem_take hc) _))]
theorem leave_pl {m m' : Me} {d : D} (hf : FlatM m') (hl : m.length ≤ m'.length) (hd : Pl d) : leave m d m' = .ok d (m'.take m.length) :=
  leave_flat hf hl (thaw_clo d (hd _)) fun _ => rfl
theorem leave_own {m m' : Me} {xs : List D} {i : Nat} (hi : m.length ≤ i) (hf : FlatM m') (e : m'[i]? = some (.lst xs)) : leave m (.ref i) m' = .ok (.lst xs) (m'.take m.length) := by
  have hlt := (List.getElem?_eq_some_iff.mp e).1
  refine leave_flat hf (by omega) ?_ (by omega)
  have := hf _ (List.mem_of_getElem? e) m.length
  simp only [cloC] at this
  simp [thaw, show ¬ i < m.length by omega, e, this]
end FL

set_option maxRecDepth 100000
namespace FL
open PySem PySem.Spec PyProof.Rows L2

@[simp ↓] theorem mVar_h {Q : Res _ → Prop} (i : Nat) (ρ : En) (m : Me) : RHas Q (mVar i ρ m) = RHas Q (match ρ[i]? with
  | some (some d) => .ok d m
  | _ => .no) := rfl
@[simp ↓] theorem mC_h {Q : Res _ → Prop} (d : D) (ρ : En) (m : Me) : RHas Q (mC d ρ m) = RHas Q (.ok d m) := rfl
@[simp ↓] theorem mNil_h {Q : Res _ → Prop} (ρ : En) (m : Me) : RHas Q (mNil ρ m) = RHas Q (.ok [] m) := rfl
@[simp ↓] theorem mCons_h {Q : Res _ → Prop} (f : ME) (g : MA) (ρ : En) (m : Me) : RHas Q (mCons f g ρ m) = RHas Q ((f ρ m).bind fun d m => (g ρ m).bind fun ds m => .ok (d :: ds) m) := rfl
@[simp ↓] theorem mTup_h {Q : Res _ → Prop} (f : MA) (ρ : En) (m : Me) : RHas Q (mTup f ρ m) = RHas Q ((f ρ m).bind fun ds m => .ok (.tup ds) m) := rfl
@[simp ↓] theorem mLst_h {Q : Res _ → Prop} (f : MA) (ρ : En) (m : Me) : RHas Q (mLst f ρ m) = RHas Q ((f ρ m).bind fun ds m => .ok (.lst ds) m) := rfl
@[simp ↓] theorem mNew_h {Q : Res _ → Prop} (f : MA) (ρ : En) (m : Me) : RHas Q (mNew f ρ m) = RHas Q ((f ρ m).bind fun ds m => .ok (.ref m.length) (m ++ [.lst ds])) := rfl
@[simp ↓] theorem mNewK_h {Q : Res _ → Prop} (ρ : En) (m : Me) : RHas Q (mNewK ρ m) = RHas Q (.ok (.ref m.length) (m ++ [.dK []])) := rfl
@[simp ↓] theorem m1_h {Q : Res _ → Prop} (g : D → Me → Res D) (fa : ME) (ρ : En) (m : Me) : RHas Q (m1 g fa ρ m) = RHas Q ((fa ρ m).bind g) := rfl
@[simp ↓] theorem m2_h {Q : Res _ → Prop} (g : D → D → Me → Res D) (fa fb : ME) (ρ : En) (m : Me) : RHas Q (m2 g fa fb ρ m) = RHas Q ((fa ρ m).bind fun d m => (fb ρ m).bind fun d' m => g d d' m) := rfl
@[simp ↓] theorem mB_h {Q : Res _ → Prop} (f : ME) (ρ : En) (m : Me) : RHas Q (mB f ρ m) = RHas Q ((f ρ m).bind asB) := rfl
@[simp ↓] theorem mAnd_h {Q : Res _ → Prop} (f g : MT) (ρ : En) (m : Me) : RHas Q (mAnd f g ρ m) = RHas Q ((f ρ m).bind fun b m => if b = true then g ρ m else .ok false m) := rfl
@[simp ↓] theorem mOr_h {Q : Res _ → Prop} (f g : MT) (ρ : En) (m : Me) : RHas Q (mOr f g ρ m) = RHas Q ((f ρ m).bind fun b m => if b = true then .ok true m else g ρ m) := rfl
@[simp ↓] theorem mNot_h {Q : Res _ → Prop} (f : MT) (ρ : En) (m : Me) : RHas Q (mNot f ρ m) = RHas Q ((f ρ m).bind fun b m => .ok (!b) m) := rfl
@[simp ↓] theorem mAndV_h {Q : Res _ → Prop} (f g : ME) (ρ : En) (m : Me) : RHas Q (mAndV f g ρ m) = RHas Q ((f ρ m).bind fun d m => match d with
  | .bl true => g ρ m
  | .bl false => .ok (.bl false) m
  | _ => .no) := rfl
@[simp ↓] theorem mOrV_h {Q : Res _ → Prop} (f g : ME) (ρ : En) (m : Me) : RHas Q (mOrV f g ρ m) = RHas Q ((f ρ m).bind fun d m => match d with
  | .bl true => .ok (.bl true) m
  | .bl false => g ρ m
  | _ => .no) := rfl
@[simp ↓] theorem mNotV_h {Q : Res _ → Prop} (f : ME) (ρ : En) (m : Me) : RHas Q (mNotV f ρ m) = RHas Q ((f ρ m).bind fun d m => match d with
  | .bl b => .ok (.bl (!b)) m
  | _ => .no) := rfl
@[simp ↓] theorem mIf_h {Q : Res _ → Prop} (c : MT) (f g : ME) (ρ : En) (m : Me) : RHas Q (mIf c f g ρ m) = RHas Q ((c ρ m).bind fun b m => if b = true then f ρ m else g ρ m) := rfl
@[simp ↓] theorem mArgs_h {Q : Res _ → Prop} (g : List D → Me → Res D) (fa : MA) (ρ : En) (m : Me) : RHas Q (mArgs g fa ρ m) = RHas Q ((fa ρ m).bind g) := rfl
@[simp ↓] theorem mCall_h {Q : Res _ → Prop} (F : List D → Me → Res D) (fa : MA) (ρ : En) (m : Me) : RHas Q (mCall F fa ρ m) = RHas Q ((fa ρ m).bind fun ds m => noX (F ds m)) := rfl
@[simp ↓] theorem mOpt_h {Q : Res _ → Prop} (f : ME) (ρ : En) (m : Me) : RHas Q (mOpt f ρ m) = RHas Q ((f ρ m).bind fun d m => match d with
  | .int i => .ok (some i) m
  | _ => .no) := rfl
@[simp ↓] theorem mNo_h {Q : Res _ → Prop} (ρ : En) (m : Me) : RHas Q (mNo ρ m) = RHas Q (.ok none m) := rfl
@[simp ↓] theorem mSl_h {Q : Res _ → Prop} (fa : ME) (fl fh : En → Me → Res (Option Int)) (ρ : En) (m : Me) : RHas Q (mSl fa fl fh ρ m) = RHas Q ((fa ρ m).bind fun d m => (fl ρ m).bind fun lo m => (fh ρ m).bind fun hi m => gSl d lo hi m) := rfl
@[simp ↓] theorem m3_h {Q : Res _ → Prop} (g : D → D → D → Me → Res D) (fa fb fc : ME) (ρ : En) (m : Me) : RHas Q (m3 g fa fb fc ρ m) = RHas Q ((fa ρ m).bind fun d m => match view m d with
  | .dct _ => (fb ρ m).bind fun d' m => (fc ρ m).bind fun d'' m => g d d' d'' m
  | _ => .no) := rfl
@[simp ↓] theorem sNext_h {Q : Fl → Prop} (ρ : En) (m : Me) : FHas Q (sNext ρ m) = FHas Q (.nx ρ m) := rfl
@[simp ↓] theorem sSet_h {Q : Fl → Prop} (i : Nat) (f : ME) (ρ : En) (m : Me) : FHas Q (sSet i f ρ m) = FHas Q (bindS (f ρ m) ρ fun d m => .nx (ρ.set i (some d)) m) := rfl
@[simp ↓] theorem sRet_h {Q : Fl → Prop} (f : ME) (ρ : En) (m : Me) : FHas Q (sRet f ρ m) = FHas Q (bindS (f ρ m) ρ fun d m => .rt d m) := rfl
@[simp ↓] theorem sRetN_h {Q : Fl → Prop} (ρ : En) (m : Me) : FHas Q (sRetN ρ m) = FHas Q (.rt .non m) := rfl
@[simp ↓] theorem sDo_h {Q : Fl → Prop} (f : ME) (ρ : En) (m : Me) : FHas Q (sDo f ρ m) = FHas Q (bindS (f ρ m) ρ fun _ m => .nx ρ m) := rfl
@[simp ↓] theorem sIf_h {Q : Fl → Prop} (c : MT) (f g : MS) (ρ : En) (m : Me) : FHas Q (sIf c f g ρ m) = FHas Q (bindS (c ρ m) ρ fun b m => if b = true then f ρ m else g ρ m) := rfl
@[simp ↓] theorem sBk_h {Q : Fl → Prop} (ρ : En) (m : Me) : FHas Q (sBk ρ m) = FHas Q (.bk ρ m) := rfl
@[simp ↓] theorem sCt_h {Q : Fl → Prop} (ρ : En) (m : Me) : FHas Q (sCt ρ m) = FHas Q (.ct ρ m) := rfl
@[simp ↓] theorem sFor_h {Q : Fl → Prop} (it : MI) (gt : D → En → Option En) (body : MS) (ρ : En) (m : Me) : FHas Q (sFor it gt body ρ m) = FHas Q (bindS (it ρ m) ρ fun p m => forF gt body p.2 p.1 ρ m) := rfl
@[simp ↓] theorem sAsg_h {Q : Fl → Prop} (gt : D → En → Option En) (f : ME) (ρ : En) (m : Me) : FHas Q (sAsg gt f ρ m) = FHas Q (bindS (f ρ m) ρ fun d m => match gt d ρ with
  | some ρ' => .nx ρ' m
  | none => .no) := rfl
@[simp ↓] theorem sDput_h {Q : Fl → Prop} (fo fi fv : ME) (ρ : En) (m : Me) : FHas Q (sDput fo fi fv ρ m) = FHas Q (bindS (fv ρ m) ρ fun y m => bindS (fo ρ m) ρ fun d m => bindS (fi ρ m) ρ fun k m => match dput m d k y with
  | some m' => .nx ρ m'
  | none => .no) := rfl
@[simp ↓] theorem sDaug_h {Q : Fl → Prop} (fo fi fe : ME) (ρ : En) (m : Me) : FHas Q (sDaug fo fi fe ρ m) = FHas Q (bindS (fo ρ m) ρ fun d m => bindS (fi ρ m) ρ fun k m => match look m d k with
  | some (some (.int i)) => bindS (fe ρ m) ρ fun y m => match y with
    | .int j => match dput m d k (.int (i + j)) with
      | some m' => .nx ρ m'
      | none => .no
    | _ => .no
  | _ => .no) := rfl
@[simp ↓] theorem sAug_h {Q : Fl → Prop} (i : Nat) (f : D → D → Me → Res D) (fe : ME) (ρ : En) (m : Me) : FHas Q (sAug i f fe ρ m) = FHas Q (match ρ[i]? with
  | some (some d) => bindS (fe ρ m) ρ fun y m => bindS (f d y m) ρ fun z m => .nx (ρ.set i (some z)) m
  | _ => .no) := rfl
@[simp ↓] theorem sSetIx_h {Q : Fl → Prop} (fo fi fv : ME) (ρ : En) (m : Me) : FHas Q (sSetIx fo fi fv ρ m) = FHas Q (bindS (fv ρ m) ρ fun y m => bindS (fo ρ m) ρ fun d m => bindS (fi ρ m) ρ fun k m => match d, k with
  | .ref i, .int k => match m[i]? with
    | some (.lst xs) => match ixN xs.length k with
      | some j => .nx ρ (m.set i (.lst (xs.set j y)))
      | none => .no
    | _ => .no
  | _, _ => .no) := rfl
@[simp ↓] theorem mAppend_h {Q : Res _ → Prop} (fo fe : ME) (ρ : En) (m : Me) : RHas Q (mAppend fo fe ρ m) = RHas Q ((fo ρ m).bind fun d m => match d with
  | .ref i => match m[i]? with
    | some (.lst _) => (fe ρ m).bind fun y m => match m[i]? with
      | some (.lst xs) => if xs.length < 1000000 then .ok .non (m.set i (.lst (xs ++ [y]))) else .no
      | _ => .no
    | _ => .no
  | _ => .no) := rfl
@[simp ↓] theorem mExtend_h {Q : Res _ → Prop} (fo fe : ME) (ρ : En) (m : Me) : RHas Q (mExtend fo fe ρ m) = RHas Q ((fo ρ m).bind fun d m => match d with
  | .ref i => match m[i]? with
    | some (.lst _) => (fe ρ m).bind fun y m => match m[i]?, lstV m y with
      | some (.lst xs), some ys => if xs.length + ys.length < 1000000 then .ok .non (m.set i (.lst (xs ++ ys))) else .no
      | _, _ => .no
    | _ => .no
  | _ => .no) := rfl
@[simp ↓] theorem iSeq_h {Q : Res _ → Prop} (f : ME) (ρ : En) (m : Me) : RHas Q (iSeq f ρ m) = RHas Q ((f ρ m).bind asIt) := rfl
@[simp ↓] theorem iRange1_h {Q : Res _ → Prop} (f : MA) (ρ : En) (m : Me) : RHas Q (iRange1 f ρ m) = RHas Q ((f ρ m).bind fun ds m => match ds with
  | [.int j] => if j ≤ 1000000 ∧ -1000000 ≤ j then .ok (rngL 0 j.toNat, gdY) m else .no
  | _ => .no) := rfl
@[simp ↓] theorem iRange2_h {Q : Res _ → Prop} (f : MA) (ρ : En) (m : Me) : RHas Q (iRange2 f ρ m) = RHas Q ((f ρ m).bind fun ds m => match ds with
  | [.int i, .int j] => if (j ≤ 1000000 ∧ -1000000 ≤ j) ∧ i ≤ 1000000 ∧ -1000000 ≤ i then .ok (rngL i (j - i).toNat, gdY) m else .no
  | _ => .no) := rfl
@[simp ↓] theorem mComp_h {Q : Res _ → Prop} (it : MI) (vs : List Nat) (gt : D → En → Option En) (c : MT) (e : ME) (ρ : En) (m : Me) : RHas Q (mComp it vs gt c e ρ m) = RHas Q ((it ρ m).bind fun p m => (noX (compF gt c e p.2 (wipeD ρ vs) p.1 m)).bind fun ys m => .ok (.lst ys) m) := rfl
@[simp ↓] theorem mDisp_h {Q : Res _ → Prop} (f : En → Me → Res (List (Key × D))) (ρ : En) (m : Me) : RHas Q (mDisp f ρ m) = RHas Q ((f ρ m).bind fun kvs m => if kvs.length ≤ 15 then .ok (.ref m.length) (m ++ [.dK (kvs.foldl (fun acc kv => setK acc kv.1 kv.2) [])]) else .no) := rfl
@[simp ↓] theorem pNil_h {Q : Res _ → Prop} (ρ : En) (m : Me) : RHas Q (pNil ρ m) = RHas Q (.ok [] m) := rfl
@[simp ↓] theorem pCons_h {Q : Res _ → Prop} (fk fv : ME) (fr : En → Me → Res (List (Key × D))) (ρ : En) (m : Me) : RHas Q (pCons fk fv fr ρ m) = RHas Q ((fk ρ m).bind fun k m => match keyD k with
  | none => .no
  | some k => (fv ρ m).bind fun v m => (fr ρ m).bind fun r m => .ok ((k, v) :: r) m) := rfl
@[simp ↓] theorem cYes_h {Q : Res _ → Prop} (ρ : En) (m : Me) : RHas Q (cYes ρ m) = RHas Q (.ok true m) := rfl
end FL

set_option maxRecDepth 100000
namespace FL
open PySem PySem.Spec PyProof.Rows L2

/-! ### the draws: a dict of draws, at, and what else stands in it -/
def WX (draws : List Int) (k : Int) (ex : List (Key × D)) : Cell := .dK ((.inr "draws", .lst (draws.map .int)) :: (.inr "at", .int k) :: ex)
theorem look_atX {m : Me} {i : Nat} {ds : List Int} {k : Int} {ex : List (Key × D)} (h : m[i]? = some (WX ds k ex)) : look m (.ref i) (.str "at") = some (some (.int k)) := by
  unfold look; rw [view_ref_dK h]; rfl
theorem look_drawsX {m : Me} {i : Nat} {ds : List Int} {k : Int} {ex : List (Key × D)} (h : m[i]? = some (WX ds k ex)) : look m (.ref i) (.str "draws") = some (some (.lst (ds.map .int))) := by
  unfold look; rw [view_ref_dK h]; rfl
/-- keys beside draws and at -/
def ExOk (ex : List (Key × D)) : Prop := (∀ p ∈ ex, p.1 ≠ .inr "at") ∧ ex.length < 1000 ∧ ∀ n, cloK n ex = true
theorem setK_at {ds : List Int} {k k' : Int} {ex : List (Key × D)} (h : ExOk ex) : setK ((.inr "draws", .lst (ds.map .int)) :: (.inr "at", .int k) :: ex) (.inr "at") (.int k') = (.inr "draws", .lst (ds.map .int)) :: (.inr "at", .int k') :: ex := by
  have e : ex.map (fun kv => if kv.1 = (Sum.inr ("at" : Str) : Key) then (kv.1, D.int k') else kv) = ex := by
    have : ∀ l : List (Key × D), (∀ p ∈ l, p.1 ≠ .inr "at") → l.map (fun kv => if kv.1 = (Sum.inr ("at" : Str) : Key) then (kv.1, D.int k') else kv) = l := by
      intro l
      induction l with
      | nil => intro _; rfl
      | cons p l ih => intro h; rw [List.map_cons, if_neg (h p List.mem_cons_self), ih fun q hq => h q (List.mem_cons_of_mem _ hq)]
    exact this ex h.1
  have n1 : ¬ (("draws" : Str) = ("at" : Str)) := by decide +kernel
  unfold setK
  rw [if_pos (by simp), List.map_cons, List.map_cons, e]
  simp [n1]
theorem clo_ints' (n : Nat) : ∀ l : List Int, cloL n (l.map D.int) = true
  | [] => rfl
  | a :: l => by simp [cloL, clo, clo_ints' n l]
theorem clo_wx {ds : List Int} {k : Int} {ex : List (Key × D)} (h : ExOk ex) (n : Nat) : cloC n (WX ds k ex) = true := by
  simp [WX, cloC, cloK, cloP, clo, clo_ints', h.2.2 n]
structure Wt (i : Nat) (ds : List Int) (ex : List (Key × D)) (m : Me) : Prop where
  w : ∃ k : Int, 0 ≤ k ∧ m[i]? = some (WX ds k ex)
  f : FlatM m
  x : ExOk ex
def Ev (i : Nat) (ds : List Int) (ex : List (Key × D)) (m m' : Me) : Prop := ∃ k : Int, 0 ≤ k ∧ m' = m.set i (WX ds k ex)
section
variable {i : Nat} {ds : List Int} {ex : List (Key × D)} {m m' m'' c : Me}
theorem Wt.lt (h : Wt i ds ex m) : i < m.length := by obtain ⟨k, _, e⟩ := h.w; exact (List.getElem?_eq_some_iff.mp e).1
theorem Wt.ev (h : Wt i ds ex m) (e : Ev i ds ex m m') : Wt i ds ex m' := by
  obtain ⟨k, h0, rfl⟩ := e
  exact ⟨⟨k, h0, List.getElem?_set_self h.lt⟩, h.f.set (clo_wx h.x), h.x⟩
theorem Wt.app (h : Wt i ds ex m) (hc : FlatM c) : Wt i ds ex (m ++ c) := by
  obtain ⟨k, h0, e⟩ := h.w
  exact ⟨⟨k, h0, by rw [List.getElem?_append_left (List.getElem?_eq_some_iff.mp e).1]; exact e⟩, h.f.app hc, h.x⟩
theorem Ev.refl (h : Wt i ds ex m) : Ev i ds ex m m := by
  obtain ⟨k, h0, e⟩ := h.w
  refine ⟨k, h0, ?_⟩
  obtain ⟨hi, e⟩ := List.getElem?_eq_some_iff.mp e
  rw [← e, List.set_getElem_self]
theorem Ev.trans (h : Ev i ds ex m m') (h' : Ev i ds ex m' m'') : Ev i ds ex m m'' := by
  obtain ⟨k, h0, rfl⟩ := h
  obtain ⟨k', h0', rfl⟩ := h'
  exact ⟨k', h0', by rw [List.set_set]⟩
theorem Ev.len (h : Ev i ds ex m m') : m'.length = m.length := by obtain ⟨k, _, rfl⟩ := h; simp
theorem Ev.get (h : Ev i ds ex m m') {j : Nat} (hj : i ≠ j) : m'[j]? = m[j]? := by obtain ⟨k, _, rfl⟩ := h; rw [List.getElem?_set_ne hj]
theorem Ev.app (h : Wt i ds ex m) (e : Ev i ds ex (m ++ c) m') : ∃ m1, m' = m1 ++ c ∧ Ev i ds ex m m1 := by
  obtain ⟨k, h0, rfl⟩ := e
  exact ⟨_, by rw [List.set_append_left _ _ h.lt], k, h0, rfl⟩
theorem next_has {F : List D → Me → Res D} {f : Nat → List D → Me → Res D} (h : Wt i ds ex m) (hF : F = runDef 2 2 (bNext f)) {a : Int} (ha : 0 < a) :
    RHas (OkR fun d m' => ∃ v : Nat, (v : Int) < a ∧ d = .int v ∧ Ev i ds ex m m') (F [.ref i, .int a] m) := by
  subst hF
  obtain ⟨k, hk, e⟩ := h.w
  have hi := h.lt
  have hp : dput m (.ref i) (.str "at") (.int (k + 1)) = some (m.set i (WX ds (k + 1) ex)) := by
    unfold dput; simp only [keyD, e]; rw [WX]; simp only; rw [if_pos (by have := h.x.2.1; simp; omega), setK_at h.x]; rfl
  have h' : (m.set i (WX ds (k + 1) ex))[i]? = some (WX ds (k + 1) ex) := List.getElem?_set_self hi
  have hl : (m.set i (WX ds (k + 1) ex)).length = m.length := List.length_set ..
  by_cases hc : (ds.length : Int) < k + 1
  · refine eq_has (a := .int 0) (m := m.set i (WX ds (k + 1) ex)) ?_ ⟨_, _, rfl, 0, ha, rfl, k + 1, by omega, rfl⟩
    simp [runDef, bNext, look_atX e, hp, gDget, look_atX h', look_drawsX h', hc, leave_same hl]
  · have hlt : k.toNat < ds.length := by omega
    have e1 : atI (ds.map D.int) k = some (.int (ds[k.toNat])) := by
      have q : atI (ds.map D.int) ((k.toNat : Nat) : Int) = some (.int (ds[k.toNat])) := atI_nat (by rw [List.getElem?_map]; simp [hlt])
      rwa [show ((k.toNat : Nat) : Int) = k by omega] at q
    have h0 := Int.emod_nonneg ds[k.toNat] (b := a) (by omega)
    refine eq_has (a := .int (ds[k.toNat] % a)) (m := m.set i (WX ds (k + 1) ex)) ?_ ⟨_, _, rfl, (ds[k.toNat] % a).toNat, by rw [Int.toNat_of_nonneg h0]; exact Int.emod_lt_of_pos _ ha, by rw [Int.toNat_of_nonneg h0], k + 1, by omega, rfl⟩
    simp [runDef, bNext, look_atX e, hp, gDget, look_atX h', look_drawsX h', hc, leave_same hl, gIx, e1, gMod_int ha]
theorem pick_has {F : List D → Me → Res D} {f g : Nat → List D → Me → Res D} {j : Nat} (h : Wt i ds ex m) (hF : F = runDef 2 2 (bPick j f)) (hN : f j = runDef 2 2 (bNext g)) {xs : List D} (hx : xs ≠ []) :
    RHas (OkR fun d m' => d ∈ xs ∧ Ev i ds ex m m') (F [.ref i, .lst xs] m) := by
  subst hF
  have hpos : 0 < xs.length := List.length_pos_iff.mpr hx
  obtain ⟨d, m', e, v, hv, rfl, ev⟩ := (next_has h hN (a := (xs.length : Int)) (by omega)).ex
  have hv' : v < xs.length := by omega
  refine eq_has (a := xs[v]) (m := m') ?_ ⟨_, _, rfl, List.getElem_mem hv', ev⟩
  have e1 : atI xs (v : Int) = some xs[v] := atI_nat (List.getElem?_eq_getElem hv')
  simp [runDef, bPick, e, gIx, e1, leave_same ev.len]
end
/-- a comprehension that draws: so many things that are P -/
theorem comp_gen {gt : D → En → Option En} {c : MT} {e : ME} {ρ : En} {Q : Res (List D) → Prop} {i : Nat} {ds : List Int} {ex : List (Key × D)} (P : D → Prop) {xs : List D} {m : Me} (h : Wt i ds ex m)
    (step : ∀ d ∈ xs, ∀ m', Ev i ds ex m m' → Wt i ds ex m' → ∃ ρ1, gt d ρ = some ρ1 ∧ RHas (kC (fun _ => False) (fun y m2 => P y ∧ Ev i ds ex m' m2) (e ρ1)) (c ρ1 m'))
    (done : ∀ ys m', ys.length = xs.length → (∀ y ∈ ys, P y) → Ev i ds ex m m' → Q (.ok ys m')) : RHas Q (compF gt c e gdY ρ xs m) := by
  refine comp_has (fun r ys m' => ys.length + r.length = xs.length ∧ (∀ d ∈ r, d ∈ xs) ∧ (∀ y ∈ ys, P y) ∧ Ev i ds ex m m') (fun d r ys m' ⟨h1, h2, h3, h4⟩ => ⟨rfl, ?_⟩) (fun ys m' ⟨h1, _, h3, h4⟩ => ⟨rfl, done ys m' (by simpa using h1) h3 h4⟩) ⟨by simp, fun _ h => h, by simp, Ev.refl h⟩
  obtain ⟨ρ1, q1, q2⟩ := step d (h2 d List.mem_cons_self) m' h4 (h.ev h4)
  refine ⟨ρ1, q1, ?_⟩
  cases ec : c ρ1 m' with
  | no => rw [ec] at q2; exact q2.elim
  | exc x m => rw [ec] at q2; exact q2.elim
  | ok b m1 =>
    rw [ec] at q2
    simp only [rhas_ok, kC_ok] at q2 ⊢
    cases b with
    | false => rw [if_neg Bool.false_ne_true] at q2; exact q2.elim
    | true =>
      rw [if_pos rfl] at q2 ⊢
      cases ee : e ρ1 m1 with
      | no => rw [ee] at q2; exact q2.elim
      | exc x m => rw [ee] at q2; exact q2.elim
      | ok y m2 =>
        rw [ee] at q2
        obtain ⟨p1, p2⟩ := q2
        refine ⟨by simp at h1 ⊢; omega, fun z hz => h2 z (List.mem_cons_of_mem _ hz), fun z hz => ?_, h4.trans p2⟩
        rcases List.mem_append.mp hz with q | q
        · exact h3 z q
        · rw [List.mem_singleton.mp q]; exact p1
end FL

set_option maxRecDepth 100000
namespace FL
open PySem PySem.Spec PyProof.Rows L2

/-! ### texts that are written out -/
theorem ofs_inj {a b : String} : Str.ofString a = Str.ofString b ↔ a = b := by
  constructor
  · intro h
    rw [Str.ofString_eq_toList, Str.ofString_eq_toList] at h
    simp only [Str.mk.injEq, List.toArray_inj] at h
    have e : a.toList = b.toList := by
      have key : ∀ l l' : List Char, l.map Char.toNat = l'.map Char.toNat → l = l' := by
        intro l
        induction l with
        | nil => intro l' h; cases l' with
          | nil => rfl
          | cons _ _ => simp at h
        | cons c l ih => intro l' h; cases l' with
          | nil => simp at h
          | cons c' l' =>
            simp only [List.map_cons, List.cons.injEq] at h
            rw [ih l' h.2, Char.toNat_inj.mp h.1]
      exact key _ _ (by simpa using h)
    exact String.toList_inj.mp e
  · rintro rfl; rfl
@[simp ↓, simp] theorem ofs_eq (a b : String) : (Str.ofString a = Str.ofString b) = (a = b) := propext ofs_inj
@[simp ↓, simp] theorem ofs_beq (a b : String) : (Str.ofString a == Str.ofString b) = decide (a = b) := by
  rw [show (Str.ofString a == Str.ofString b) = decide (Str.ofString a = Str.ofString b) from rfl]; simp only [ofs_eq]
@[simp ↓, simp] theorem strOk_ofs (a : String) : PyData.strOk (Str.ofString a) = true := by
  rw [Str.ofString_eq_toList]
  unfold PyData.strOk
  simp only [Array.all_eq_true_iff_forall_mem, List.mem_toArray, List.mem_map, decide_eq_true_eq]
  rintro x ⟨c, _, rfl⟩
  have := c.valid
  unfold UInt32.isValidChar Nat.isValidChar at this
  have e : c.toNat = c.val.toNat := rfl
  omega
@[simp ↓, simp] theorem gEq_ofs (a b : String) (m : Me) : gEq (.str (Str.ofString a)) (.str (Str.ofString b)) m = .ok (.bl (decide (a = b))) m := by
  rw [gEq_str _ _ _ (strOk_ofs a) (strOk_ofs b), ofs_beq]
@[simp ↓, simp] theorem gNe_ofs (a b : String) (m : Me) : gNe (.str (Str.ofString a)) (.str (Str.ofString b)) m = .ok (.bl (!decide (a = b))) m := by
  rw [gNe_str _ _ _ (strOk_ofs a) (strOk_ofs b), ofs_beq]

/-! ### plain data without truths -/
mutual
def nb : D → Bool
  | .non => true
  | .int _ => true
  | .str s => PyData.strOk s
  | .tup xs => nbL xs
  | .lst xs => nbL xs
  | _ => false
def nbL : List D → Bool
  | [] => true
  | x :: xs => nb x && nbL xs
end
mutual
def dpD : D → Nat
  | .tup xs => dpL xs + 1
  | .lst xs => dpL xs + 1
  | _ => 0
def dpL : List D → Nat
  | [] => 0
  | x :: xs => max (dpD x) (dpL xs)
end
mutual
def pyT : D → PyData
  | .non => .none
  | .bl b => .bool b
  | .int i => .int i
  | .str s => .str s
  | .tup xs => .tuple (pyTs xs)
  | .lst xs => .list (pyTs xs)
  | _ => .none
def pyTs : List D → List PyData
  | [] => []
  | x :: xs => pyT x :: pyTs xs
end
theorem nbL_iff {xs : List D} : nbL xs = true ↔ ∀ x ∈ xs, nb x = true := by
  induction xs with
  | nil => simp [nbL]
  | cons a l ih => simp [nbL, ih]
theorem dpL_le {xs : List D} {n : Nat} : dpL xs ≤ n ↔ ∀ x ∈ xs, dpD x ≤ n := by
  induction xs with
  | nil => simp [dpL]
  | cons a l ih => simp only [dpL, List.mem_cons, forall_eq_or_imp, ← ih]; omega
mutual
theorem py_nb : ∀ d : D, nb d = true → py d = some (pyT d)
  | .non, _ => rfl
  | .int _, _ => rfl
  | .str _, _ => rfl
  | .tup xs, h => by simp only [py, pyT, pyL_nb xs h, Option.map_some]
  | .lst xs, h => by simp only [py, pyT, pyL_nb xs h, Option.map_some]
  | .bl _, h => by cases h
  | .dct _, h => by cases h
  | .ref _, h => by cases h
  | .scr _, h => by cases h
theorem pyL_nb : ∀ ds : List D, nbL ds = true → pyL ds = some (pyTs ds)
  | [], _ => rfl
  | d :: ds, h => by
    simp only [nbL, Bool.and_eq_true] at h
    simp only [pyL, pyTs, py_nb d h.1, pyL_nb ds h.2, Option.bind_some, Option.map_some]
end
mutual
theorem lay_nb : ∀ d : D, nb d = true → (pyT d).canLay0 = true ∧ (pyT d).depth = dpD d
  | .non, _ => ⟨rfl, rfl⟩
  | .int _, _ => ⟨rfl, rfl⟩
  | .str s, h => ⟨by simpa [pyT, PyData.canLay0, nb] using h, rfl⟩
  | .tup xs, h => by
    have := layL_nb xs h
    simp only [pyT, PyData.canLay0, PyData.depth, dpD, this, and_self]
  | .lst xs, h => by
    have := layL_nb xs h
    simp only [pyT, PyData.canLay0, PyData.depth, dpD, this, and_self]
  | .bl _, h => by cases h
  | .dct _, h => by cases h
  | .ref _, h => by cases h
  | .scr _, h => by cases h
theorem layL_nb : ∀ ds : List D, nbL ds = true → PyData.canLayAll0 (pyTs ds) = true ∧ PyData.depthAll (pyTs ds) = dpL ds
  | [], _ => ⟨rfl, rfl⟩
  | d :: ds, h => by
    simp only [nbL, Bool.and_eq_true] at h
    have h1 := lay_nb d h.1
    have h2 := layL_nb ds h.2
    simp only [pyTs, PyData.canLayAll0, PyData.depthAll, dpL, h1, h2, Bool.and_self, and_self]
end
theorem shaped_nb {d : D} (h : nb d = true) (hd : dpD d ≤ 64) : SeqAt.shaped (pyT d) = true := by
  unfold SeqAt.shaped
  obtain ⟨h1, h2⟩ := lay_nb d h
  rw [h1, h2]; simpa using hd
mutual
theorem eqv_nb : ∀ a b : D, nb a = true → nb b = true → (PyData.eqv (pyT a) (pyT b) = true ↔ a = b)
  | .non, b, _, hb => by cases b <;> simp [pyT, PyData.eqv] <;> simp [nb] at hb
  | .int i, b, _, hb => by cases b <;> simp [pyT, PyData.eqv] <;> simp [nb] at hb
  | .str i, b, _, hb => by cases b <;> simp [pyT, PyData.eqv] <;> simp [nb] at hb
  | .tup xs, b, ha, hb => by
    cases b with
    | tup ys => simp only [pyT, PyData.eqv, D.tup.injEq]; exact eqvL_nb xs ys ha hb
    | _ => simp [pyT, PyData.eqv]
  | .lst xs, b, ha, hb => by
    cases b with
    | lst ys => simp only [pyT, PyData.eqv, D.lst.injEq]; exact eqvL_nb xs ys ha hb
    | _ => simp [pyT, PyData.eqv]
  | .bl _, _, h, _ => by cases h
  | .dct _, _, h, _ => by cases h
  | .ref _, _, h, _ => by cases h
  | .scr _, _, h, _ => by cases h
theorem eqvL_nb : ∀ a b : List D, nbL a = true → nbL b = true → (PyData.eqvAll (pyTs a) (pyTs b) = true ↔ a = b)
  | [], b, _, _ => by cases b <;> simp [pyTs, PyData.eqvAll]
  | x :: xs, [], _, _ => by simp [pyTs, PyData.eqvAll]
  | x :: xs, y :: ys, ha, hb => by
    simp only [nbL, Bool.and_eq_true] at ha hb
    simp only [pyTs, PyData.eqvAll, Bool.and_eq_true, List.cons.injEq, eqv_nb x y ha.1 hb.1, eqvL_nb xs ys ha.2 hb.2]
end
open Classical in
/-- two data are one -/
noncomputable def eqc (a b : D) : Bool := decide (a = b)
theorem eqc_iff {a b : D} : eqc a b = true ↔ a = b := by simp [eqc]
theorem eqc_self (a : D) : eqc a a = true := eqc_iff.mpr rfl
theorem eqc_ne {a b : D} (h : a ≠ b) : eqc a b = false := by simpa [eqc] using h
theorem view_nb {d : D} (m : Me) (h : nb d = true) : view m d = d := by cases d <;> first | rfl | cases h
theorem gEq_nb {a b : D} (m : Me) (ha : nb a = true) (hb : nb b = true) (da : dpD a ≤ 64) (db : dpD b ≤ 64) : gEq a b m = .ok (.bl (eqc a b)) m := by
  unfold gEq
  rw [view_nb m ha, view_nb m hb, py_nb a ha, py_nb b hb]
  simp only [eqRes]
  rw [if_pos ⟨shaped_nb ha da, shaped_nb hb db⟩, Bool.eq_iff_iff.mpr ((eqv_nb a b ha hb).trans eqc_iff.symm)]
  simp
theorem gNe_nb {a b : D} (m : Me) (ha : nb a = true) (hb : nb b = true) (da : dpD a ≤ 64) (db : dpD b ≤ 64) : gNe a b m = .ok (.bl (!eqc a b)) m := by
  unfold gNe
  rw [view_nb m ha, view_nb m hb, py_nb a ha, py_nb b hb]
  simp only [eqRes]
  rw [if_pos ⟨shaped_nb ha da, shaped_nb hb db⟩, Bool.eq_iff_iff.mpr ((eqv_nb a b ha hb).trans eqc_iff.symm)]
  simp
@[simp ↓, simp] theorem gEq_bl (a b : Bool) (m : Me) : gEq (.bl a) (.bl b) m = .ok (.bl (a == b)) m := by
  have sh : ∀ {x : Bool}, SeqAt.shaped (.bool x) = true := by intro x; cases x <;> decide +kernel
  have v : ∀ b : Bool, view m (.bl b) = .bl b := fun _ => rfl
  simp only [gEq, v, py, eqRes]
  rw [if_pos ⟨sh, sh⟩]
  simp [PyData.eqv]
@[simp ↓, simp] theorem gNe_bl (a b : Bool) (m : Me) : gNe (.bl a) (.bl b) m = .ok (.bl (!(a == b))) m := by
  have sh : ∀ {x : Bool}, SeqAt.shaped (.bool x) = true := by intro x; cases x <;> decide +kernel
  have v : ∀ b : Bool, view m (.bl b) = .bl b := fun _ => rfl
  simp only [gNe, v, py, eqRes]
  rw [if_pos ⟨sh, sh⟩]
  simp [PyData.eqv]
/-- == with the empty list -/
theorem gEq_lnil {xs : List D} (m : Me) (h : nbL xs = true) (hd : dpL xs ≤ 63) : gEq (.lst xs) (.lst []) m = .ok (.bl xs.isEmpty) m := by
  rw [gEq_nb m (by simpa [nb] using h) rfl (by simp only [dpD]; omega) (by simp [dpD, dpL])]
  cases xs with
  | nil => rw [eqc_self]; rfl
  | cons x xs => rw [eqc_ne (by simp)]; rfl
theorem gNe_lnil {xs : List D} (m : Me) (h : nbL xs = true) (hd : dpL xs ≤ 63) : gNe (.lst xs) (.lst []) m = .ok (.bl (!xs.isEmpty)) m := by
  rw [gNe_nb m (by simpa [nb] using h) rfl (by simp only [dpD]; omega) (by simp [dpD, dpL])]
  cases xs with
  | nil => rw [eqc_self]; rfl
  | cons x xs => rw [eqc_ne (by simp)]; rfl
mutual
theorem clo_nb (n : Nat) : ∀ d : D, nb d = true → clo n d = true
  | .non, _ => rfl
  | .int _, _ => rfl
  | .str _, _ => rfl
  | .tup xs, h => by simp only [clo]; exact cloL_nb n xs h
  | .lst xs, h => by simp only [clo]; exact cloL_nb n xs h
  | .bl _, h => by cases h
  | .dct _, h => by cases h
  | .ref _, h => by cases h
  | .scr _, h => by cases h
theorem cloL_nb (n : Nat) : ∀ ds : List D, nbL ds = true → cloL n ds = true
  | [], _ => rfl
  | d :: ds, h => by
    simp only [nbL, Bool.and_eq_true] at h
    simp only [cloL, clo_nb n d h.1, cloL_nb n ds h.2, Bool.and_self]
end
theorem pl_nb {d : D} (h : nb d = true) : Pl d := fun n => clo_nb n d h
/-! ### in -/
theorem gInN_nb {neg : Bool} {d s : D} {xs : List D} (m : Me) (hs : seqV m s = some xs) (hd : nb d = true ∧ flatD d = true) (hx : ∀ x ∈ xs, nb x = true ∧ flatD x = true) : gInN neg d s m = .ok (.bl (if neg then !(xs.any fun x => eqc x d) else xs.any fun x => eqc x d)) m := by
  have e : ∀ x ∈ xs, eqF x d = eqc x d := fun x h => by
    have h1 := hx x h
    rw [Bool.eq_iff_iff, eqc_iff]
    cases x <;> cases d <;> simp [nb, flatD] at h1 hd <;> simp [eqF]
  have e2 : (xs.any fun e => eqF e d) = xs.any fun x => eqc x d := by
    rw [Bool.eq_iff_iff, List.any_eq_true, List.any_eq_true]
    exact ⟨fun ⟨x, q1, q2⟩ => ⟨x, q1, by rw [← e x q1]; exact q2⟩, fun ⟨x, q1, q2⟩ => ⟨x, q1, by rw [e x q1]; exact q2⟩⟩
  unfold gInN
  rw [hs]
  simp only
  rw [if_pos ⟨hd.2, List.all_eq_true.mpr fun x h => (hx x h).2⟩, e2]
/-- a text among texts that are written out -/
theorem gIn_ofs {neg : Bool} (a : String) (l : List String) (m : Me) : gInN neg (.str (Str.ofString a)) (.tup (l.map fun s => .str (Str.ofString s))) m = .ok (.bl (if neg then !(decide (a ∈ l)) else decide (a ∈ l))) m := by
  rw [gInN_nb (xs := l.map fun s => .str (Str.ofString s)) m rfl ⟨by simp [nb], rfl⟩ (fun x h => by obtain ⟨s, _, rfl⟩ := List.mem_map.mp h; exact ⟨by simp [nb], rfl⟩)]
  have e : ((l.map fun s => D.str (Str.ofString s)).any fun x => eqc x (.str (Str.ofString a))) = decide (a ∈ l) := by
    rw [Bool.eq_iff_iff, List.any_eq_true]
    simp only [decide_eq_true_eq]
    constructor
    · rintro ⟨x, hx, h⟩
      obtain ⟨s, hs, rfl⟩ := List.mem_map.mp hx
      have := eqc_iff.mp h
      simp at this; subst this; exact hs
    · intro h
      exact ⟨_, List.mem_map_of_mem h, eqc_self _⟩
  rw [e]
theorem gIn_2 (neg : Bool) (a b c : String) (m : Me) : gInN neg (.str (Str.ofString a)) (.tup [.str (Str.ofString b), .str (Str.ofString c)]) m = .ok (.bl (if neg then !(decide (a = b ∨ a = c)) else decide (a = b ∨ a = c))) m := by
  have := gIn_ofs (neg := neg) a [b, c] m
  simpa using this
theorem gIn_3 (neg : Bool) (a b c d : String) (m : Me) : gInN neg (.str (Str.ofString a)) (.tup [.str (Str.ofString b), .str (Str.ofString c), .str (Str.ofString d)]) m = .ok (.bl (if neg then !(decide (a = b ∨ a = c ∨ a = d)) else decide (a = b ∨ a = c ∨ a = d))) m := by
  have := gIn_ofs (neg := neg) a [b, c, d] m
  simpa using this
theorem gIn_4 (neg : Bool) (a b c d e : String) (m : Me) : gInN neg (.str (Str.ofString a)) (.tup [.str (Str.ofString b), .str (Str.ofString c), .str (Str.ofString d), .str (Str.ofString e)]) m = .ok (.bl (if neg then !(decide (a = b ∨ a = c ∨ a = d ∨ a = e)) else decide (a = b ∨ a = c ∨ a = d ∨ a = e))) m := by
  have := gIn_ofs (neg := neg) a [b, c, d, e] m
  simpa using this
/-- a number among numbers -/
theorem gIn_ints {neg : Bool} {s : D} {l : List Int} (i : Int) (m : Me) (hs : seqV m s = some (l.map .int)) : gInN neg (.int i) s m = .ok (.bl (if neg then !(decide (i ∈ l)) else decide (i ∈ l))) m := by
  rw [gInN_nb m hs ⟨rfl, rfl⟩ (fun x h => by obtain ⟨s, _, rfl⟩ := List.mem_map.mp h; exact ⟨rfl, rfl⟩)]
  have e : ((l.map D.int).any fun x => eqc x (.int i)) = decide (i ∈ l) := by
    rw [Bool.eq_iff_iff, List.any_eq_true]
    simp only [decide_eq_true_eq]
    constructor
    · rintro ⟨x, hx, h⟩
      obtain ⟨s, hs, rfl⟩ := List.mem_map.mp hx
      have := eqc_iff.mp h
      simp at this; subst this; exact hs
    · intro h
      exact ⟨_, List.mem_map_of_mem h, eqc_self _⟩
  rw [e]

/-! ### a thing is alike itself -/
noncomputable def bAlike (F : List D → Me → Res D) : MS :=
  (sSeq (sIf (mB (m1 (gIsi "tuple") (mVar 1))) (sSeq (sIf (mOr (mNot (mB (m1 (gIsi "tuple") (mVar 0)))) (mB (m2 gNe (mArgs gLen (mCons (mVar 0) mNil)) (mArgs gLen (mCons (mVar 1) mNil))))) (sSeq (sRet (mC (.bl false))) sNext) sNext) (sSeq (sRet (m2 gEq (mComp (iRange1 (mCons (mArgs gLen (mCons (mVar 1) mNil)) mNil)) [2] (tgN 2) (mNot (mB (mCall F (mCons (m2 gIx (mVar 0) (mVar 2)) (mCons (m2 gIx (mVar 1) (mVar 2)) mNil))))) (mVar 2)) (mLst mNil))) sNext)) sNext) (sSeq (sIf (mB (m2 gIsN (mVar 1) (mC .non))) (sSeq (sRet (m2 gIsN (mVar 0) (mC .non))) sNext) sNext) (sSeq (sIf (mB (m1 (gIsi "bool") (mVar 1))) (sSeq (sRet (mAndV (m1 (gIsi "bool") (mVar 0)) (m2 gEq (mVar 0) (mVar 1)))) sNext) sNext) (sSeq (sIf (mB (m1 (gIsi "int") (mVar 1))) (sSeq (sRet (mAndV (m1 (gIsi "int") (mVar 0)) (mAndV (mNotV (m1 (gIsi "bool") (mVar 0))) (m2 gEq (mVar 0) (mVar 1))))) sNext) sNext) (sSeq (sRet (mAndV (m1 (gIsi "str") (mVar 0)) (m2 gEq (mVar 0) (mVar 1)))) sNext)))))
mutual
/-- what alike knows: None, truths, numbers, texts, tuples -/
def al : D → Bool
  | .non => true
  | .bl _ => true
  | .int _ => true
  | .str s => PyData.strOk s
  | .tup xs => alL xs && decide (xs.length ≤ 1000000)
  | _ => false
def alL : List D → Bool
  | [] => true
  | x :: xs => al x && alL xs
end
theorem alL_iff {xs : List D} : alL xs = true ↔ ∀ x ∈ xs, al x = true := by
  induction xs with
  | nil => simp [alL]
  | cons a l ih => simp [alL, ih]
theorem isi_non (T : String) (m : Me) : gIsi T .non m = match kitB "NoneType" T with | some b => .ok (.bl b) m | none => .no := rfl
theorem isi_str (T : String) (s : Str) (m : Me) : gIsi T (.str s) m = match kitB "str" T with | some b => .ok (.bl b) m | none => .no := rfl
theorem isi_int (T : String) (i : Int) (m : Me) : gIsi T (.int i) m = match kitB "int" T with | some b => .ok (.bl b) m | none => .no := rfl
theorem isi_bl (T : String) (i : Bool) (m : Me) : gIsi T (.bl i) m = match kitB "bool" T with | some b => .ok (.bl b) m | none => .no := rfl
theorem isi_tup (T : String) (xs : List D) (m : Me) : gIsi T (.tup xs) m = match kitB "tuple" T with | some b => .ok (.bl b) m | none => .no := rfl
theorem ki1 : kitB "NoneType" "tuple" = some false := by decide +kernel
theorem ki2 : kitB "str" "tuple" = some false := by decide +kernel
theorem ki3 : kitB "str" "bool" = some false := by decide +kernel
theorem ki4 : kitB "str" "int" = some false := by decide +kernel
theorem ki5 : kitB "str" "str" = some true := by decide +kernel
theorem ki6 : kitB "int" "tuple" = some false := by decide +kernel
theorem ki7 : kitB "int" "bool" = some false := by decide +kernel
theorem ki8 : kitB "int" "int" = some true := by decide +kernel
theorem ki9 : kitB "tuple" "tuple" = some true := by decide +kernel
theorem ki10 : kitB "bool" "tuple" = some false := by decide +kernel
theorem ki11 : kitB "bool" "bool" = some true := by decide +kernel
theorem ki12 : kitB "tuple" "int" = some false := by decide +kernel
theorem ki13 : kitB "tuple" "str" = some false := by decide +kernel
theorem ki14 : kitB "tuple" "bool" = some false := by decide +kernel
theorem ki15 : kitB "int" "str" = some false := by decide +kernel
theorem ki16 : kitB "NoneType" "str" = some false := by decide +kernel
theorem ki17 : kitB "NoneType" "int" = some false := by decide +kernel
theorem ki18 : kitB "NoneType" "bool" = some false := by decide +kernel
theorem ki19 : kitB "bool" "int" = some true := by decide +kernel
theorem ki20 : kitB "bool" "str" = some false := by decide +kernel
theorem alike_has {A : Nat → List D → Me → Res D} (hA : ∀ n, A (n + 1) = runDef 3 2 (bAlike (A n))) : ∀ (n : Nat) (d : D), al d = true → dpD d < n → ∀ m : Me, A n [d, d] m = .ok (.bl true) m := by
  intro n
  induction n with
  | zero => intro d _ h; omega
  | succ n ih =>
    intro d ha hd m
    rw [hA]
    cases d with
    | non => simp [runDef, bAlike, isi_non, ki1, isN, leave_same]
    | bl b => simp [runDef, bAlike, isi_bl, ki10, ki11, isN, leave_same]
    | int i => simp [runDef, bAlike, isi_int, ki6, ki7, ki8, isN, leave_same]
    | str s =>
      have hs : PyData.strOk s = true := by simpa [al] using ha
      simp [runDef, bAlike, isi_str, ki2, ki3, ki4, ki5, isN, gEq_str _ _ _ hs hs, leave_same]
    | tup xs =>
      simp only [al, Bool.and_eq_true, decide_eq_true_eq] at ha
      obtain ⟨ha, hz⟩ := ha
      rw [alL_iff] at ha
      simp only [dpD] at hd
      have h : ∀ x ∈ xs, A n [x, x] m = .ok (.bl true) m := fun x hx => ih x (ha x hx) (by have := dpL_le.mp (Nat.le_refl _) x hx; omega) m
      have hc := compF_pure (gt := tgN 2) (c := (mNot (mB (mCall (A n) (mCons (m2 gIx (mVar 0) (mVar 2)) (mCons (m2 gIx (mVar 1) (mVar 2)) mNil)))))) (e := mVar 2) (ρ := [some (.tup xs), some (.tup xs), none]) (m := m) (fun _ => false) id (rngL 0 xs.length) fun d hd => by
        obtain ⟨k, hk, rfl⟩ := rng_mem hd
        have hx : gIx (.tup xs) (.int ((0 : Int) + k)) m = .ok xs[k] m := by
          unfold gIx; simp only [view_tup', Int.zero_add]
          rw [atI_nat (List.getElem?_eq_getElem hk)]
        refine ⟨_, rfl, ?_, fun z => by cases z⟩
        have hh := h _ (List.getElem_mem hk)
        simp at hx
        simp [hx, hh]
      have hf : ((rngL 0 xs.length).filter fun _ => false) = [] := List.filter_eq_nil_iff.mpr fun _ _ => by simp
      rw [hf] at hc
      have en : gEq (.lst []) (.lst []) m = .ok (.bl true) m := gEq_lnil m rfl (by simp [dpL])
      simp [runDef, bAlike, isi_tup, ki9, show (xs.length : Int) ≤ 1000000 ∧ (-1000000 : Int) ≤ xs.length by omega, hc, en, leave_same]
    | _ => cases ha
/-! ### loops over what is known -/
theorem for_cons {Q : Fl → Prop} {i : Nat} {body : MS} {d : D} {r : List D} {ρ : En} {m : Me} (h : FHas (kL (fun ρ m => FHas Q (forF (tgN i) body gdY r ρ m)) Q) (body (ρ.set i (some d)) m)) : FHas Q (forF (tgN i) body gdY (d :: r) ρ m) := by
  unfold forF
  simp only [gdY_e, if_true, tgN_e]
  cases e : body (ρ.set i (some d)) m with
  | no => rw [e] at h; exact h.elim
  | exc x ρ m => rw [e] at h; exact h
  | nx ρ2 m2 => rw [e] at h; exact h
  | ct ρ2 m2 => rw [e] at h; exact h
  | bk ρ2 m2 => rw [e] at h; exact h
  | rt d m => rw [e] at h; exact h
theorem for_nil {Q : Fl → Prop} {gt : D → En → Option En} {body : MS} {ρ : En} {m : Me} (h : Q (.nx ρ m)) : FHas Q (forF gt body gdY [] ρ m) := h
theorem rngL_succ (k j : Nat) : rngL k (j + 1) = .int k :: rngL ((k + 1 : Nat) : Int) j := by
  unfold rngL
  rw [List.range_succ_eq_map, List.map_cons, List.map_map]
  simp
  intro a _; omega
theorem rngL_map (n : Nat) : rngL 0 n = (List.range n).map fun (k : Nat) => D.int (k : Int) := by
  unfold rngL; simp
theorem rngL_ints (i : Int) (n : Nat) : rngL i n = ((List.range n).map fun (k : Nat) => i + (k : Int)).map D.int := by
  unfold rngL; rw [List.map_map]; rfl
/-! ### one step more -/
@[simp ↓] theorem mIndex_h {Q : Res _ → Prop} (fo fe : ME) (ρ : En) (m : Me) : RHas Q (mIndex fo fe ρ m) = RHas Q ((fo ρ m).bind fun d m => if isSeq m d = true then (fe ρ m).bind fun y m => gIndex d y m else .no) := rfl
@[simp ↓] theorem mTupRg_h {Q : Res _ → Prop} (g : En → Me → Res (Int × Int)) (ρ : En) (m : Me) : RHas Q (mTupRg g ρ m) = RHas Q ((g ρ m).bind fun p m => if (p.1 ≤ 1000000 ∧ -1000000 ≤ p.1) ∧ p.2 ≤ 1000000 ∧ -1000000 ≤ p.2 then .ok (.tup (rngL p.1 (p.2 - p.1).toNat)) m else .no) := rfl
@[simp ↓] theorem mLstRg_h {Q : Res _ → Prop} (g : En → Me → Res (Int × Int)) (ρ : En) (m : Me) : RHas Q (mLstRg g ρ m) = RHas Q ((g ρ m).bind fun p m => if (p.1 ≤ 1000000 ∧ -1000000 ≤ p.1) ∧ p.2 ≤ 1000000 ∧ -1000000 ≤ p.2 then .ok (.lst (rngL p.1 (p.2 - p.1).toNat)) m else .no) := rfl
@[simp ↓] theorem mRg1_h {Q : Res _ → Prop} (fa : ME) (ρ : En) (m : Me) : RHas Q (mRg1 fa ρ m) = RHas Q ((fa ρ m).bind fun d m => match d with
  | .int j => .ok (0, j) m
  | _ => .no) := rfl
@[simp ↓] theorem mRg2_h {Q : Res _ → Prop} (fa fb : ME) (ρ : En) (m : Me) : RHas Q (mRg2 fa fb ρ m) = RHas Q ((fa ρ m).bind fun d m => (fb ρ m).bind fun d' m => match d, d' with
  | .int i, .int j => .ok (i, j) m
  | _, _ => .no) := rfl
/-- where a number stands among numbers -/
theorem gIndex_ints {s : D} {l : List Int} {i : Int} {j : Nat} (m : Me) (hs : seqV m s = some (l.map .int)) (h : l[j]? = some i) (hn : ∀ k < j, l[k]? ≠ some i) : gIndex s (.int i) m = .ok (.int (j : Int)) m := by
  have key : ∀ (l : List Int) (j : Nat), l[j]? = some i → (∀ k < j, l[k]? ≠ some i) → idxD (.int i) (l.map .int) = some j := by
    intro l
    induction l with
    | nil => intro j h _; simp at h
    | cons a l ih =>
      intro j h hn
      cases j with
      | zero => simp at h; subst h; simp [idxD, eqF]
      | succ j =>
        have h0 := hn 0 (by omega)
        simp at h h0
        rw [List.map_cons, idxD, if_neg (by simp [eqF, h0]), ih j h (fun k hk => by have := hn (k + 1) (by omega); simpa using this)]
        rfl
  unfold gIndex
  rw [hs]
  simp only
  rw [if_pos ⟨rfl, by simp [flatD]⟩, key l j h hn]
/-! ### items and slices that are written out -/
section
variable (a b c d y : D) (xs ys : List D) (m : Me)
@[simp ↓, simp] theorem gIx_t0 : gIx (.tup (a :: xs)) (.int 0) m = .ok a m := by
  unfold gIx; simp only [view_tup']; rw [show (0 : Int) = ((0 : Nat) : Int) from rfl, atI_nat rfl]
@[simp ↓, simp] theorem gIx_t1 : gIx (.tup (a :: b :: xs)) (.int 1) m = .ok b m := by
  unfold gIx; simp only [view_tup']; rw [show (1 : Int) = ((1 : Nat) : Int) from rfl, atI_nat rfl]
@[simp ↓, simp] theorem gIx_t2 : gIx (.tup (a :: b :: c :: xs)) (.int 2) m = .ok c m := by
  unfold gIx; simp only [view_tup']; rw [show (2 : Int) = ((2 : Nat) : Int) from rfl, atI_nat rfl]
@[simp ↓, simp] theorem gIx_t3 : gIx (.tup (a :: b :: c :: d :: xs)) (.int 3) m = .ok d m := by
  unfold gIx; simp only [view_tup']; rw [show (3 : Int) = ((3 : Nat) : Int) from rfl, atI_nat rfl]
@[simp ↓, simp] theorem gIx_l0 : gIx (.lst (a :: xs)) (.int 0) m = .ok a m := by
  unfold gIx; simp only [view_lst']; rw [show (0 : Int) = ((0 : Nat) : Int) from rfl, atI_nat rfl]
@[simp ↓, simp] theorem gIx_l1 : gIx (.lst (a :: b :: xs)) (.int 1) m = .ok b m := by
  unfold gIx; simp only [view_lst']; rw [show (1 : Int) = ((1 : Nat) : Int) from rfl, atI_nat rfl]
@[simp ↓, simp] theorem gIx_l2 : gIx (.lst (a :: b :: c :: xs)) (.int 2) m = .ok c m := by
  unfold gIx; simp only [view_lst']; rw [show (2 : Int) = ((2 : Nat) : Int) from rfl, atI_nat rfl]
theorem atI_last {α : Type} {xs : List α} {y : α} : atI (xs ++ [y]) (-1) = some y := by
  have e : ixN (xs ++ [y]).length (-1) = some xs.length := by
    unfold ixN
    rw [if_neg (by decide), if_pos (by simp; omega)]
    simp; omega
  unfold atI
  rw [e]; simp
theorem gIx_tlast : gIx (.tup (xs ++ [y])) (.int (-1)) m = .ok y m := by
  unfold gIx; simp only [view_tup']; rw [atI_last]
theorem gIx_llast : gIx (.lst (xs ++ [y])) (.int (-1)) m = .ok y m := by
  unfold gIx; simp only [view_lst']; rw [atI_last]
@[simp ↓, simp] theorem gIx_m1 : gIx (.tup [a]) (.int (-1)) m = .ok a m := gIx_tlast a [] m
@[simp ↓, simp] theorem gIx_m2 : gIx (.tup [a, b]) (.int (-1)) m = .ok b m := gIx_tlast b [a] m
@[simp ↓, simp] theorem gIx_m3 : gIx (.tup [a, b, c]) (.int (-1)) m = .ok c m := gIx_tlast c [a, b] m
@[simp ↓, simp] theorem gIx_m4 : gIx (.tup [a, b, c, d]) (.int (-1)) m = .ok d m := gIx_tlast d [a, b, c] m
theorem cut_1 {α : Type} {a : α} {xs : List α} : FL.cutD (a :: xs) (some 1) none = xs := by
  unfold FL.cutD
  rw [HT.sIx_none, show (some (1 : Int)) = some ((1 : Nat) : Int) from rfl, HT.sIx_nat]
  simp
theorem cut_2 {α : Type} {a b : α} {xs : List α} : FL.cutD (a :: b :: xs) (some 2) none = xs := by
  unfold FL.cutD
  rw [HT.sIx_none, show (some (2 : Int)) = some ((2 : Nat) : Int) from rfl, HT.sIx_nat]
  simp
theorem cut_to {α : Type} {xs ys : List α} {k : Nat} (h : xs.length = k) : FL.cutD (xs ++ ys) none (some (k : Int)) = xs := by
  unfold FL.cutD
  rw [HT.sIx_none, HT.sIx_nat]
  simp; subst h; simp
theorem cut_last {α : Type} {xs : List α} {y : α} : FL.cutD (xs ++ [y]) none (some (-1)) = xs := by
  unfold FL.cutD
  rw [HT.sIx_none]
  unfold HT.sIx
  simp
  rw [show (-1 + ((xs.length : Int) + 1)).toNat = xs.length by omega]; simp
@[simp ↓, simp] theorem gSl_t1 : gSl (.tup (a :: xs)) (some 1) none m = .ok (.tup xs) m := by unfold gSl; simp only [view_tup', cut_1]
@[simp ↓, simp] theorem gSl_l1 : gSl (.lst (a :: xs)) (some 1) none m = .ok (.lst xs) m := by unfold gSl; simp only [view_lst', cut_1]
@[simp ↓, simp] theorem gSl_t2 : gSl (.tup (a :: b :: xs)) (some 2) none m = .ok (.tup xs) m := by unfold gSl; simp only [view_tup', cut_2]
@[simp ↓, simp] theorem gSl_to2 : gSl (.tup (a :: b :: xs)) none (some 2) m = .ok (.tup [a, b]) m := by
  unfold gSl; simp only [view_tup']; rw [show a :: b :: xs = [a, b] ++ xs from rfl, show (2 : Int) = ((2 : Nat) : Int) from rfl, cut_to (k := 2) rfl]
@[simp ↓, simp] theorem gSl_to3 : gSl (.tup (a :: b :: c :: xs)) none (some 3) m = .ok (.tup [a, b, c]) m := by
  unfold gSl; simp only [view_tup']; rw [show a :: b :: c :: xs = [a, b, c] ++ xs from rfl, show (3 : Int) = ((3 : Nat) : Int) from rfl, cut_to (k := 3) rfl]
@[simp ↓, simp] theorem gSl_llast : gSl (.lst (xs ++ [y])) none (some (-1)) m = .ok (.lst xs) m := by unfold gSl; simp only [view_lst', cut_last]
@[simp ↓, simp] theorem gList_tup : gList [.tup xs] m = .ok (.lst xs) m := rfl
@[simp ↓, simp] theorem gList_lst : gList [.lst xs] m = .ok (.lst xs) m := rfl
@[simp ↓, simp] theorem gAdd_lst : gAdd (.lst xs) (.lst ys) m = if xs.length + ys.length ≤ 16777216 then .ok (.lst (xs ++ ys)) m else .no := by unfold gAdd; simp only [view_lst', sizeLine_eq]
@[simp ↓, simp] theorem gAdd_tup : gAdd (.tup xs) (.tup ys) m = if xs.length + ys.length ≤ 16777216 then .ok (.tup (xs ++ ys)) m else .no := by unfold gAdd; simp only [view_tup', sizeLine_eq]
end
end FL

set_option maxRecDepth 100000
namespace FL
open PySem PySem.Spec PyProof.Rows L2

/-! ### one step: instances, tuple keys, chains -/
@[simp ↓] theorem mFld_h {Q : Res _ → Prop} (C : Addr) (x : Str) (fo : ME) (ρ : En) (m : Me) : RHas Q (mFld C x fo ρ m) = RHas Q ((fo ρ m).bind fun d m => match d with
  | .ref i => match m[i]? with
    | some (.ins C' fs) => if C' = C then match fs.lookup x with
      | some d => .ok d m
      | none => .no
      else .no
    | _ => .no
  | _ => .no) := rfl
@[simp ↓] theorem sFldD_h {Q : Fl → Prop} (C : Addr) (x : Str) (fo fv : ME) (ρ : En) (m : Me) : FHas Q (sFldD C x fo fv ρ m) = FHas Q (bindS (fv ρ m) ρ fun y m => bindS (fo ρ m) ρ fun d m => match d with
  | .ref i => match m[i]? with
    | some (.ins C' fs) => if C' = C ∧ fs.length < 1000 then .nx ρ (m.set i (.ins C (putA x y fs))) else .no
    | _ => .no
  | _ => .no) := rfl
@[simp ↓] theorem mMeth_h {Q : Res _ → Prop} (C : Addr) (x : Str) (F : List D → Me → Res D) (fo : ME) (fa : MA) (ρ : En) (m : Me) : RHas Q (mMeth C x F fo fa ρ m) = RHas Q ((fo ρ m).bind fun d m => match d with
  | .ref i => match m[i]? with
    | some (.ins C' fs) => if C' = C ∧ fs.lookup x = none then (fa ρ m).bind fun ds m => noX (F (.ref i :: ds) m) else .no
    | _ => .no
  | _ => .no) := rfl
@[simp ↓] theorem mDgetT_h {Q : Res _ → Prop} (fo : ME) (fa : MA) (ρ : En) (m : Me) : RHas Q (mDgetT fo fa ρ m) = RHas Q ((fo ρ m).bind fun d m => (fa ρ m).bind fun ks m => match lookT m d ks with
  | some (some y) => .ok y m
  | _ => .no) := rfl
@[simp ↓] theorem mDinT_h {Q : Res _ → Prop} (neg : Bool) (fa : MA) (fo : ME) (ρ : En) (m : Me) : RHas Q (mDinT neg fa fo ρ m) = RHas Q ((fa ρ m).bind fun ks m => (fo ρ m).bind fun d m => match lookT m d ks with
  | some o => .ok (.bl (if neg then !o.isSome else o.isSome)) m
  | none => .no) := rfl
@[simp ↓] theorem sDputT_h {Q : Fl → Prop} (fo : ME) (fa : MA) (fv : ME) (ρ : En) (m : Me) : FHas Q (sDputT fo fa fv ρ m) = FHas Q (bindS (fv ρ m) ρ fun y m => bindS (fo ρ m) ρ fun d m => bindS (fa ρ m) ρ fun ks m => match dputT m d ks y with
  | some m' => .nx ρ m'
  | none => .no) := rfl
@[simp ↓] theorem mNewT_h {Q : Res _ → Prop} (ρ : En) (m : Me) : RHas Q (mNewT ρ m) = RHas Q (.ok (.ref m.length) (m ++ [.dT []])) := rfl
@[simp ↓] theorem mChain_h {Q : Res _ → Prop} (g g' : D → D → Me → Res D) (fa fb fc : ME) (ρ : En) (m : Me) : RHas Q (mChain g g' fa fb fc ρ m) = RHas Q ((fa ρ m).bind fun d m => (fb ρ m).bind fun d' m => (g d d' m).bind fun z m => match z with
  | .bl true => (fc ρ m).bind fun d'' m => g' d' d'' m
  | .bl false => .ok (.bl false) m
  | _ => .no) := rfl
@[simp ↓] theorem mPop_h {Q : Res _ → Prop} (fo : ME) (ρ : En) (m : Me) : RHas Q (mPop fo ρ m) = RHas Q ((fo ρ m).bind fun d m => match d with
  | .ref i => match m[i]? with
    | some (.lst xs) => match xs[xs.length - 1]? with
      | some y => .ok y (m.set i (.lst xs.dropLast))
      | none => .no
    | _ => .no
  | _ => .no) := rfl
@[simp ↓] theorem mRemove_h {Q : Res _ → Prop} (fo fe : ME) (ρ : En) (m : Me) : RHas Q (mRemove fo fe ρ m) = RHas Q ((fo ρ m).bind fun d m => match d with
  | .ref i => match m[i]? with
    | some (.lst _) => (fe ρ m).bind fun y m => match y with
      | .int k => match m[i]? with
        | some (.lst xs) => match intsD xs with
          | some ns => match idxI k ns with
            | some j => .ok .non (m.set i (.lst ((ns.eraseIdx j).map .int)))
            | none => .no
          | none => .no
        | _ => .no
      | _ => .no
    | _ => .no
  | _ => .no) := rfl
@[simp ↓] theorem mCount_h {Q : Res _ → Prop} (fo fe : ME) (ρ : En) (m : Me) : RHas Q (mCount fo fe ρ m) = RHas Q ((fo ρ m).bind fun d m => match lstV m d with
  | some _ => (fe ρ m).bind fun y m => match y, (lstV m d).bind intsD with
    | .int k, some ns => .ok (.int (ns.count k : Nat)) m
    | _, _ => .no
  | none => .no) := rfl
@[simp ↓] theorem mkC_h {Q : Res _ → Prop} (C : Addr) (F : List D → Me → Res D) (ds : List D) (m : Me) : RHas Q (mkC C F ds m) = RHas Q ((F (.ref m.length :: ds) (m ++ [.ins C []])).bind fun d m' => match d with
  | .non => .ok (.ref m.length) m'
  | _ => .no) := rfl
/-- .. a def that keeps what it made -/
def kK (Q : Res D → Prop) : Fl → Prop := fun
  | .nx _ m' => Q (.ok .non m')
  | .rt d m' => Q (.ok d m')
  | _ => False
@[simp ↓, simp] theorem kK_nx {Q : Res D → Prop} {ρ : En} {m : Me} : kK Q (.nx ρ m) = Q (.ok .non m) := rfl
@[simp ↓, simp] theorem kK_rt {Q : Res D → Prop} {d : D} {m : Me} : kK Q (.rt d m) = Q (.ok d m) := rfl
theorem has_defK {Q : Res D → Prop} {N n : Nat} {f : MS} {ds : List D} {m : Me} (ρ : En) (h : FHas (kK Q) (f ρ m)) (e : ds.map some ++ List.replicate (N - n) none = ρ := by rfl) : RHas Q (runDefK N n f ds m) := by
  unfold runDefK
  rw [e]
  cases q : f ρ m with
  | no => rw [q] at h; exact h.elim
  | exc x ρ m => rw [q] at h; exact h.elim
  | bk ρ m => rw [q] at h; exact h.elim
  | ct ρ m => rw [q] at h; exact h.elim
  | nx ρ m => rw [q] at h; exact h
  | rt d m => rw [q] at h; exact h
end FL

set_option maxRecDepth 100000
namespace FL
open PySem PySem.Spec PyProof.Rows L2

/-! ### dicts -/
theorem getK_cons (p : Key × D) (r : List (Key × D)) (k : Key) : getK (p :: r) k = if p.1 = k then some p.2 else getK r k := by
  unfold getK; rw [List.find?_cons]
  by_cases h : p.1 = k <;> simp [h]
theorem getK_none {k : Key} : ∀ {kvs : List (Key × D)}, (kvs.any fun kv => decide (kv.1 = k)) = false → getK kvs k = none
  | [], _ => rfl
  | p :: r, h => by
    simp only [List.any_cons, Bool.or_eq_false_iff, decide_eq_false_iff_not] at h
    rw [getK_cons, if_neg h.1, getK_none h.2]
theorem getK_map (k k' : Key) (v : D) : ∀ kvs : List (Key × D), getK (kvs.map fun kv => if kv.1 = k then (kv.1, v) else kv) k' = if k = k' ∧ (kvs.any fun kv => decide (kv.1 = k)) = true then some v else getK kvs k'
  | [] => by simp [getK]
  | p :: r => by
    rw [List.map_cons, getK_cons, getK_cons, getK_map k k' v r]
    by_cases h1 : p.1 = k
    · by_cases h2 : k = k'
      · simp [h1, h2]
      · have : ¬p.1 = k' := fun z => h2 (h1.symm.trans z)
        simp [h1, h2, this]
    · by_cases h2 : p.1 = k'
      · have : ¬k = k' := fun z => h1 (h2.trans z.symm)
        rw [if_neg h1, if_pos h2, if_pos h2, if_neg fun z => this z.1]
      · rw [if_neg h1, if_neg h2, if_neg h2, List.any_cons, decide_eq_false h1, Bool.false_or]
theorem getK_app (k k' : Key) (v : D) : ∀ kvs : List (Key × D), getK (kvs ++ [(k, v)]) k' = match getK kvs k' with
    | some x => some x
    | none => if k = k' then some v else none
  | [] => by simp [getK_cons, getK]
  | p :: r => by
    rw [List.cons_append, getK_cons, getK_cons, getK_app k k' v r]
    by_cases h : p.1 = k' <;> simp [h]
theorem getK_setK (kvs : List (Key × D)) (k k' : Key) (v : D) : getK (setK kvs k v) k' = if k = k' then some v else getK kvs k' := by
  unfold setK
  by_cases h : (kvs.any fun kv => decide (kv.1 = k)) = true
  · rw [if_pos h, getK_map]; simp [h]
  · rw [if_neg h, getK_app]
    by_cases e : k = k'
    · subst e; rw [getK_none (Bool.eq_false_iff.mpr h)]
    · rw [if_neg e, if_neg e]; cases getK kvs k' <;> rfl
theorem setK_le (kvs : List (Key × D)) (k : Key) (v : D) : (setK kvs k v).length ≤ kvs.length + 1 := by unfold setK; split <;> simp
theorem clo_kvs {n : Nat} {kvs : List (Key × D)} : cloK n kvs = true ↔ ∀ p ∈ kvs, clo n p.2 = true := by
  induction kvs with
  | nil => simp [cloK]
  | cons p r ih =>
    obtain ⟨k, d⟩ := p
    simp only [cloK, cloP, Bool.and_eq_true, List.mem_cons, forall_eq_or_imp, ih]
theorem clo_setK' {n : Nat} {kvs : List (Key × D)} {k : Key} {v : D} (h : cloK n kvs = true) (hv : clo n v = true) : cloK n (setK kvs k v) = true := by
  rw [clo_kvs] at h ⊢
  intro p hp
  unfold setK at hp
  split at hp
  · obtain ⟨q, hq, rfl⟩ := List.mem_map.mp hp
    split
    · exact hv
    · exact h q hq
  · rcases List.mem_append.mp hp with hp | hp
    · exact h p hp
    · rw [List.mem_singleton.mp hp]; exact hv
end FL

set_option maxRecDepth 100000
namespace FL
open PySem PySem.Spec PyProof.Rows L2

/-! ### one step: zip, lists that will change -/
@[simp ↓] theorem mCompC_h {Q : Res _ → Prop} (it : MI) (vs : List Nat) (gt : D → En → Option En) (c : MT) (e : ME) (ρ : En) (m : Me) : RHas Q (mCompC it vs gt c e ρ m) = RHas Q ((it ρ m).bind fun p m => (noX (compF gt c e p.2 (wipeD ρ vs) p.1 m)).bind fun ys m => .ok (.ref m.length) (m ++ [.lst ys])) := rfl
@[simp ↓] theorem mLstRgC_h {Q : Res _ → Prop} (g : En → Me → Res (Int × Int)) (ρ : En) (m : Me) : RHas Q (mLstRgC g ρ m) = RHas Q ((g ρ m).bind fun p m => if (p.1 ≤ 1000000 ∧ -1000000 ≤ p.1) ∧ p.2 ≤ 1000000 ∧ -1000000 ≤ p.2 then .ok (.ref m.length) (m ++ [.lst (rngL p.1 (p.2 - p.1).toNat)]) else .no) := rfl
@[simp ↓] theorem iZip_h {Q : Res _ → Prop} (f g : MZ) (ρ : En) (m : Me) : RHas Q (iZip f g ρ m) = RHas Q ((f ρ m).bind fun z m => (g ρ m).bind fun z' m => (zItems z m).bind fun p m => (zItems z' m).bind fun p' m => .ok (List.zipWith (fun a b => D.tup [a, b]) p.1 p'.1, fun m => p.2 m && p'.2 m) m) := rfl
@[simp ↓] theorem zDat_h {Q : Res _ → Prop} (f : ME) (ρ : En) (m : Me) : RHas Q (zDat f ρ m) = RHas Q ((f ρ m).bind fun d m => .ok (.dat d) m) := rfl
@[simp ↓] theorem zRng1_h {Q : Res _ → Prop} (f : MA) (ρ : En) (m : Me) : RHas Q (zRng1 f ρ m) = RHas Q ((f ρ m).bind fun ds m => match ds with
  | [.int j] => .ok (.rng 0 j) m
  | _ => .no) := rfl
@[simp] theorem zItems_dat (d : D) (m : Me) : zItems (.dat d) m = asIt d m := rfl
@[simp] theorem zItems_rng (lo hi : Int) (m : Me) : zItems (.rng lo hi) m = if (hi ≤ 1000000 ∧ -1000000 ≤ hi) ∧ lo ≤ 1000000 ∧ -1000000 ≤ lo then .ok (rngL lo (hi - lo).toNat, gdY) m else .no := rfl
theorem gdY2 : (fun m => gdY m && gdY m) = gdY := rfl
/-! ### a while loop, by what holds at each turn -/
def kWh (body : MS) (I : En → Me → Prop) (Q : Fl → Prop) (ρ : En) : Res Bool → Prop := fun
  | .ok b m => if b = true then FHas (kL I Q) (body ρ m) else Q (.nx ρ m)
  | _ => False
@[simp ↓, simp] theorem kWh_ok {body : MS} {I : En → Me → Prop} {Q : Fl → Prop} {ρ : En} {b : Bool} {m : Me} : kWh body I Q ρ (.ok b m) = if b = true then FHas (kL I Q) (body ρ m) else Q (.nx ρ m) := rfl
theorem wh_has {c : MT} {body : MS} {Q : Fl → Prop} (Inv : Nat → En → Me → Prop)
    (step : ∀ k ρ m, Inv k ρ m → RHas (kWh body (fun ρ m => ∃ j, j < k ∧ Inv j ρ m) Q ρ) (c ρ m)) : ∀ (N k : Nat) (ρ : En) (m : Me), k < N → Inv k ρ m → FHas Q (whF c body N ρ m) := by
  intro N
  induction N with
  | zero => intro k ρ m h; omega
  | succ N ih =>
    intro k ρ m hk h
    have st := step k ρ m h
    unfold whF
    cases ec : c ρ m with
    | no => rw [ec] at st; exact st.elim
    | exc x m => rw [ec] at st; exact st.elim
    | ok b m1 =>
      rw [ec] at st
      simp only [rhas_ok, kWh_ok] at st
      simp only [bindS_ok]
      cases b with
      | false => rw [if_neg Bool.false_ne_true] at st ⊢; exact st
      | true =>
        rw [if_pos rfl] at st ⊢
        cases eb : body ρ m1 with
        | no => rw [eb] at st; exact st.elim
        | exc x ρ m => rw [eb] at st; exact st
        | nx ρ2 m2 => rw [eb] at st; obtain ⟨j, hj, i⟩ := st; exact ih j ρ2 m2 (by omega) i
        | ct ρ2 m2 => rw [eb] at st; obtain ⟨j, hj, i⟩ := st; exact ih j ρ2 m2 (by omega) i
        | bk ρ2 m2 => rw [eb] at st; exact st
        | rt d m => rw [eb] at st; exact st
/-! ### things that are told one by one: numbers, texts -/
structure FlatI {α : Type} (f : α → D) : Prop where
  nb : ∀ a, nb (f a) = true
  fl : ∀ a, flatD (f a) = true
  inj : ∀ {a b}, f a = f b → a = b
  d0 : ∀ a, dpD (f a) = 0
def natD (k : Nat) : D := .int (k : Int)
def strD (s : String) : D := .str (Str.ofString s)
theorem natD_flat : FlatI natD := ⟨fun _ => rfl, fun _ => rfl, fun h => by simp only [natD, D.int.injEq] at h; omega, fun _ => rfl⟩
theorem strD_flat : FlatI strD := ⟨fun _ => by simp [strD, FL.nb], fun _ => rfl, fun h => by simpa [strD, ofs_eq] using h, fun _ => rfl⟩
theorem int_flat : FlatI D.int := ⟨fun _ => rfl, fun _ => rfl, fun h => by simpa using h, fun _ => rfl⟩
section
variable {α : Type} [DecidableEq α] {f : α → D}
theorem FlatI.nbs (F : FlatI f) (l : List α) : nbL (l.map f) = true := nbL_iff.mpr fun x hx => by obtain ⟨a, _, rfl⟩ := List.mem_map.mp hx; exact F.nb a
theorem FlatI.dps (F : FlatI f) (l : List α) : dpL (l.map f) ≤ 1 := dpL_le.mpr fun x hx => by obtain ⟨a, _, rfl⟩ := List.mem_map.mp hx; rw [F.d0]; omega
theorem FlatI.eqc (F : FlatI f) (a b : α) : FL.eqc (f a) (f b) = decide (a = b) := by
  rw [Bool.eq_iff_iff, eqc_iff, decide_eq_true_eq]; exact ⟨F.inj, fun h => by rw [h]⟩
theorem FlatI.gIn (F : FlatI f) {neg : Bool} {s : D} {l : List α} (a : α) (m : Me) (hs : seqV m s = some (l.map f)) : gInN neg (f a) s m = .ok (.bl (if neg then !(decide (a ∈ l)) else decide (a ∈ l))) m := by
  rw [gInN_nb m hs ⟨F.nb a, F.fl a⟩ (fun x h => by obtain ⟨s, _, rfl⟩ := List.mem_map.mp h; exact ⟨F.nb s, F.fl s⟩)]
  have e : ((l.map f).any fun x => FL.eqc x (f a)) = decide (a ∈ l) := by
    rw [Bool.eq_iff_iff, List.any_eq_true, decide_eq_true_eq]
    constructor
    · rintro ⟨x, hx, h⟩
      obtain ⟨s, hs, rfl⟩ := List.mem_map.mp hx
      rw [F.inj (eqc_iff.mp h)] at hs; exact hs
    · intro h; exact ⟨_, List.mem_map_of_mem h, eqc_self _⟩
  rw [e]
theorem FlatI.eqF (F : FlatI f) (a b : α) : FL.eqF (f a) (f b) = decide (a = b) := by
  have h1 := F.nb a
  have h2 := F.fl a
  have h3 := F.nb b
  have h4 := F.fl b
  have e : FL.eqF (f a) (f b) = FL.eqc (f a) (f b) := by
    generalize f a = x at *
    generalize f b = y at *
    rw [Bool.eq_iff_iff, eqc_iff]
    cases x <;> cases y <;> simp [FL.nb, flatD] at h1 h2 h3 h4 <;> simp [FL.eqF]
  rw [e, F.eqc]
theorem FlatI.idx (F : FlatI f) {l : List α} {a : α} (h : a ∈ l) : idxD (f a) (l.map f) = some (l.idxOf a) := by
  induction l with
  | nil => cases h
  | cons b l ih =>
    rw [List.map_cons, idxD, F.eqF, List.idxOf_cons]
    by_cases e : b = a
    · simp [e]
    · have : a ∈ l := by
        rcases List.mem_cons.mp h with h | h
        · exact absurd h.symm e
        · exact h
      have e2 : (b == a) = false := by simpa using e
      simp [e, ih this, e2]
theorem FlatI.gIndex (F : FlatI f) {s : D} {l : List α} {a : α} (m : Me) (hs : seqV m s = some (l.map f)) (h : a ∈ l) : FL.gIndex s (f a) m = .ok (.int (l.idxOf a : Nat)) m := by
  unfold FL.gIndex
  rw [hs]
  simp only
  rw [if_pos ⟨F.fl a, List.all_eq_true.mpr fun x hx => by obtain ⟨b, _, rfl⟩ := List.mem_map.mp hx; exact F.fl b⟩, F.idx h]
theorem FlatI.gEq (F : FlatI f) (a b : α) (m : Me) : FL.gEq (f a) (f b) m = .ok (.bl (decide (a = b))) m := by
  rw [gEq_nb m (F.nb a) (F.nb b) (by rw [F.d0]; omega) (by rw [F.d0]; omega), F.eqc]
theorem FlatI.gNe (F : FlatI f) (a b : α) (m : Me) : FL.gNe (f a) (f b) m = .ok (.bl (!decide (a = b))) m := by
  rw [gNe_nb m (F.nb a) (F.nb b) (by rw [F.d0]; omega) (by rw [F.d0]; omega), F.eqc]
theorem FlatI.gEqNil (F : FlatI f) (l : List α) (m : Me) : FL.gEq (.lst (l.map f)) (.lst []) m = .ok (.bl l.isEmpty) m := by
  rw [gEq_lnil m (F.nbs l) (by have := F.dps l; omega)]; simp
theorem FlatI.gNeNil (F : FlatI f) (l : List α) (m : Me) : FL.gNe (.lst (l.map f)) (.lst []) m = .ok (.bl (!l.isEmpty)) m := by
  rw [gNe_lnil m (F.nbs l) (by have := F.dps l; omega)]; simp
theorem rngL_nat (n : Nat) : rngL 0 n = (List.range n).map natD := by rw [rngL_map]; rfl
end
theorem idxOf_get {α : Type} [DecidableEq α] {l : List α} {a : α} (h : a ∈ l) : l[l.idxOf a]? = some a := by
  have h1 := List.idxOf_lt_length_iff.mpr h
  rw [List.getElem?_eq_getElem h1, List.getElem_idxOf h1]
theorem gIx_tget {xs : List D} {i : Nat} {y : D} (m : Me) (h : xs[i]? = some y) : gIx (.tup xs) (.int (i : Int)) m = .ok y m := by
  unfold gIx; simp only [view_tup']; rw [atI_nat h]
theorem gIx_lget {xs : List D} {i : Nat} {y : D} (m : Me) (h : xs[i]? = some y) : gIx (.lst xs) (.int (i : Int)) m = .ok y m := by
  unfold gIx; simp only [view_lst']; rw [atI_nat h]
theorem gIx_rget {i k : Nat} {xs : List D} {y : D} (m : Me) (hm : m[k]? = some (.lst xs)) (h : xs[i]? = some y) : gIx (.ref k) (.int (i : Int)) m = .ok y m := by
  unfold gIx; rw [view_ref_lst hm]; simp only; rw [atI_nat h]
theorem gIx_rlast {k : Nat} {xs : List D} {y : D} (m : Me) (hm : m[k]? = some (.lst (xs ++ [y]))) : gIx (.ref k) (.int (-1)) m = .ok y m := by
  unfold gIx; rw [view_ref_lst hm]; simp only; rw [atI_last]
theorem gTuple_ref {k : Nat} {xs : List D} {m : Me} (hm : m[k]? = some (.lst xs)) : gTuple [.ref k] m = .ok (.tup xs) m := by unfold gTuple; simp only [view_ref_lst hm]
theorem gLen_ref {k : Nat} {xs : List D} {m : Me} (hm : m[k]? = some (.lst xs)) : gLen [.ref k] m = .ok (.int (xs.length : Nat)) m := by unfold gLen; simp only [view_ref_lst hm]
theorem gNe_ref {k : Nat} {xs : List D} {m : Me} (d : D) (hm : m[k]? = some (.lst xs)) : gNe (.ref k) d m = gNe (.lst xs) d m := by unfold gNe; rw [view_ref_lst hm]; rfl
theorem gEq_ref {k : Nat} {xs : List D} {m : Me} (d : D) (hm : m[k]? = some (.lst xs)) : gEq (.ref k) d m = gEq (.lst xs) d m := by unfold gEq; rw [view_ref_lst hm]; rfl
theorem seq_ref {k : Nat} {xs : List D} {m : Me} (hm : m[k]? = some (.lst xs)) : seqV m (.ref k) = some xs := by unfold seqV; rw [view_ref_lst hm]
theorem seq_lst {xs : List D} {m : Me} : seqV m (.lst xs) = some xs := rfl
theorem seq_tup {xs : List D} {m : Me} : seqV m (.tup xs) = some xs := rfl
end FL
namespace FL
open PySem PySem.Spec PyProof.Rows L2
/-- a def's own things go -/
theorem leave_app {m c : Me} {d : D} (h : nb d = true) : leave m d (m ++ c) = .ok d m := by
  cases c with
  | nil => rw [List.append_nil]; exact leave_same rfl
  | cons a l =>
    unfold leave
    rw [if_neg (by simp), thaw_clo _ (pl_nb h _)]
    simp only
    rw [if_pos (.inl (List.take_left' rfl)), List.take_left' rfl]
/-- a comprehension whose parts are told one by one -/
theorem comp_rel {gt : D → En → Option En} {c : MT} {e : ME} {ρ : En} {m : Me} {Q : Res (List D) → Prop} {ds ys : List D} (hl : ds.length = ys.length)
    (h : ∀ (i : Nat) (d y : D), ds[i]? = some d → ys[i]? = some y → ∃ ρ1, gt d ρ = some ρ1 ∧ c ρ1 m = .ok true m ∧ e ρ1 m = .ok y m) (q : Q (.ok ys m)) : RHas Q (compF gt c e gdY ρ ds m) := by
  have key : ∀ (ds ys : List D), ds.length = ys.length → (∀ (i : Nat) (d y : D), ds[i]? = some d → ys[i]? = some y → ∃ ρ1, gt d ρ = some ρ1 ∧ c ρ1 m = .ok true m ∧ e ρ1 m = .ok y m) → compF gt c e gdY ρ ds m = .ok ys m := by
    intro ds
    induction ds with
    | nil => intro ys hl _; cases ys with | nil => rfl | cons => simp at hl
    | cons d r ih =>
      intro ys hl h
      cases ys with
      | nil => simp at hl
      | cons y ys =>
        obtain ⟨ρ1, h1, h2, h3⟩ := h 0 d y rfl rfl
        have ih' := ih ys (by simpa using hl) fun i d' y' e1 e2 => h (i + 1) d' y' (by simpa using e1) (by simpa using e2)
        unfold compF
        simp [h1, h2, h3, ih']
  rw [key ds ys hl h]; exact q
/-- over a thing of the store that stays as it is -/
theorem asIt_ref {i : Nat} {ds : List D} {m : Me} (h : m[i]? = some (.lst ds)) : asIt (.ref i) m = .ok (ds, gdL i ds) m := by unfold asIt; simp only [h]
theorem gdL_ok {i : Nat} {ds : List D} {m : Me} (h : m[i]? = some (.lst ds)) : gdL i ds m = true := by unfold gdL; exact @decide_eq_true _ (Classical.propDecidable _) h
theorem comp_mapG {α : Type} {gd : Me → Bool} {gt : D → En → Option En} {c : MT} {e : ME} {ρ : En} {m : Me} {Q : Res (List D) → Prop} {xs : List α} {g : α → D} (hg : gd m = true) (p : α → Bool) (f : α → D)
    (h : ∀ x ∈ xs, ∃ ρ1, gt (g x) ρ = some ρ1 ∧ c ρ1 m = .ok (p x) m ∧ (p x = true → e ρ1 m = .ok (f x) m)) (q : Q (.ok ((xs.filter p).map f) m)) : RHas Q (compF gt c e gd ρ (xs.map g) m) := by
  have key : ∀ xs : List α, (∀ x ∈ xs, ∃ ρ1, gt (g x) ρ = some ρ1 ∧ c ρ1 m = .ok (p x) m ∧ (p x = true → e ρ1 m = .ok (f x) m)) → compF gt c e gd ρ (xs.map g) m = .ok ((xs.filter p).map f) m := by
    intro xs
    induction xs with
    | nil => intro _; unfold compF; simp [hg]
    | cons x r ih =>
      intro h
      obtain ⟨ρ1, h1, h2, h3⟩ := h x List.mem_cons_self
      have ih' := ih fun y hy => h y (List.mem_cons_of_mem _ hy)
      rw [List.map_cons]
      unfold compF
      simp only [hg, if_true, h1, h2, noX_ok, Res.bind_ok]
      cases hp : p x with
      | false => simp [hp, ih']
      | true => simp [hp, ih', h3 hp]
  rw [key xs h]; exact q
theorem compF_all {α : Type} {gt : D → En → Option En} {c : MT} {e : ME} {ρ : En} {m : Me} {xs : List α} {g : α → D} (f : α → D)
    (h : ∀ x ∈ xs, ∃ ρ1, gt (g x) ρ = some ρ1 ∧ c ρ1 m = .ok true m ∧ e ρ1 m = .ok (f x) m) : compF gt c e gdY ρ (xs.map g) m = .ok (xs.map f) m := has_eq (comp_all f h rfl)
theorem compF_all' {α : Type} {gt : D → En → Option En} {c : MT} {e : ME} {ρ : En} {m : Me} {xs : List α} {g : α → D} (p : α → Bool) (f : α → D)
    (h : ∀ x ∈ xs, ∃ ρ1, gt (g x) ρ = some ρ1 ∧ c ρ1 m = .ok (p x) m ∧ (p x = true → e ρ1 m = .ok (f x) m)) : compF gt c e gdY ρ (xs.map g) m = .ok ((xs.filter p).map f) m := has_eq (comp_map p f h rfl)
/-! ### slices -/
theorem cut_take {α : Type} (xs : List α) (k : Nat) : FL.cutD xs none (some (k : Int)) = xs.take k := by
  unfold FL.cutD
  rw [HT.sIx_none, HT.sIx_nat]
  simp only [List.drop_zero, Nat.sub_zero]
  by_cases h : k ≤ xs.length
  · rw [Nat.min_eq_left h]
  · rw [Nat.min_eq_right (by omega), List.take_of_length_le (Nat.le_refl _), List.take_of_length_le (by omega)]
theorem cut_drop {α : Type} (xs : List α) (k : Nat) : FL.cutD xs (some (k : Int)) none = xs.drop k := by
  unfold FL.cutD
  rw [HT.sIx_none, HT.sIx_nat]
  by_cases h : k ≤ xs.length
  · rw [Nat.min_eq_left h]; exact List.take_of_length_le (by simp)
  · rw [Nat.min_eq_right (by omega), List.drop_of_length_le (Nat.le_refl _), List.drop_of_length_le (by omega)]; simp
theorem cut_rng {α : Type} (xs : List α) (i j : Nat) : FL.cutD xs (some (i : Int)) (some (j : Int)) = (xs.drop i).take (j - i) := by
  unfold FL.cutD
  rw [HT.sIx_nat, HT.sIx_nat]
  by_cases h : i ≤ xs.length
  · rw [Nat.min_eq_left h]
    by_cases h2 : j ≤ xs.length
    · rw [Nat.min_eq_left h2]
    · rw [Nat.min_eq_right (show xs.length ≤ j by omega), List.take_of_length_le (by simp), List.take_of_length_le (by simp; omega)]
  · rw [Nat.min_eq_right (show xs.length ≤ i by omega), List.drop_of_length_le (Nat.le_refl _), List.drop_of_length_le (show xs.length ≤ i by omega)]; simp
/-- a choice that is drawn -/
theorem comp_sel {α : Type} {gt : D → En → Option En} {c : MT} {e : ME} {ρ : En} {Q : Res (List D) → Prop} {i : Nat} {ds : List Int} {ex : List (Key × D)} (f : α → D) {xs : List α} {g : α → D} {m : Me} (h : Wt i ds ex m)
    (step : ∀ x ∈ xs, ∀ m', Ev i ds ex m m' → Wt i ds ex m' → ∃ ρ1, gt (g x) ρ = some ρ1 ∧ RHas (OkR fun _ m2 => Ev i ds ex m' m2) (c ρ1 m') ∧ ∀ m2, Wt i ds ex m2 → e ρ1 m2 = .ok (f x) m2)
    (done : ∀ (ys : List α) (m' : Me), ys.Sublist xs → Ev i ds ex m m' → Q (.ok (ys.map f) m')) : RHas Q (compF gt c e gdY ρ (xs.map g) m) := by
  have key : ∀ (xs : List α) (m : Me), Wt i ds ex m → (∀ x ∈ xs, ∀ m', Ev i ds ex m m' → Wt i ds ex m' → ∃ ρ1, gt (g x) ρ = some ρ1 ∧ RHas (OkR fun _ m2 => Ev i ds ex m' m2) (c ρ1 m') ∧ ∀ m2, Wt i ds ex m2 → e ρ1 m2 = .ok (f x) m2) →
      ∃ (ys : List α) (m' : Me), ys.Sublist xs ∧ Ev i ds ex m m' ∧ compF gt c e gdY ρ (xs.map g) m = .ok (ys.map f) m' := by
    intro xs
    induction xs with
    | nil => intro m h _; exact ⟨[], m, .slnil, Ev.refl h, rfl⟩
    | cons x r ih =>
      intro m h step
      obtain ⟨ρ1, h1, h2, h3⟩ := step x List.mem_cons_self m (Ev.refl h) h
      obtain ⟨b, m1, e1, v1⟩ := h2.ex
      have W1 := h.ev v1
      obtain ⟨ys, m2, q1, q2, q3⟩ := ih m1 W1 fun y hy m' v W => step y (List.mem_cons_of_mem _ hy) m' (v1.trans v) W
      rw [List.map_cons]
      unfold compF
      cases b with
      | false => exact ⟨ys, m2, q1.cons _, v1.trans q2, by simp [h1, e1, q3]⟩
      | true => exact ⟨x :: ys, m2, q1.cons₂ _, v1.trans q2, by simp [h1, e1, h3 m1 W1, q3]⟩
  obtain ⟨ys, m', q1, q2, q3⟩ := key xs m h step
  rw [q3]; exact done ys m' q1 q2
theorem list_of {α : Type} {f : α → D} {P : α → Prop} : ∀ {zs : List D}, (∀ y ∈ zs, ∃ t, y = f t ∧ P t) → ∃ ts : List α, zs = ts.map f ∧ ∀ t ∈ ts, P t
  | [], _ => ⟨[], rfl, by simp⟩
  | y :: r, h => by
    obtain ⟨t, rfl, ht⟩ := h y List.mem_cons_self
    obtain ⟨ts, rfl, hts⟩ := list_of fun z hz => h z (List.mem_cons_of_mem _ hz)
    exact ⟨t :: ts, rfl, fun x hx => by
      rcases List.mem_cons.mp hx with rfl | hx
      · exact ht
      · exact hts x hx⟩
end FL

set_option maxRecDepth 100000
namespace U63
open PySem PySem.Spec PyProof.Rows L2 FL

/-! ### data, and data with places -/
inductive T
  | word (s : String)
  | num (k : Int)
  | list (ts : List T)
def kw (s : String) : D := .str (Str.ofString s)
mutual
def T.d : T → D
  | .word s => .tup [kw "word", kw s]
  | .num k => .tup [kw "num", .int k]
  | .list ts => .tup [kw "list", .tup (T.ds ts)]
def T.ds : List T → List D
  | [] => []
  | t :: ts => t.d :: T.ds ts
end
mutual
def T.dp : T → Nat
  | .word _ => 0
  | .num _ => 0
  | .list ts => T.dps ts + 1
def T.dps : List T → Nat
  | [] => 0
  | t :: ts => max t.dp (T.dps ts)
end
mutual
def T.n : T → Nat
  | .word _ => 1
  | .num _ => 1
  | .list ts => T.ns ts + 1
def T.ns : List T → Nat
  | [] => 0
  | t :: ts => t.n + T.ns ts
end
mutual
def pl : T → Int → D
  | .word s, k => .tup [kw "word", kw s, .int k]
  | .num i, k => .tup [kw "num", .int i, .int k]
  | .list ts, k => .tup [kw "list", .tup (pls ts (k + 1)), .int k]
def pls : List T → Int → List D
  | [], _ => []
  | t :: ts, k => pl t k :: pls ts (k + (t.n : Int))
end
theorem ds_map (ts : List T) : T.ds ts = ts.map T.d := by
  induction ts with
  | nil => rfl
  | cons a l ih => simp [T.ds, ih]
theorem ds_len (ts : List T) : (T.ds ts).length = ts.length := by rw [ds_map]; simp
theorem pls_len (ts : List T) : ∀ k, (pls ts k).length = ts.length := by
  induction ts with
  | nil => intro k; rfl
  | cons a l ih => intro k; simp [pls, ih]
mutual
theorem pl_nb : ∀ (t : T) (k : Int), nb (pl t k) = true
  | .word s, k => by simp [pl, kw, nb, nbL]
  | .num i, k => by simp [pl, kw, nb, nbL]
  | .list ts, k => by simp [pl, kw, nb, nbL, pls_nb ts (k + 1)]
theorem pls_nb : ∀ (ts : List T) (k : Int), nbL (pls ts k) = true
  | [], _ => rfl
  | t :: ts, k => by simp [pls, nbL, pl_nb t k, pls_nb ts _]
end
theorem d_nb : ∀ t : T, nb t.d = true := by
  have : (∀ t : T, nb t.d = true) ∧ ∀ ts : List T, nbL (T.ds ts) = true := by
    refine ⟨fun t => ?_, fun ts => ?_⟩
    · exact T.rec (motive_1 := fun t => nb t.d = true) (motive_2 := fun ts => nbL (T.ds ts) = true) (fun s => by simp [T.d, kw, nb, nbL]) (fun s => by simp [T.d, kw, nb, nbL]) (fun ts h => by simp [T.d, kw, nb, nbL, h]) rfl (fun t ts h1 h2 => by simp [T.ds, nbL, h1, h2]) t
    · exact T.rec_1 (motive_1 := fun t => nb t.d = true) (motive_2 := fun ts => nbL (T.ds ts) = true) (fun s => by simp [T.d, kw, nb, nbL]) (fun s => by simp [T.d, kw, nb, nbL]) (fun ts h => by simp [T.d, kw, nb, nbL, h]) rfl (fun t ts h1 h2 => by simp [T.ds, nbL, h1, h2]) ts
  exact this.1
noncomputable def bPlace (F : List D → Me → Res D) : MS :=
  (sSeq (sIf (mB (m2 gNe (m2 gIx (mVar 0) (mC (.int 0))) (mC (.str ("list" : Str))))) (sSeq (sRet (mTup (mCons (m2 gAdd (mVar 0) (mTup (mCons (mVar 1) mNil))) (mCons (m2 gAdd (mVar 1) (mC (.int 1))) mNil)))) sNext) sNext) (sSeq (sSet 2 (mNew mNil)) (sSeq (sSet 3 (m2 gAdd (mVar 1) (mC (.int 1)))) (sSeq (sFor (iSeq (m2 gIx (mVar 0) (mC (.int 1)))) (tgN 4) (sSeq (sAsg (tgTup 2 (tgCons (tgN 5) (tgCons (tgN 3) tgNil))) (mCall F (mCons (mVar 4) (mCons (mVar 3) mNil)))) (sSeq (sDo (mAppend (mVar 2) (mVar 5))) sNext))) (sSeq (sRet (mTup (mCons (mTup (mCons (mC (.str ("list" : Str))) (mCons (mArgs gTuple (mCons (mVar 2) mNil)) (mCons (mVar 1) mNil)))) (mCons (mVar 3) mNil)))) sNext)))))
def IP (ts : List T) (k : Int) (d : D) (m : Me) (rest : List D) (ρ : En) (m' : Me) : Prop := ∃ (us rs : List T) (x4 x5 : Option D), ts = us ++ rs ∧ rest = T.ds rs ∧
  ρ = [some d, some (.int k), some (.ref m.length), some (.int (k + 1 + (T.ns us : Nat))), x4, x5] ∧ m' = m ++ [.lst (pls us (k + 1))]
theorem ns_app (a b : List T) : T.ns (a ++ b) = T.ns a + T.ns b := by
  induction a with
  | nil => simp [T.ns]
  | cons x l ih => simp [T.ns, ih]; omega
theorem pls_app (a b : List T) : ∀ k, pls (a ++ b) k = pls a k ++ pls b (k + (T.ns a : Int)) := by
  induction a with
  | nil => intro k; simp [pls, T.ns]
  | cons x l ih => intro k; simp [pls, T.ns, ih, Int.add_assoc]
theorem mem_dp {t : T} {ts : List T} (h : t ∈ ts) : t.dp ≤ T.dps ts := by
  induction ts with
  | nil => cases h
  | cons a l ih =>
    simp only [T.dps]
    rcases List.mem_cons.mp h with rfl | h
    · omega
    · have := ih h; omega
/-- lists that are not too long -/
theorem place_ok {A : Nat → List D → Me → Res D} (hA : ∀ n, A (n + 1) = runDef 6 2 (bPlace (A n))) : ∀ (n : Nat) (t : T) (k : Int) (m : Me), t.dp < n → t.n ≤ 100000 → A n [t.d, .int k] m = .ok (.tup [pl t k, .int (k + (t.n : Int))]) m := by
  intro n
  induction n with
  | zero => intro t k m h; omega
  | succ n ih =>
    intro t k m hd hn
    rw [hA]
    refine has_eq (has_def' [some t.d, some (.int k), none, none, none, none] ?_)
    unfold bPlace
    cases t with
    | word s =>
      have e1 := strD_flat.gNe "word" "list" m
      simp only [strD] at e1
      simp -dsimp -implicitDefEqProofs [T.d, kw, e1, leave_same, pl, T.n]
    | num s =>
      have e1 := strD_flat.gNe "num" "list" m
      simp only [strD] at e1
      simp -dsimp -implicitDefEqProofs [T.d, kw, e1, leave_same, pl, T.n]
    | list ts =>
      have e1 := strD_flat.gNe "list" "list" m
      simp only [strD] at e1
      simp -dsimp -implicitDefEqProofs [T.d, kw, e1]
      simp only [T.n] at hn
      refine for_has (IP ts k (.tup [kw "list", .tup (T.ds ts)]) m) ?_ ?_ ⟨[], ts, none, none, rfl, rfl, by simp [T.ns, kw], by simp [pls]⟩
      · rintro d r ρ m' ⟨us, rs, x4, x5, h1, h2, rfl, rfl⟩
        refine ⟨rfl, _, rfl, ?_⟩
        cases rs with
        | nil => simp [T.ds] at h2
        | cons t rs =>
          simp only [T.ds, List.cons.injEq] at h2
          obtain ⟨rfl, rfl⟩ := h2
          have hm : t ∈ ts := by rw [h1]; simp
          have hns : T.ns ts = T.ns us + (t.n + T.ns rs) := by rw [h1, ns_app]; rfl
          have hlen : us.length ≤ T.ns us := by
            clear h1 hns
            induction us with
            | nil => simp
            | cons a l ih2 =>
              have : 1 ≤ a.n := by cases a <;> simp [T.n]
              simp [T.ns]; omega
          have h := ih t (k + 1 + (T.ns us : Nat)) (m ++ [.lst (pls us (k + 1))]) (by have := mem_dp hm; simp only [T.dp] at hd; omega) (by omega)
          have ha : (m ++ [Cell.lst (pls us (k + 1))])[m.length]? = some (.lst (pls us (k + 1))) := by simp
          have hs : (m ++ [Cell.lst (pls us (k + 1))]).set m.length (.lst (pls us (k + 1) ++ [pl t (k + 1 + (T.ns us : Nat))])) = m ++ [.lst (pls (us ++ [t]) (k + 1))] := by
            rw [List.set_append_right _ _ (Nat.le_refl _), pls_app]; simp [pls]
          have eN : k + 1 + ((T.ns (us ++ [t]) : Nat) : Int) = k + 1 + (T.ns us : Nat) + (t.n : Int) := by rw [ns_app]; simp only [T.ns]; push_cast; omega
          have fin : IP ts k (.tup [kw "list", .tup (T.ds ts)]) m (T.ds rs) [some (.tup [kw "list", .tup (T.ds ts)]), some (.int k), some (.ref m.length), some (.int (k + 1 + (T.ns us : Nat) + (t.n : Int))), some t.d, some (pl t (k + 1 + (T.ns us : Nat)))] (m ++ [.lst (pls (us ++ [t]) (k + 1))]) :=
            ⟨us ++ [t], rs, some t.d, some (pl t (k + 1 + (T.ns us : Nat))), by rw [h1]; simp, rfl, by rw [eN], rfl⟩
          generalize hM : m ++ [Cell.lst (pls us (k + 1))] = M at *
          generalize t.d = td at *
          generalize pl t (k + 1 + (T.ns us : Nat)) = pd at *
          simp -dsimp -implicitDefEqProofs [h, ha, hs, tgTup, tgCons, tgNil, tgN, show (pls us (k + 1)).length < 1000000 by rw [pls_len]; omega]
          exact fin
      · rintro ρ m' ⟨us, rs, x4, x5, h1, h2, rfl, rfl⟩
        refine ⟨rfl, ?_⟩
        cases rs with
        | cons t rs => simp [T.ds] at h2
        | nil =>
          rw [List.append_nil] at h1; subst h1
          have ht : gTuple [.ref m.length] (m ++ [Cell.lst (pls ts (k + 1))]) = .ok (.tup (pls ts (k + 1))) (m ++ [Cell.lst (pls ts (k + 1))]) := gTuple_ref (by simp)
          have hnb : nb (.tup [.tup [kw "list", .tup (pls ts (k + 1)), .int k], .int (k + 1 + (T.ns ts : Nat))]) = true := by simp [nb, nbL, kw, pls_nb]
          have hlv := leave_app (m := m) (c := [Cell.lst (pls ts (k + 1))]) hnb
          simp only [kw] at hlv
          have e3 : k + ((T.ns ts + 1 : Nat) : Int) = k + 1 + (T.ns ts : Nat) := by push_cast; omega
          simp only [pl, T.n, e3, kw]
          generalize m ++ [Cell.lst (pls ts (k + 1))] = M at *
          simp -dsimp -implicitDefEqProofs [ht, hlv]
end U63

set_option maxRecDepth 100000
namespace U63
open PySem PySem.Spec PyProof.Rows L2 FL

/-! ### units as the law writes them -/
abbrev Tk := String × List String
abbrev Rw := String × List Tk
def tkD (t : Tk) : D := .tup [kw t.1, .lst (t.2.map strD)]
def rwD (r : Rw) : D := .tup [kw r.1, .lst (r.2.map tkD)]
def takeT (t : Tk) : T := .list (.word t.1 :: t.2.map .word)
def laid (gs : List String) : List T := List.zipWith (fun (k : Nat) g => .list [.word "be", .word g, .num k]) (List.range gs.length) gs
def unitT (nm : String) (ts : List Tk) (gs : List String) : T := .list ([.word "unit", .word nm, .list (.word "takes" :: ts.map takeT), .list (.word "gives" :: gs.map .word)] ++ laid gs)
noncomputable def bWord : MS := (sSeq (sRet (mTup (mCons (mC (.str ("word" : Str))) (mCons (mVar 0) mNil)))) sNext)
noncomputable def bListed : MS := (sSeq (sRet (mTup (mCons (mC (.str ("list" : Str))) (mCons (mArgs gTuple (mCons (mVar 0) mNil)) mNil)))) sNext)
noncomputable def bUnit (W L : List D → Me → Res D) : MS :=
  (sSeq (sSet 3 (mComp (iSeq (mVar 1)) [5, 6] (tgTup 2 (tgCons (tgN 5) (tgCons (tgN 6) tgNil))) cYes (mCall (L) (mCons (m2 gAdd (mLst (mCons (mCall (W) (mCons (mVar 5) mNil)) mNil)) (mComp (iSeq (mVar 6)) [8] (tgN 8) cYes (mCall (W) (mCons (mVar 8) mNil)))) mNil)))) (sSeq (sSet 4 (mComp (iZip (zRng1 (mCons (mArgs gLen (mCons (mVar 2) mNil)) mNil)) (zDat (mVar 2))) [7, 8] (tgTup 2 (tgCons (tgN 7) (tgCons (tgN 8) tgNil))) cYes (mCall (L) (mCons (mLst (mCons (mCall (W) (mCons (mC (.str ("be" : Str))) mNil)) (mCons (mCall (W) (mCons (mVar 8) mNil)) (mCons (mTup (mCons (mC (.str ("num" : Str))) (mCons (mVar 7) mNil))) mNil)))) mNil)))) (sSeq (sRet (mCall (L) (mCons (m2 gAdd (mLst (mCons (mCall (W) (mCons (mC (.str ("unit" : Str))) mNil)) (mCons (mCall (W) (mCons (mVar 0) mNil)) (mCons (mCall (L) (mCons (m2 gAdd (mLst (mCons (mCall (W) (mCons (mC (.str ("takes" : Str))) mNil)) mNil)) (mVar 3)) mNil)) (mCons (mCall (L) (mCons (m2 gAdd (mLst (mCons (mCall (W) (mCons (mC (.str ("gives" : Str))) mNil)) mNil)) (mComp (iSeq (mVar 2)) [8] (tgN 8) cYes (mCall (W) (mCons (mVar 8) mNil)))) mNil)) mNil))))) (mVar 4)) mNil))) sNext)))
theorem word_ok {W : List D → Me → Res D} (hW : W = runDef 1 1 bWord) (d : D) (m : Me) : W [d] m = .ok (.tup [kw "word", d]) m := by
  subst hW
  refine has_eq (has_def' [some d] ?_)
  unfold bWord
  simp -dsimp -implicitDefEqProofs [kw, leave_same]
theorem gTuple_lst {xs : List D} {m : Me} : gTuple [.lst xs] m = .ok (.tup xs) m := rfl
theorem gTuple_tup {xs : List D} {m : Me} : gTuple [.tup xs] m = .ok (.tup xs) m := rfl
theorem listed_ok {L : List D → Me → Res D} (hL : L = runDef 1 1 bListed) (xs : List D) (m : Me) : L [.lst xs] m = .ok (.tup [kw "list", .tup xs]) m := by
  subst hL
  refine has_eq (has_def' [some (.lst xs)] ?_)
  unfold bListed
  simp -dsimp -implicitDefEqProofs [kw, leave_same, gTuple_lst]
theorem laid_len (gs : List String) : (laid gs).length = gs.length := by simp [laid]
theorem laid_get {gs : List String} {i : Nat} {g : String} (h : gs[i]? = some g) : (laid gs)[i]? = some (.list [.word "be", .word g, .num i]) := by
  have hi := (List.getElem?_eq_some_iff.mp h).1
  unfold laid
  rw [List.getElem?_zipWith, h]
  simp [hi]
theorem gLen_tup (xs : List D) (m : Me) : gLen [.tup xs] m = .ok (.int (xs.length : Nat)) m := rfl
theorem gLen_lst (xs : List D) (m : Me) : gLen [.lst xs] m = .ok (.int (xs.length : Nat)) m := rfl
theorem unit_ok {W L U : List D → Me → Res D} (hW : W = runDef 1 1 bWord) (hL : L = runDef 1 1 bListed) (hU : U = runDef 9 3 (bUnit W L)) (nm : String) (ts : List Tk) (gs : List String) (h1 : ∀ t ∈ ts, t.2.length ≤ 1000) (h2 : ts.length ≤ 1000) (h3 : gs.length ≤ 1000) (m : Me) :
    U [kw nm, .lst (ts.map tkD), .tup (gs.map strD)] m = .ok (unitT nm ts gs).d m := by
  have w := word_ok hW
  have l := listed_ok hL
  subst hU
  refine has_eq (has_def' [some (kw nm), some (.lst (ts.map tkD)), some (.tup (gs.map strD)), none, none, none, none, none, none] ?_)
  unfold bUnit
  simp -dsimp -implicitDefEqProofs
  refine comp_all (fun t => (takeT t).d) (fun t ht => ⟨_, rfl, by simp, ?_⟩) ?_
  · refine has_eq ?_
    have := h1 t ht
    simp -dsimp -implicitDefEqProofs [w, tkD]
    refine comp_all (fun s => (T.word s).d) (fun s hs => ⟨_, rfl, by simp, ?_⟩) ?_
    · simp [w, strD, T.d, kw]
    · simp -dsimp -implicitDefEqProofs [l, show 1 + t.2.length ≤ 16777216 by omega]
      simp [takeT, T.d, T.ds, ds_map, kw]
  have z2 : (gs.length : Int) ≤ 1000000 := by omega
  have z3 : (-1000000 : Int) ≤ (gs.length : Int) := by omega
  simp -dsimp -implicitDefEqProofs [gLen_tup, z2, z3, gdY2]
  refine comp_rel (ys := (laid gs).map T.d) ?_ (fun i d y e1 e2 => ?_) ?_
  · simp [laid_len, rngL]
  · obtain ⟨d1, d2, q1, q2, rfl⟩ := List.getElem?_zipWith_eq_some.mp e1
    rw [List.getElem?_map] at q2 e2
    obtain ⟨g, hg, rfl⟩ := Option.map_eq_some_iff.mp q2
    obtain ⟨t, ht, rfl⟩ := Option.map_eq_some_iff.mp e2
    rw [laid_get hg] at ht
    cases ht
    have hi := (List.getElem?_eq_some_iff.mp hg).1
    have : d1 = .int i := by
      simp [rngL] at q1
      obtain ⟨a, ha, rfl⟩ := q1
      simp [hi] at ha
      simp [ha]
    subst this
    refine ⟨_, rfl, by simp, ?_⟩
    simp [w, l, T.d, T.ds, kw, strD]
  simp -dsimp -implicitDefEqProofs [w, l, show 1 + ts.length ≤ 16777216 by omega]
  refine comp_all (fun s => (T.word s).d) (fun s hs => ⟨_, rfl, by simp, ?_⟩) ?_
  · simp [w, strD, T.d, kw]
  simp -dsimp -implicitDefEqProofs [l, show 1 + gs.length ≤ 16777216 by omega, laid_len, show 4 + gs.length ≤ 16777216 by omega, leave_same]
  simp [unitT, T.d, T.ds, ds_map, kw]
/-! ### names and takes of a unit with places -/
noncomputable def bName : MS := (sSeq (sRet (m2 gIx (m2 gIx (m2 gIx (mVar 0) (mC (.int 1))) (mC (.int 1))) (mC (.int 1)))) sNext)
noncomputable def bTaken : MS := (sSeq (sRet (mComp (iSeq (mSl (m2 gIx (m2 gIx (m2 gIx (mVar 0) (mC (.int 1))) (mC (.int 2))) (mC (.int 1))) (mOpt (mC (.int 1))) mNo)) [1] (tgN 1) cYes (m2 gIx (m2 gIx (m2 gIx (mVar 1) (mC (.int 1))) (mC (.int 0))) (mC (.int 1))))) sNext)
noncomputable def bPlacesTaken (N K : List D → Me → Res D) : MS := (sSeq (sSet 1 (mComp (iSeq (mVar 0)) [2] (tgN 2) cYes (mCall N (mCons (mVar 2) mNil)))) (sSeq (sRet (mComp (iSeq (mVar 0)) [2] (tgN 2) cYes (mComp (iSeq (mCall K (mCons (mVar 2) mNil))) [3] (tgN 3) cYes (mIndex (mVar 1) (mVar 3))))) sNext))
noncomputable def bPlaceAll (P : List D → Me → Res D) : MS := (sSeq (sRet (m2 gIx (mCall P (mCons (mVar 0) (mCons (mVar 1) mNil))) (mC (.int 0)))) sNext)
theorem name_ok {N : List D → Me → Res D} (hN : N = runDef 1 1 bName) (nm : String) (ts : List Tk) (gs : List String) (k : Int) (m : Me) : N [pl (unitT nm ts gs) k] m = .ok (kw nm) m := by
  subst hN
  refine has_eq (has_def' [some (pl (unitT nm ts gs) k)] ?_)
  unfold bName
  simp -dsimp -implicitDefEqProofs [unitT, pl, pls, leave_same]
theorem tk_get (ts : List Tk) : ∀ (k : Int) (i : Nat) (d : D), (pls (ts.map takeT) k)[i]? = some d → ∃ t k', ts[i]? = some t ∧ d = pl (takeT t) k' := by
  induction ts with
  | nil => intro k i d h; simp [pls] at h
  | cons a l ih =>
    intro k i d h
    cases i with
    | zero => simp [pls] at h; exact ⟨a, k, rfl, h.symm⟩
    | succ i => simp [pls] at h; obtain ⟨t, k', h1, h2⟩ := ih _ _ _ h; exact ⟨t, k', by simpa using h1, h2⟩
theorem taken_ok {K : List D → Me → Res D} (hK : K = runDef 2 1 bTaken) (nm : String) (ts : List Tk) (gs : List String) (k : Int) (m : Me) : K [pl (unitT nm ts gs) k] m = .ok (.lst (ts.map fun t => kw t.1)) m := by
  subst hK
  refine has_eq (has_def' [some (pl (unitT nm ts gs) k), none] ?_)
  unfold bTaken
  simp -dsimp -implicitDefEqProofs [unitT, pl, pls, cut_1]
  refine comp_rel (ys := ts.map fun t => kw t.1) ?_ (fun i d y e1 e2 => ?_) ?_
  · simp [pls_len]
  · obtain ⟨t, k', h1, rfl⟩ := tk_get ts _ i d e1
    rw [List.getElem?_map, h1] at e2
    cases e2
    refine ⟨_, rfl, by simp, ?_⟩
    simp [takeT, pl, pls]
  · simp -dsimp -implicitDefEqProofs [leave_same]
theorem placeAll_ok {A : Nat → List D → Me → Res D} {P : List D → Me → Res D} (hA : ∀ n, A (n + 1) = runDef 6 2 (bPlace (A n))) {n : Nat} (hP : P = runDef 2 2 (bPlaceAll (A n))) (t : T) (k : Int) (m : Me) (hd : t.dp < n) (hn : t.n ≤ 100000) : P [t.d, .int k] m = .ok (pl t k) m := by
  subst hP
  refine has_eq (has_def' [some t.d, some (.int k)] ?_)
  unfold bPlaceAll
  simp -dsimp -implicitDefEqProofs [place_ok hA n t k m hd hn, leave_same]
/-- units with places, of rows -/
def unD (p : Rw × List String) : D := pl (unitT p.1.1 p.1.2 p.2) 0
/-- whom each unit takes from, by places -/
def tkI (rs : List Rw) : List (List Nat) := rs.map fun r => r.2.map fun t => (rs.map (·.1)).idxOf t.1
def Known (rs : List Rw) : Prop := ∀ r ∈ rs, ∀ t ∈ r.2, t.1 ∈ rs.map (·.1)
def tkIx (rs : List Rw) : D := .lst ((tkI rs).map fun l => .lst (l.map natD))
theorem placesTaken_ok {N K PT : List D → Me → Res D} (hN : N = runDef 1 1 bName) (hK : K = runDef 2 1 bTaken) (hP : PT = runDef 4 1 (bPlacesTaken N K)) (ps : List (Rw × List String)) (hk : Known (ps.map (·.1))) (m : Me) : PT [.tup (ps.map unD)] m = .ok (tkIx (ps.map (·.1))) m := by
  have n1 := name_ok hN
  have k1 := taken_ok hK
  subst hP
  refine has_eq (has_def' [some (.tup (ps.map unD)), none, none, none] ?_)
  unfold bPlacesTaken
  simp -dsimp -implicitDefEqProofs
  refine comp_all (fun p => kw p.1.1) (fun p hp => ⟨_, rfl, by simp, by simp [unD, n1]⟩) ?_
  simp -dsimp -implicitDefEqProofs
  refine comp_all (fun p => .lst ((p.1.2.map fun t => (ps.map fun p => p.1.1).idxOf t.1).map natD)) (fun p hp => ⟨_, rfl, by simp, ?_⟩) ?_
  · refine has_eq ?_
    simp -dsimp -implicitDefEqProofs [unD, k1]
    refine comp_all (fun t => natD ((ps.map fun p => p.1.1).idxOf t.1)) (fun t ht => ⟨_, rfl, by simp, ?_⟩) ?_
    · have hm : t.1 ∈ ps.map fun p => p.1.1 := by
        have := hk p.1 (List.mem_map_of_mem hp) t ht
        simpa [List.map_map, Function.comp_def] using this
      have e := strD_flat.gIndex (s := .lst (ps.map fun p => kw p.1.1)) m (l := ps.map fun p => p.1.1) (a := t.1) (by rw [List.map_map]; rfl) hm
      simp only [strD] at e
      have q : isSeq m (.lst (ps.map fun p => kw p.1.1)) = true := rfl
      simp [mIndex, q, kw, natD]
      simp [kw] at e
      exact e
    · simp -dsimp -implicitDefEqProofs [Function.comp_def]
  · simp -dsimp -implicitDefEqProofs [leave_same]
    simp [tkIx, tkI, List.map_map, Function.comp_def]
end U63

set_option maxRecDepth 100000
namespace FL
open PySem PySem.Spec PyProof.Rows L2

/-! ### one step: exceptions -/
@[simp ↓] theorem mCallX_h {Q : Res _ → Prop} (F : List D → Me → Res D) (fa : MA) (ρ : En) (m : Me) : RHas Q (mCallX F fa ρ m) = RHas Q ((fa ρ m).bind F) := rfl
@[simp ↓] theorem mMethX_h {Q : Res _ → Prop} (C : Addr) (x : Str) (F : List D → Me → Res D) (fo : ME) (fa : MA) (ρ : En) (m : Me) : RHas Q (mMethX C x F fo fa ρ m) = RHas Q ((fo ρ m).bind fun d m => match d with
  | .ref i => match m[i]? with
    | some (.ins C' fs) => if C' = C ∧ fs.lookup x = none then (fa ρ m).bind fun ds m => F (.ref i :: ds) m else .no
    | _ => .no
  | _ => .no) := rfl
@[simp ↓] theorem sRaise_h {Q : Fl → Prop} (F : List D → Me → Res D) (fa : MA) (ρ : En) (m : Me) : FHas Q (sRaise F fa ρ m) = FHas Q (match F [] m with
  | .ok _ _ => bindS ((fa ρ m).bind F) ρ fun _ _ => .no
  | _ => .no) := rfl
@[simp ↓] theorem mXF_h {Q : Res _ → Prop} (n : Str) (x : Exn) (ρ : En) (m : Me) : RHas Q (mXF n x ρ m) = RHas Q (match x.fs.lookup n with
  | some y => .ok y m
  | none => .no) := rfl
@[simp ↓] theorem mXI_h {Q : Res _ → Prop} (x : Exn) (ρ : En) (m : Me) : RHas Q (mXI x ρ m) = RHas Q (if x.fs.isEmpty = true then .no else .ok (.bl true) m) := rfl
@[simp] theorem rsF_nil (C : Addr) (np : Nat) (okD : List D → Bool) (flD : List D → List (Str × D)) (n : Nat) (m : Me) : rsF C np okD flD (n + 3) [] m = .ok .non m := rfl
theorem rsF_cons (C : Addr) (np : Nat) (okD : List D → Bool) (flD : List D → List (Str × D)) (n : Nat) (d : D) (ds : List D) (m : Me) (h : (d :: ds).length = np) (ho : okD (d :: ds) = true) : rsF C np okD flD (n + 3) (d :: ds) m = .exc ⟨.ref C, flD (d :: ds)⟩ m := by
  have e : rsF C np okD flD (n + 3) (d :: ds) m = if (d :: ds).isEmpty = true then .ok .non m else if (d :: ds).length = np ∧ okD (d :: ds) = true then .exc ⟨.ref C, flD (d :: ds)⟩ m else .no := rfl
  rw [e, if_neg (by simp), if_pos ⟨h, ho⟩]
theorem leaveX_same {m m' : Me} {x : Exn} (h : m'.length = m.length) : leaveX m x m' = .exc x m' := by unfold leaveX; rw [if_pos h]
/-- a def that may raise -/
def kDX (m : Me) (Q : Res D → Prop) : Fl → Prop := fun
  | .rt d m' => RHas Q (leave m d m')
  | .nx _ m' => RHas Q (leave m .non m')
  | .exc x _ m' => RHas Q (leaveX m x m')
  | _ => False
@[simp ↓, simp] theorem kDX_rt {m m' : Me} {Q : Res D → Prop} {d : D} : kDX m Q (.rt d m') = RHas Q (leave m d m') := rfl
@[simp ↓, simp] theorem kDX_nx {m m' : Me} {Q : Res D → Prop} {ρ : En} : kDX m Q (.nx ρ m') = RHas Q (leave m .non m') := rfl
@[simp ↓, simp] theorem kDX_exc {m m' : Me} {Q : Res D → Prop} {ρ : En} {x : Exn} : kDX m Q (.exc x ρ m') = RHas Q (leaveX m x m') := rfl
theorem has_defX {Q : Res D → Prop} {N n : Nat} {f : MS} {ds : List D} {m : Me} (ρ : En) (h : FHas (kDX m Q) (f ρ m)) (e : ds.map some ++ List.replicate (N - n) none = ρ := by rfl) : RHas Q (runDefX N n f ds m) := by
  unfold runDefX
  rw [e]
  cases q : f ρ m with
  | no => rw [q] at h; exact h.elim
  | exc x ρ m => rw [q] at h; exact h
  | bk ρ m => rw [q] at h; exact h.elim
  | ct ρ m => rw [q] at h; exact h.elim
  | nx ρ m => rw [q] at h; exact h
  | rt d m => rw [q] at h; exact h
/-- just this result -/
theorem has_is {α : Type} {r0 r : Res α} (h : RHas (fun x => x = r0) r) : r = r0 := by
  cases r with
  | no => exact h.elim
  | exc x m => exact h
  | ok a m => exact h
theorem is_has {α : Type} {Q : Res α → Prop} {r0 r : Res α} (e : r = r0) (h : RHas Q r0) : RHas Q r := by rw [e]; exact h
/-- try: the suite hands something back -/
def kTr (i : Nat) (C : Addr) (hnd : Exn → MS) (Q : Fl → Prop) : Fl → Prop := fun
  | .exc x ρ' m' => (x.cls = .ref C ∧ i < ρ'.length) ∧ ∃ d m, hnd x (ρ'.set i none) m' = .rt d m ∧ Q (.rt d m)
  | .no => False
  | r => Q r
theorem try_has {i : Nat} {C : Addr} {body : MS} {hnd : Exn → MS} {Q : Fl → Prop} {ρ : En} {m : Me} (h : FHas (kTr i C hnd Q) (body ρ m)) : FHas Q (sTryAs i C body hnd ρ m) := by
  unfold sTryAs
  cases e : body ρ m with
  | no => rw [e] at h; exact h.elim
  | nx ρ m => rw [e] at h; exact h
  | rt d m => rw [e] at h; exact h
  | bk ρ m => rw [e] at h; exact h
  | ct ρ m => rw [e] at h; exact h
  | exc x ρ' m' =>
    rw [e] at h
    obtain ⟨h1, d, m2, h2, h3⟩ := h
    simp only
    rw [if_pos h1, h2]
    exact h3
/-! ### a thing is equal to itself -/
noncomputable def bEqual (F : List D → Me → Res D) : MS :=
  (sSeq (sIf (mB (m1 (gIsi "tuple") (mVar 1))) (sSeq (sIf (mOr (mNot (mB (m1 (gIsi "tuple") (mVar 0)))) (mB (m2 gNe (mArgs gLen (mCons (mVar 0) mNil)) (mArgs gLen (mCons (mVar 1) mNil))))) (sSeq (sRet (mC (.bl false))) sNext) sNext) (sSeq (sRet (m2 gEq (mComp (iRange1 (mCons (mArgs gLen (mCons (mVar 1) mNil)) mNil)) [2] (tgN 2) (mNot (mB (mCall F (mCons (m2 gIx (mVar 0) (mVar 2)) (mCons (m2 gIx (mVar 1) (mVar 2)) mNil))))) (mVar 2)) (mLst mNil))) sNext)) sNext) (sSeq (sIf (mB (m2 gIsN (mVar 1) (mC .non))) (sSeq (sRet (m2 gIsN (mVar 0) (mC .non))) sNext) sNext) (sSeq (sIf (mB (m1 (gIsi "str") (mVar 1))) (sSeq (sRet (mAndV (m1 (gIsi "str") (mVar 0)) (m2 gEq (mVar 0) (mVar 1)))) sNext) sNext) (sSeq (sRet (mAndV (m1 (gIsi "int") (mVar 0)) (mAndV (m2 gEq (m1 (gIsi "bool") (mVar 0)) (m1 (gIsi "bool") (mVar 1))) (m2 gEq (mVar 0) (mVar 1))))) sNext))))
theorem equal_has {A : Nat → List D → Me → Res D} (hA : ∀ n, A (n + 1) = runDef 3 2 (bEqual (A n))) : ∀ (n : Nat) (d : D), al d = true → dpD d < n → ∀ m : Me, A n [d, d] m = .ok (.bl true) m := by
  intro n
  induction n with
  | zero => intro d _ h; omega
  | succ n ih =>
    intro d ha hd m
    rw [hA]
    cases d with
    | non => simp [runDef, bEqual, isi_non, ki1, isN, leave_same]
    | bl b =>
      have h1 : gIsi "int" (.bl b) m = .ok (.bl true) m := by rw [isi_bl, ki19]
      have h2 : gIsi "str" (.bl b) m = .ok (.bl false) m := by rw [isi_bl, ki20]
      simp [runDef, bEqual, isi_bl, ki10, ki11, h1, h2, isN, leave_same]
    | int i => simp [runDef, bEqual, isi_int, ki6, ki7, ki8, ki15, isN, leave_same]
    | str s =>
      have hs : PyData.strOk s = true := by simpa [al] using ha
      simp [runDef, bEqual, isi_str, ki2, ki3, ki4, ki5, isN, gEq_str _ _ _ hs hs, leave_same]
    | tup xs =>
      simp only [al, Bool.and_eq_true, decide_eq_true_eq] at ha
      obtain ⟨ha, hz⟩ := ha
      rw [alL_iff] at ha
      simp only [dpD] at hd
      have h : ∀ x ∈ xs, A n [x, x] m = .ok (.bl true) m := fun x hx => ih x (ha x hx) (by have := dpL_le.mp (Nat.le_refl _) x hx; omega) m
      have hc := compF_pure (gt := tgN 2) (c := (mNot (mB (mCall (A n) (mCons (m2 gIx (mVar 0) (mVar 2)) (mCons (m2 gIx (mVar 1) (mVar 2)) mNil)))))) (e := mVar 2) (ρ := [some (.tup xs), some (.tup xs), none]) (m := m) (fun _ => false) id (rngL 0 xs.length) fun d hd => by
        obtain ⟨k, hk, rfl⟩ := rng_mem hd
        have hx : gIx (.tup xs) (.int ((0 : Int) + k)) m = .ok xs[k] m := by
          unfold gIx; simp only [view_tup', Int.zero_add]
          rw [atI_nat (List.getElem?_eq_getElem hk)]
        refine ⟨_, rfl, ?_, fun z => by cases z⟩
        have hh := h _ (List.getElem_mem hk)
        simp at hx
        simp [hx, hh]
      have hf : ((rngL 0 xs.length).filter fun _ => false) = [] := List.filter_eq_nil_iff.mpr fun _ _ => by simp
      rw [hf] at hc
      have en : gEq (.lst []) (.lst []) m = .ok (.bl true) m := gEq_lnil m rfl (by simp [dpL])
      simp [runDef, bEqual, isi_tup, ki9, show (xs.length : Int) ≤ 1000000 ∧ (-1000000 : Int) ≤ xs.length by omega, hc, en, leave_same]
    | _ => cases ha
/-! ### draws beside things that refer to one another -/
structure Wn (i : Nat) (ds : List Int) (m : Me) : Prop where
  w : ∃ k : Int, 0 ≤ k ∧ m[i]? = some (WX ds k [])
def Dn (i : Nat) (ds : List Int) (m m' : Me) : Prop := ∃ k : Int, 0 ≤ k ∧ m' = m.set i (WX ds k [])
theorem ex0' : ExOk [] := ⟨by simp, by simp, fun _ => rfl⟩
section
variable {i : Nat} {ds : List Int} {m m' m'' c : Me}
theorem Wn.lt (h : Wn i ds m) : i < m.length := by obtain ⟨k, _, e⟩ := h.w; exact (List.getElem?_eq_some_iff.mp e).1
theorem Wn.ev (h : Wn i ds m) (e : Dn i ds m m') : Wn i ds m' := by
  obtain ⟨k, h0, rfl⟩ := e
  exact ⟨⟨k, h0, List.getElem?_set_self h.lt⟩⟩
theorem Wn.app (h : Wn i ds m) : Wn i ds (m ++ c) := by
  obtain ⟨k, h0, e⟩ := h.w
  exact ⟨⟨k, h0, by rw [List.getElem?_append_left (List.getElem?_eq_some_iff.mp e).1]; exact e⟩⟩
theorem Dn.refl (h : Wn i ds m) : Dn i ds m m := by
  obtain ⟨k, h0, e⟩ := h.w
  refine ⟨k, h0, ?_⟩
  obtain ⟨hi, e⟩ := List.getElem?_eq_some_iff.mp e
  rw [← e, List.set_getElem_self]
theorem Dn.trans (h : Dn i ds m m') (h' : Dn i ds m' m'') : Dn i ds m m'' := by
  obtain ⟨k, h0, rfl⟩ := h
  obtain ⟨k', h0', rfl⟩ := h'
  exact ⟨k', h0', by rw [List.set_set]⟩
theorem Dn.len (h : Dn i ds m m') : m'.length = m.length := by obtain ⟨k, _, rfl⟩ := h; simp
theorem Dn.get (h : Dn i ds m m') {j : Nat} (hj : i ≠ j) : m'[j]? = m[j]? := by obtain ⟨k, _, rfl⟩ := h; rw [List.getElem?_set_ne hj]
theorem nextN_has {F : List D → Me → Res D} {f : Nat → List D → Me → Res D} (h : Wn i ds m) (hF : F = runDef 2 2 (bNext f)) {a : Int} (ha : 0 < a) :
    RHas (OkR fun d m' => ∃ v : Nat, (v : Int) < a ∧ d = .int v ∧ Dn i ds m m') (F [.ref i, .int a] m) := by
  subst hF
  obtain ⟨k, hk, e⟩ := h.w
  have hi := h.lt
  have hp : dput m (.ref i) (.str "at") (.int (k + 1)) = some (m.set i (WX ds (k + 1) [])) := by
    unfold dput; simp only [keyD, e]; rw [WX]; simp only; rw [if_pos (by simp), setK_at ex0']; rfl
  have h' : (m.set i (WX ds (k + 1) []))[i]? = some (WX ds (k + 1) []) := List.getElem?_set_self hi
  have hl : (m.set i (WX ds (k + 1) [])).length = m.length := List.length_set ..
  by_cases hc : (ds.length : Int) < k + 1
  · refine eq_has (a := .int 0) (m := m.set i (WX ds (k + 1) [])) ?_ ⟨_, _, rfl, 0, ha, rfl, k + 1, by omega, rfl⟩
    simp [runDef, bNext, look_atX e, hp, gDget, look_atX h', look_drawsX h', hc, leave_same hl]
  · have hlt : k.toNat < ds.length := by omega
    have e1 : atI (ds.map D.int) k = some (.int (ds[k.toNat])) := by
      have q : atI (ds.map D.int) ((k.toNat : Nat) : Int) = some (.int (ds[k.toNat])) := atI_nat (by rw [List.getElem?_map]; simp [hlt])
      rwa [show ((k.toNat : Nat) : Int) = k by omega] at q
    have h0 := Int.emod_nonneg ds[k.toNat] (b := a) (by omega)
    refine eq_has (a := .int (ds[k.toNat] % a)) (m := m.set i (WX ds (k + 1) [])) ?_ ⟨_, _, rfl, (ds[k.toNat] % a).toNat, by rw [Int.toNat_of_nonneg h0]; exact Int.emod_lt_of_pos _ ha, by rw [Int.toNat_of_nonneg h0], k + 1, by omega, rfl⟩
    simp [runDef, bNext, look_atX e, hp, gDget, look_atX h', look_drawsX h', hc, leave_same hl, gIx, e1, gMod_int ha]
theorem pickN_has {F : List D → Me → Res D} {f g : Nat → List D → Me → Res D} {j : Nat} (h : Wn i ds m) (hF : F = runDef 2 2 (bPick j f)) (hN : f j = runDef 2 2 (bNext g)) {xs : List D} (hx : xs ≠ []) :
    RHas (OkR fun d m' => d ∈ xs ∧ Dn i ds m m') (F [.ref i, .lst xs] m) := by
  subst hF
  have hpos : 0 < xs.length := List.length_pos_iff.mpr hx
  obtain ⟨d, m', e, v, hv, rfl, ev⟩ := (nextN_has h hN (a := (xs.length : Int)) (by omega)).ex
  have hv' : v < xs.length := by omega
  refine eq_has (a := xs[v]) (m := m') ?_ ⟨_, _, rfl, List.getElem_mem hv', ev⟩
  have e1 : atI xs (v : Int) = some xs[v] := atI_nat (List.getElem?_eq_getElem hv')
  simp [runDef, bPick, e, gIx, e1, leave_same ev.len]
end
/-! ### comprehensions -/
theorem maxI_of {l : List Int} {k : Int} (h1 : k ∈ l) (h2 : ∀ x ∈ l, x ≤ k) : maxI l = some k := by
  have key : ∀ (r : List Int) (a : Int), r.foldl max a ∈ a :: r ∧ ∀ x ∈ a :: r, x ≤ r.foldl max a := by
    intro r
    induction r with
    | nil => intro a; simp
    | cons b r ih =>
      intro a
      obtain ⟨i1, i2⟩ := ih (max a b)
      simp only [List.foldl_cons]
      refine ⟨?_, fun x hx => ?_⟩
      · rcases List.mem_cons.mp i1 with h | h
        · rw [h]
          rcases Int.le_total a b with q | q
          · rw [Int.max_eq_right q]; simp
          · rw [Int.max_eq_left q]; simp
        · simp [h]
      · have hm := i2 (max a b) (by simp)
        rcases List.mem_cons.mp hx with rfl | hx
        · have := Int.le_max_left x b; omega
        · rcases List.mem_cons.mp hx with rfl | hx
          · have := Int.le_max_right a x; omega
          · exact i2 x (by simp [hx])
  cases l with
  | nil => cases h1
  | cons a r =>
    obtain ⟨i1, i2⟩ := key r a
    have e : r.foldl max a = k := by
      have := h2 _ i1
      have := i2 k h1
      omega
    have ef : (fun x y : Int => if y > x then y else x) = max := by
      funext x y
      rw [Int.max_def]
      split <;> split <;> omega
    unfold maxI
    simp only [ef, e]
/-! ### setdefault, a field counted up, sorted whole numbers -/
@[simp ↓] theorem mSetd_h {Q : Res _ → Prop} (fo fk fv : ME) (ρ : En) (m : Me) : RHas Q (mSetd fo fk fv ρ m) = RHas Q ((fo ρ m).bind fun d m => match d with
  | .ref i => match m[i]? with
    | some (.dK _) => (fk ρ m).bind fun k m => (fv ρ m).bind fun y m => match m[i]?, keyD k with
      | some (.dK kvs), some k => if kvs.length < 1000000 then match getK kvs k with
        | some v => .ok v m
        | none => .ok y (m.set i (.dK (setK kvs k y)))
        else .no
      | _, _ => .no
    | _ => .no
  | _ => .no) := rfl
@[simp ↓] theorem sFldAug_h {Q : Fl → Prop} (C : Addr) (x : Str) (g : Int → Int → Int) (fo fe : ME) (ρ : En) (m : Me) : FHas Q (sFldAug C x g fo fe ρ m) = FHas Q (bindS (fo ρ m) ρ fun d m => match d with
  | .ref i => match m[i]? with
    | some (.ins C' fs) => if C' = C then match fs.lookup x with
      | some (.int a) => bindS (fe ρ m) ρ fun y m => match y with
        | .int b => match m[i]? with
          | some (.ins C2 fs2) => if C2 = C ∧ fs2.length < 1000 then .nx ρ (m.set i (.ins C (putA x (.int (g a b)) fs2))) else .no
          | _ => .no
        | _ => .no
      | _ => .no
      else .no
    | _ => .no
  | _ => .no) := rfl
@[simp ↓] theorem sLaug_h {Q : Fl → Prop} (fo fi fe : ME) (ρ : En) (m : Me) : FHas Q (sLaug fo fi fe ρ m) = FHas Q (bindS (fo ρ m) ρ fun d m => bindS (fi ρ m) ρ fun k m => match d, k with
  | .ref i, .int k => if 0 ≤ k then match m[i]? with
    | some (.lst xs) => match atI xs k with
      | some (.int a) => bindS (fe ρ m) ρ fun y m => match y with
        | .int b => match m[i]? with
          | some (.lst xs) => match ixN xs.length k with
            | some j => .nx ρ (m.set i (.lst (xs.set j (.int (a + b)))))
            | none => .no
          | _ => .no
        | _ => .no
      | _ => .no
    | _ => .no
    else .no
  | _, _ => .no) := rfl
theorem leD_int (a b : Int) : leD (.int a) (.int b) = decide (a ≤ b) := by
  have e1 : ∀ x : Int, enc (.int x) = .int x := fun x => by simp [enc, py]
  have e2 : leD (.int a) (.int b) = PySem.W.dataLe false (fun x : Int => PyData.int x) a b := by
    simp only [leD, PySem.W.dataLe_eq, e1]
  rw [e2, PySem.W.dataLe_int]
theorem okSort_ints (l : List Int) (hl : l.length ≤ 1000000) : OkSort (l.map D.int) := by
  have he : (l.map D.int).map enc = l.map PyData.int := by
    rw [List.map_map]; exact List.map_congr_left fun x _ => by simp [enc, py]
  refine ⟨fun x hx => ?_, ?_, ?_, by simpa using hl⟩
  · obtain ⟨k, _, rfl⟩ := List.mem_map.mp hx
    exact ⟨by simp [py], by simp [enc, py, PyData.depth]⟩
  · rw [he]; exact PySem.W.AllAlike.of fun b b' => by simp [PySem.W.alike]
  · rw [he]; exact PySem.W.Sortable.others fun b => ⟨by simp, by simp⟩
theorem sortT_asc {l : List Int} (h : l.Pairwise (· ≤ ·)) (hl : l.length ≤ 1000000) (m : Me) : gSortT [.tup (l.map D.int)] m = .ok (.lst (l.map D.int)) m := by
  unfold gSortT
  simp only
  rw [if_pos (okSort_ints l hl), List.mergeSort_of_pairwise]
  rw [List.pairwise_map]
  exact h.imp fun {a b} hab => by rw [leD_int]; simpa using hab
/-- a choice out of known things, while something is kept -/
theorem comp_selP {α : Type} {gt : D → En → Option En} {c : MT} {e : ME} {ρ : En} {Q : Res (List D) → Prop} (P : Me → Prop) (f : α → D) {xs : List α} {g : α → D} {m : Me} (h : P m)
    (step : ∀ x ∈ xs, ∀ m', P m' → ∃ ρ1, gt (g x) ρ = some ρ1 ∧ RHas (OkR fun (_ : Bool) m2 => P m2) (c ρ1 m') ∧ ∀ m2, P m2 → e ρ1 m2 = .ok (f x) m2)
    (done : ∀ (ys : List α) (m' : Me), ys.Sublist xs → P m' → Q (.ok (ys.map f) m')) : RHas Q (compF gt c e gdY ρ (xs.map g) m) := by
  refine comp_has (fun r ys m' => ∃ us rs zs : List α, xs = us ++ rs ∧ r = rs.map g ∧ zs.Sublist us ∧ ys = zs.map f ∧ P m') ?_ ?_ ⟨[], xs, [], rfl, rfl, .slnil, rfl, h⟩
  · rintro d r ys m' ⟨us, rs, zs, e1, e2, hz, rfl, hP⟩
    cases rs with
    | nil => simp at e2
    | cons x rs =>
      simp only [List.map_cons, List.cons.injEq] at e2
      obtain ⟨rfl, rfl⟩ := e2
      obtain ⟨ρ1, h1, h2, h3⟩ := step x (by rw [e1]; simp) m' hP
      refine ⟨rfl, ρ1, h1, ?_⟩
      obtain ⟨b, m2, e4, hP2⟩ := h2.ex
      rw [e4]
      simp only [rhas_ok, kC_ok]
      cases b with
      | true =>
        rw [if_pos rfl, h3 m2 hP2]
        simp only [rhas_ok, kE_ok]
        exact ⟨us ++ [x], rs, zs ++ [x], by rw [e1]; simp, rfl, hz.append (.refl _), by simp, hP2⟩
      | false =>
        rw [if_neg Bool.false_ne_true]
        exact ⟨us ++ [x], rs, zs, by rw [e1]; simp, rfl, hz.trans (List.sublist_append_left _ _), rfl, hP2⟩
  · rintro ys m' ⟨us, rs, zs, e1, e2, hz, rfl, hP⟩
    have : rs = [] := by simpa using e2.symm
    subst this
    rw [List.append_nil] at e1
    subst e1
    exact ⟨rfl, done zs m' hz hP⟩
/-- a thing made at each turn, by how many there were -/
theorem comp_count {gt : D → En → Option En} {c : MT} {e : ME} {ρ : En} {Q : Res (List D) → Prop} (P : Nat → Me → Prop) (f : Nat → D) {ds : List D} {m : Me} (h : P 0 m)
    (step : ∀ d ∈ ds, ∀ k m', k < ds.length → P k m' → ∃ ρ1, gt d ρ = some ρ1 ∧ c ρ1 m' = .ok true m' ∧ RHas (OkR fun y m2 => y = f k ∧ P (k + 1) m2) (e ρ1 m'))
    (done : ∀ m', P ds.length m' → Q (.ok ((List.range ds.length).map f) m')) : RHas Q (compF gt c e gdY ρ ds m) := by
  refine comp_has (fun r ys m' => (∀ d ∈ r, d ∈ ds) ∧ ∃ k, k + r.length = ds.length ∧ ys = (List.range k).map f ∧ P k m') ?_ ?_ ⟨fun _ h => h, 0, by simp, rfl, h⟩
  · rintro d r ys m' ⟨hr, k, hk, rfl, hP⟩
    simp only [List.length_cons] at hk
    obtain ⟨ρ1, h1, h2, h3⟩ := step d (hr d (by simp)) k m' (by omega) hP
    refine ⟨rfl, ρ1, h1, ?_⟩
    obtain ⟨y, m2, e4, rfl, hP2⟩ := h3.ex
    rw [h2]
    simp only [rhas_ok, kC_ok, if_true]
    rw [e4]
    simp only [rhas_ok, kE_ok]
    exact ⟨fun d hd => hr d (by simp [hd]), k + 1, by omega, by rw [List.range_succ]; simp, hP2⟩
  · rintro ys m' ⟨_, k, hk, rfl, hP⟩
    simp only [List.length_nil, Nat.add_zero] at hk
    subst hk
    exact ⟨rfl, done m' hP⟩
theorem leaveN {m c : Me} {d : D} (h : Pl d) : leave m d (m ++ c) = .ok d m := by
  unfold leave
  by_cases q : (m ++ c).length = m.length
  · have : c = [] := by rw [List.length_append] at q; exact List.length_eq_zero_iff.mp (by omega)
    subst this
    rw [if_pos q, List.append_nil]
  · rw [if_neg q, thaw_clo d (h _)]
    simp only [List.take_left]
    rw [if_pos (.inl trivial)]
theorem leave0 {c : Me} {d : D} (h : Pl d) : leave [] d c = .ok d [] := by
  have := leaveN (m := []) (c := c) h
  rwa [List.nil_append] at this
end FL

set_option maxRecDepth 100000
namespace U63
open PySem PySem.Spec PyProof.Rows L2 FL

/-! ### data, what laws without dots need -/
mutual
theorem d_dp : ∀ t : T, dpD t.d ≤ 2 * t.dp + 2
  | .word s => by simp [T.d, dpD, dpL, kw]
  | .num k => by simp [T.d, dpD, dpL, kw]
  | .list ts => by have := ds_dp ts; simp [T.d, dpD, dpL, kw, T.dp]; omega
theorem ds_dp : ∀ ts : List T, dpL (T.ds ts) ≤ 2 * T.dps ts + 2
  | [] => by simp [T.ds, dpL]
  | t :: ts => by have := d_dp t; have := ds_dp ts; simp [T.ds, dpL, T.dps]; omega
end
mutual
theorem d_inj : ∀ {a b : T}, a.d = b.d → a = b
  | .word s, .word s', h => by simp [T.d, kw, ofs_eq] at h; rw [h]
  | .num k, .num k', h => by simp [T.d, kw] at h; rw [h]
  | .list l, .list l', h => by
    have : T.ds l = T.ds l' := by simpa [T.d] using h
    rw [ds_inj this]
  | .word s, .num k, h => by simp [T.d, kw, ofs_eq] at h
  | .word s, .list l, h => by simp [T.d, kw, ofs_eq] at h
  | .num k, .word s, h => by simp [T.d, kw, ofs_eq] at h
  | .num k, .list l, h => by simp [T.d, kw, ofs_eq] at h
  | .list l, .word s, h => by simp [T.d, kw, ofs_eq] at h
  | .list l, .num k, h => by simp [T.d, kw, ofs_eq] at h
theorem ds_inj : ∀ {a b : List T}, T.ds a = T.ds b → a = b
  | [], [], _ => rfl
  | [], _ :: _, h => by simp [T.ds] at h
  | _ :: _, [], h => by simp [T.ds] at h
  | a :: l, b :: l', h => by
    simp only [T.ds, List.cons.injEq] at h
    rw [d_inj h.1, ds_inj h.2]
end
theorem eq_t [DecidableEq T] {a b : T} (ha : a.dp ≤ 20) (hb : b.dp ≤ 20) (m : Me) : gEq a.d b.d m = .ok (.bl (decide (a = b))) m := by
  rw [gEq_nb m (d_nb a) (d_nb b) (by have := d_dp a; omega) (by have := d_dp b; omega)]
  by_cases e : a = b
  · subst e; rw [eqc_self, decide_eq_true rfl]
  · rw [eqc_ne (fun z => e (d_inj z)), decide_eq_false e]
theorem ne_t [DecidableEq T] {a b : T} (ha : a.dp ≤ 20) (hb : b.dp ≤ 20) (m : Me) : gNe a.d b.d m = .ok (.bl (!decide (a = b))) m := by
  rw [gNe_nb m (d_nb a) (d_nb b) (by have := d_dp a; omega) (by have := d_dp b; omega)]
  by_cases e : a = b
  · subst e; rw [eqc_self, decide_eq_true rfl]
  · rw [eqc_ne (fun z => e (d_inj z)), decide_eq_false e]
def tg : T → String
  | .word _ => "word"
  | .num _ => "num"
  | .list _ => "list"
theorem tg_ix (t : T) (m : Me) : gIx t.d (.int 0) m = .ok (.str (Str.ofString (tg t))) m := by cases t <;> simp [T.d, kw, tg]
theorem ls_ix (ts : List T) (m : Me) : gIx (T.list ts).d (.int 1) m = .ok (.tup (T.ds ts)) m := by simp [T.d, kw]
theorem wd_ix (s : String) (m : Me) : gIx (T.word s).d (.int 1) m = .ok (.str (Str.ofString s)) m := by simp [T.d, kw]
theorem nm_ix (i : Int) (m : Me) : gIx (T.num i).d (.int 1) m = .ok (.int i) m := by simp [T.d, kw]
theorem sl2 (t : T) (m : Me) : gSl t.d none (some 2) m = .ok t.d m := by
  cases t <;> simp [T.d]
theorem ds_get {ts : List T} {k : Nat} {t : T} (h : ts[k]? = some t) : (T.ds ts)[k]? = some t.d := by rw [ds_map, List.getElem?_map, h]; rfl
theorem lift_str : ∀ {l : List Str}, (∀ x ∈ l, ∃ w : String, x = Str.ofString w) → ∃ l' : List String, l = l'.map Str.ofString
  | [], _ => ⟨[], rfl⟩
  | x :: l, h => by
    obtain ⟨w, rfl⟩ := h x (by simp)
    obtain ⟨l', rfl⟩ := lift_str (l := l) fun y hy => h y (by simp [hy])
    exact ⟨w :: l', rfl⟩
/-- sorted(set(texts)) -/
theorem sortset_str {ws : List String} (hl : ws.length < 4095) : ∃ ms : List String, (∀ m s, view m s = .lst (ws.map strD) → gSortSetS s m = .ok (.lst (ms.map strD)) m) ∧ (∀ w, w ∈ ms ↔ w ∈ ws) ∧ ms.length ≤ ws.length := by
  have hm : ∀ x, x ∈ sortS (dd (ws.map Str.ofString)) ↔ x ∈ ws.map Str.ofString := fun x => by
    unfold sortS
    rw [(List.mergeSort_perm _ _).mem_iff, dd_mem]
  obtain ⟨ms, hms⟩ := lift_str (l := sortS (dd (ws.map Str.ofString))) fun x hx => by
    obtain ⟨w, _, rfl⟩ := List.mem_map.mp ((hm x).mp hx)
    exact ⟨w, rfl⟩
  have hs : ∀ l : List String, strsD (l.map strD) = some (l.map Str.ofString) := fun l => by
    induction l with
    | nil => rfl
    | cons a l ih => simp only [List.map_cons, strD, strsD, ih]; rfl
  refine ⟨ms, fun m s hv => ?_, fun w => ?_, ?_⟩
  · unfold gSortSetS
    rw [hv]
    simp only [hs]
    rw [if_pos (by simpa using hl), hms, List.map_map]
    rfl
  · have := hm (Str.ofString w)
    rw [hms, List.mem_map, List.mem_map] at this
    constructor
    · intro h
      obtain ⟨v, hv, e⟩ := this.mp ⟨w, h, rfl⟩
      rwa [← ofs_inj.mp e]
    · intro h
      obtain ⟨v, hv, e⟩ := this.mpr ⟨w, h, rfl⟩
      rwa [← ofs_inj.mp e]
  · have h1 : (sortS (dd (ws.map Str.ofString))).length = ms.length := by rw [hms, List.length_map]
    have h2 := dd_len (ws.map Str.ofString)
    unfold sortS at h1
    rw [List.length_mergeSort] at h1
    simp at h2; omega
theorem leave_dct {m : Me} {K : List (Key × D)} (hk : ∀ n, cloK n K = true) : leave m (.ref m.length) (m ++ [.dK K]) = .ok (.dct K) m := by
  unfold leave
  rw [if_neg (by simp)]
  have : thaw m.length (m ++ [.dK K]) (.ref m.length) = some (.dct K) := by
    simp only [thaw]
    rw [if_neg (by omega)]
    simp [hk]
  rw [this]
  simp only [List.take_left']
  rw [if_pos (.inl trivial)]
theorem leave_lst {m : Me} {xs : List D} (h : nbL xs = true) : leave m (.ref m.length) (m ++ [.lst xs]) = .ok (.lst xs) m := by
  refine leave_one ?_
  simp [thaw, cloL_nb _ _ h]
theorem set_one (m : Me) (c c' : Cell) : (m ++ [c]).set m.length c' = m ++ [c'] := by simp
theorem get_one (m : Me) (c : Cell) : (m ++ [c])[m.length]? = some c := by simp
theorem mem_dp' {t : T} {ts : List T} (h : t ∈ ts) : t.dp ≤ T.dps ts := mem_dp h
theorem mem_n {t : T} {ts : List T} (h : t ∈ ts) : t.n ≤ T.ns ts := by
  obtain ⟨a, b, rfl⟩ := List.append_of_mem h
  rw [ns_app]; simp only [T.ns]; omega
theorem n_pos (t : T) : 0 < t.n := by cases t <;> simp [T.n]
theorem len_ns (ts : List T) : ts.length ≤ T.ns ts := by
  induction ts with
  | nil => simp
  | cons t l ih => have := n_pos t; simp only [T.ns, List.length_cons]; omega
theorem ds_nb (ts : List T) : nbL (T.ds ts) = true := by rw [ds_map]; exact nbL_iff.mpr fun x hx => by obtain ⟨t, _, rfl⟩ := List.mem_map.mp hx; exact d_nb t
/-! ### no dots -/
def hold : D := .tup [kw "word", kw "..."]
theorem hold_lit : hold = .tup [.str (Str.ofString "word"), .str (Str.ofString "...")] := rfl
theorem d_hold {t : T} : t.d = hold ↔ t = .word "..." := by
  cases t with
  | word s => simp [T.d, hold, kw, ofs_eq]
  | num k => simp [T.d, hold, kw]
  | list ts => simp [T.d, hold, kw]
theorem eq_hold {t : T} (h : t.dp ≤ 20) (hn : t ≠ .word "...") (m : Me) : gEq t.d hold m = .ok (.bl false) m := by
  rw [gEq_nb m (d_nb t) (by simp [hold, kw, nb, nbL]) (by have := d_dp t; omega) (by simp [hold, kw, dpD, dpL]), eqc_ne (fun z => hn (d_hold.mp z))]
noncomputable def bDots : MS :=
  (sSeq (sFor (iRange2 (mCons (mC (.int 1)) (mCons (mArgs gLen (mCons (mVar 0) mNil)) mNil))) (tgN 1) (sSeq (sIf (mB (m2 gEq (mSl (m2 gIx (mVar 0) (mVar 1)) mNo (mOpt (mC (.int 2)))) (mC (.tup [.str ("word" : Str), .str ("..." : Str)])))) (sSeq (sRet (m2 gSub (mVar 1) (mC (.int 1)))) sNext) sNext) sNext)) (sSeq (sRet (mC .non)) sNext))
theorem nodots_ok {F : List D → Me → Res D} (hF : F = runDef 2 1 bDots) {ts : List T} (hd : ∀ t ∈ ts, t.dp ≤ 20) (hn : ∀ t ∈ ts, t ≠ .word "...") (hl : ts.length ≤ 100000) (m : Me) : F [.tup (T.ds ts)] m = .ok .non m := by
  subst hF
  refine has_eq (has_def' [some (.tup (T.ds ts)), none] ?_)
  unfold bDots
  simp -dsimp -implicitDefEqProofs [ds_len, show (ts.length : Int) ≤ 1000000 by omega, show (-1000000 : Int) ≤ (ts.length : Int) by omega]
  refine for_has (fun r ρ m' => (∀ d ∈ r, ∃ k : Nat, k < ts.length ∧ d = .int (k : Int)) ∧ (∃ x1, ρ = [some (.tup (T.ds ts)), x1]) ∧ m' = m) ?_ ?_ ⟨fun d hd => ?_, ⟨_, rfl⟩, rfl⟩
  · rintro d r ρ m' ⟨hr, ⟨x1, rfl⟩, rfl⟩
    refine ⟨rfl, _, rfl, ?_⟩
    obtain ⟨k, hk, rfl⟩ := hr d (by simp)
    have ht : ts[k]? = some ts[k] := List.getElem?_eq_getElem hk
    have hg := gIx_tget m' (ds_get ht)
    have hs := sl2 ts[k] m'
    have he := eq_hold (hd _ (List.getElem_mem hk)) (hn _ (List.getElem_mem hk)) m'
    rw [hold_lit] at he
    generalize (ts[k]).d = td at *
    generalize T.ds ts = TS at *
    simp -dsimp -implicitDefEqProofs [hg, hs, he]
    exact fun d hd => hr d (by simp [hd])
  · rintro ρ m' ⟨hr, ⟨x1, rfl⟩, rfl⟩
    refine ⟨rfl, ?_⟩
    simp -dsimp -implicitDefEqProofs [leave_same]
  · obtain ⟨k, hk, rfl⟩ := rng_mem hd
    exact ⟨k + 1, by omega, by congr 1; omega⟩
end U63

set_option maxRecDepth 100000
namespace UR
open PySem PySem.Spec PyProof.Rows L2 FL U63

/-! ### texts as lists of signs -/
def tx (l : List Nat) : Str := ⟨l.toArray⟩
def ASC (l : List Nat) : Prop := ∀ c ∈ l, c < 128
instance (l : List Nat) : Decidable (ASC l) := inferInstanceAs (Decidable (∀ c ∈ l, c < 128))
theorem tx_len (l : List Nat) : (tx l).length = l.length := by simp [tx, Str.length]
theorem tx_list (l : List Nat) : (tx l).cps.toList = l := by simp [tx]
theorem tx_inj {a b : List Nat} : tx a = tx b ↔ a = b := ⟨fun h => by rw [← tx_list a, ← tx_list b, h], fun h => by rw [h]⟩
theorem tx_of (x : Str) : x = tx x.cps.toList := by cases x; simp [tx]
def cd (s : String) : List Nat := s.toList.map Char.toNat
theorem ofs_tx (s : String) : Str.ofString s = tx (cd s) := by
  rw [tx_of (Str.ofString s), PyProof.Rows.signs_ofString]; rfl
theorem tx_add (a b : List Nat) : tx a ++ tx b = tx (a ++ b) := by
  rw [tx_of (tx a ++ tx b)]
  congr 1
  have := TL.tl_append (tx a) (tx b)
  rw [show (tx a ++ tx b).cps.toList = TL.tl (tx a ++ tx b) from rfl, this]
  show (tx a).cps.toList ++ (tx b).cps.toList = _
  rw [tx_list, tx_list]
theorem strOk_tx {l : List Nat} (h : ASC l) : PyData.strOk (tx l) = true := by
  unfold PyData.strOk
  rw [Array.all_eq_true]
  intro i hi
  have : (tx l).cps[i] ∈ l := by
    have := Array.getElem_mem_toList hi
    rwa [tx_list] at this
  have := h _ this
  simp; omega
theorem g_add {a b : List Nat} (h : a.length + b.length ≤ 1000000) (m : Me) : gAdd (.str (tx a)) (.str (tx b)) m = .ok (.str (tx (a ++ b))) m := by
  have : (tx a).length + (tx b).length ≤ sizeLine := by rw [tx_len, tx_len]; have : sizeLine = 16777216 := rfl; omega
  unfold gAdd view; simp only; rw [if_pos this, tx_add]
theorem g_eq {a b : List Nat} (ha : ASC a) (hb : ASC b) (m : Me) : gEq (.str (tx a)) (.str (tx b)) m = .ok (.bl (decide (a = b))) m := by
  rw [gEq_str _ _ m (strOk_tx ha) (strOk_tx hb)]
  congr 2
  rw [Bool.eq_iff_iff, beq_iff_eq, decide_eq_true_eq, tx_inj]
theorem g_ne {a b : List Nat} (ha : ASC a) (hb : ASC b) (m : Me) : gNe (.str (tx a)) (.str (tx b)) m = .ok (.bl (!decide (a = b))) m := by
  rw [gNe_str _ _ m (strOk_tx ha) (strOk_tx hb)]
  congr 3
  rw [Bool.eq_iff_iff, beq_iff_eq, decide_eq_true_eq, tx_inj]
theorem sz {l : List Nat} (h : l.length ≤ 1000000) : (tx l).length ≤ sizeLine := by rw [tx_len]; have : sizeLine = 16777216 := rfl; omega
theorem g_ix {l : List Nat} (h : l.length ≤ 1000000) {i c : Nat} (hi : l[i]? = some c) (m : Me) : gIx (.str (tx l)) (.int (i : Int)) m = .ok (.str (tx [c])) m := by
  unfold gIx view
  simp only
  rw [if_pos (sz h), tx_list, atI_nat hi]
  rfl
theorem cut_tx (l : List Nat) (lo hi : Option Int) : cutS (tx l) lo hi = tx (FL.cutD l lo hi) := by
  unfold cutS FL.cutD
  rw [tx_len, tx_list]
  rfl
theorem g_sl {l : List Nat} (h : l.length ≤ 1000000) (i j : Nat) (m : Me) : gSl (.str (tx l)) (some (i : Int)) (some (j : Int)) m = .ok (.str (tx ((l.drop i).take (j - i)))) m := by
  unfold gSl view
  simp only
  rw [if_pos (sz h), cut_tx, cut_rng]
theorem g_sl1 {l : List Nat} (h : l.length ≤ 1000000) (i : Nat) (m : Me) : gSl (.str (tx l)) (some (i : Int)) (some ((i : Int) + 1)) m = .ok (.str (tx ((l.drop i).take 1))) m := by
  have := g_sl h i (i + 1) m
  rw [show i + 1 - i = 1 by omega] at this
  rwa [show ((i + 1 : Nat) : Int) = (i : Int) + 1 by omega] at this
theorem g_slp {l : List Nat} (h : l.length ≤ 1000000) (i k : Nat) (m : Me) : gSl (.str (tx l)) (some (i : Int)) (some ((i : Int) + (k : Int))) m = .ok (.str (tx ((l.drop i).take k))) m := by
  have := g_sl h i (i + k) m
  rw [show i + k - i = k by omega] at this
  rwa [show ((i + k : Nat) : Int) = (i : Int) + (k : Int) by omega] at this
theorem g_to {l : List Nat} (h : l.length ≤ 1000000) (k : Nat) (m : Me) : gSl (.str (tx l)) none (some (k : Int)) m = .ok (.str (tx (l.take k))) m := by
  unfold gSl view
  simp only
  rw [if_pos (sz h), cut_tx, cut_take]
theorem g_from {l : List Nat} (h : l.length ≤ 1000000) (k : Nat) (m : Me) : gSl (.str (tx l)) (some (k : Int)) none m = .ok (.str (tx (l.drop k))) m := by
  unfold gSl view
  simp only
  rw [if_pos (sz h), cut_tx, cut_drop]
theorem g_len {l : List Nat} (h : l.length ≤ 1000000) (m : Me) : gLen [.str (tx l)] m = .ok (.int (l.length : Nat)) m := by
  unfold gLen view; simp only; rw [if_pos (sz h), tx_len]
theorem oc_one (z : List Nat) (c : Nat) : (!(Builtin.Str.occurrences (tx z) (tx [c]) 0 (tx z).length 1).isEmpty) = decide (c ∈ z) := by
  have := PySem.StrLaws.found_one (tx z) c
  rw [tx_list] at this
  exact this
theorem g_inS (neg : Bool) (c : Nat) (z : List Nat) (m : Me) : gInS neg (.str (tx [c])) (.str (tx z)) m = .ok (.bl (if neg then !decide (c ∈ z) else decide (c ∈ z))) m := by
  unfold gInS
  simp only [oc_one]
theorem g_inT {neg : Bool} {a : List Nat} {ls : List (List Nat)} {s : D} (m : Me) (hs : seqV m s = some (ls.map fun l => D.str (tx l))) (ha : ASC a) (hl : ∀ l ∈ ls, ASC l) : gInN neg (.str (tx a)) s m = .ok (.bl (if neg then !decide (a ∈ ls) else decide (a ∈ ls))) m := by
  rw [gInN_nb m hs ⟨by simp [nb, strOk_tx ha], rfl⟩ (fun x h => by
    obtain ⟨l, hm, rfl⟩ := List.mem_map.mp h
    exact ⟨by simp [nb, strOk_tx (hl l hm)], rfl⟩)]
  have e : ((ls.map fun l => D.str (tx l)).any fun x => FL.eqc x (.str (tx a))) = decide (a ∈ ls) := by
    rw [Bool.eq_iff_iff, List.any_eq_true, decide_eq_true_eq]
    constructor
    · rintro ⟨x, hx, h⟩
      obtain ⟨l, hm, rfl⟩ := List.mem_map.mp hx
      have := eqc_iff.mp h
      simp only [D.str.injEq] at this
      rwa [← tx_inj.mp this]
    · intro h; exact ⟨_, List.mem_map.mpr ⟨a, h, rfl⟩, eqc_self _⟩
  rw [e]
/-- sep.join -/
def jn : List (List Nat) → List Nat
  | [] => []
  | [p] => p
  | p :: q :: r => p ++ (32 :: jn (q :: r))
theorem strsD_tx (ls : List (List Nat)) : strsD (ls.map fun l => D.str (tx l)) = some (ls.map tx) := by
  induction ls with
  | nil => rfl
  | cons a l ih => simp only [List.map_cons, strsD, ih]; rfl
theorem jn_eq : ∀ ls : List (List Nat), TL.joinL [32] ls = jn ls
  | [] => rfl
  | [p] => rfl
  | p :: q :: r => by
    have := jn_eq (q :: r)
    rw [TL.joinL, this, jn]
    rfl
theorem join_tx (ls : List (List Nat)) : Txt.join (tx [32]) (ls.map tx) = tx (jn ls) := by
  rw [TL.join_eq, tx_of (Str.join _ _)]
  congr 1
  have := TL.tl_join (tx [32]) (ls.map tx)
  rw [List.map_map] at this
  have e : (TL.tl ∘ tx) = id := by funext l; exact tx_list l
  rw [e, List.map_id] at this
  rw [← jn_eq]
  exact this
end UR

set_option maxRecDepth 100000
namespace K53
open PySem PySem.Spec PyProof.Rows L2 FL U63 UR
variable {cl : Nat → Addr}

def fsS (t : List Nat) (a : Nat) : List (Str × D) := [(("text" : Str), .str (tx t)), (("at" : Str), .int (a : Int))]
def SC (cl : Nat → Addr) (t : List Nat) (a : Nat) : Cell := .ins (cl 0) (fsS t a)
section
variable (t : List Nat) (a : Nat)
theorem l_text : (fsS t a).lookup ("text" : Str) = some (.str (tx t)) := by simp [fsS, List.lookup, ofs_eq]
theorem l_at : (fsS t a).lookup ("at" : Str) = some (.int (a : Int)) := by simp [fsS, List.lookup, ofs_eq]
theorem p_at1 : putA ("at" : Str) (.int ((a : Int) + 1)) (fsS t a) = fsS t (a + 1) := by simp [fsS, putA, ofs_eq]
theorem l_len : (fsS t a).length < 1000 := by simp [fsS]
theorem l_m (x : String) (h : x ∈ ["skip", "sign", "need", "sum_at", "digits", "single", "read_word"]) : (fsS t a).lookup (Str.ofString x) = none := by
  simp only [List.mem_cons, List.not_mem_nil, or_false] at h
  rcases h with rfl | rfl | rfl | rfl | rfl | rfl | rfl <;> simp [fsS, List.lookup, ofs_eq]
end
theorem fns0 (n : Nat) : G.fns cl (n + 1) 0 = runDefK 2 2 (G.b0 cl (G.fns cl n)) := rfl
theorem fns1 (n : Nat) : G.fns cl (n + 1) 1 = runDef 1 1 (G.b1 cl (G.fns cl n)) := rfl
theorem fns2 (n : Nat) : G.fns cl (n + 1) 2 = runDef 1 1 (G.b2 cl (G.fns cl n)) := rfl
theorem fns3 (n : Nat) : G.fns cl (n + 1) 3 = runDef 2 2 (G.b3 cl (G.fns cl n)) := rfl
theorem fns4 (n : Nat) : G.fns cl (n + 1) 4 = runDef 4 2 (G.b4 cl (G.fns cl n)) := rfl
theorem fns5 (n : Nat) : G.fns cl (n + 1) 5 = runDef 3 1 (G.b5 cl (G.fns cl n)) := rfl
theorem fns6 (n : Nat) : G.fns cl (n + 1) 6 = runDef 5 1 (G.b6 cl (G.fns cl n)) := rfl
theorem fns7 (n : Nat) : G.fns cl (n + 1) 7 = runDef 5 1 (G.b7 cl (G.fns cl n)) := rfl
theorem fns8 (n : Nat) : G.fns cl (n + 1) 8 = runDef 3 1 (G.b8 cl (G.fns cl n)) := rfl
theorem fns24 (n : Nat) : G.fns cl (n + 1) 24 = mkC (cl 0) (G.fns cl n 0) := rfl
theorem asc_drop {t : List Nat} (h : ASC t) (i k : Nat) : ASC ((t.drop i).take k) := fun c hc => h c (List.mem_of_mem_drop (List.mem_of_mem_take hc))
theorem eq_c {l : List Nat} (s : String) (hl : ASC l) (hs : ASC (cd s)) (m : Me) : gEq (.str (tx l)) (.str (Str.ofString s)) m = .ok (.bl (decide (l = cd s))) m := by rw [ofs_tx]; exact g_eq hl hs m
theorem ne_c {l : List Nat} (s : String) (hl : ASC l) (hs : ASC (cd s)) (m : Me) : gNe (.str (tx l)) (.str (Str.ofString s)) m = .ok (.bl (!decide (l = cd s))) m := by rw [ofs_tx]; exact g_ne hl hs m
theorem one_asc {c : Nat} (h : c < 128) : ASC [c] := fun x hx => by rw [List.mem_singleton.mp hx]; exact h
def DIG : List Nat := cd "0123456789"
def LTR : List Nat := cd "abcdefghijklmnopqrstuvwxyz"
def WCH : List Nat := LTR ++ DIG ++ cd "?!"
theorem ad1 (m : Me) : gAdd (.str (Str.ofString "abcdefghijklmnopqrstuvwxyz")) (.str (Str.ofString "0123456789")) m = .ok (.str (tx (LTR ++ DIG))) m := by
  rw [ofs_tx, ofs_tx]; exact g_add (by decide +kernel) m
theorem ad2 (m : Me) : gAdd (.str (tx (LTR ++ DIG))) (.str (Str.ofString "?!")) m = .ok (.str (tx WCH)) m := by
  rw [ofs_tx]; exact g_add (by decide +kernel) m
theorem inD (neg : Bool) (c : Nat) (m : Me) : gInS neg (.str (tx [c])) (.str (Str.ofString "0123456789")) m = .ok (.bl (if neg then !decide (c ∈ DIG) else decide (c ∈ DIG))) m := by rw [ofs_tx]; exact g_inS neg c _ m
theorem inL (neg : Bool) (c : Nat) (m : Me) : gInS neg (.str (tx [c])) (.str (Str.ofString "abcdefghijklmnopqrstuvwxyz")) m = .ok (.bl (if neg then !decide (c ∈ LTR) else decide (c ∈ LTR))) m := by rw [ofs_tx]; exact g_inS neg c _ m
def bl (s : Nat) : List Nat := List.replicate s 32
theorem bl_drop {s i : Nat} (h : i ≤ s) (r : List Nat) : (bl s ++ r).drop i = bl (s - i) ++ r := by
  unfold bl
  rw [List.drop_append_of_le_length (by simpa using h), List.drop_replicate]
section
variable {t : List Nat} {a j : Nat} {m : Me}
theorem set_get (hj : m[j]? = some (SC cl t a)) (c : Cell) : (m.set j c)[j]? = some c := List.getElem?_set_self (List.getElem?_eq_some_iff.mp hj).1
theorem set_same (hj : m[j]? = some (SC cl t a)) : m.set j (SC cl t a) = m := by
  obtain ⟨h1, h2⟩ := List.getElem?_eq_some_iff.mp hj
  rw [← h2, List.set_getElem_self]
theorem lv_set (d : D) (c : Cell) : leave m d (m.set j c) = .ok d (m.set j c) := leave_same (by simp)
def SI (cl : Nat → Addr) (t : List Nat) (a j s : Nat) (m : Me) (k : Nat) (ρ : En) (m' : Me) : Prop := ρ = [some (.ref j)] ∧ ∃ i, i + k = s ∧ m' = m.set j (SC cl t (a + i))
theorem skip_ok (n : Nat) (hj : m[j]? = some (SC cl t a)) (ht : ASC t) (hl : t.length ≤ 100000) (s : Nat) (hs : s ≤ 100) {r : List Nat} (hd : t.drop a = bl s ++ r) (hr : r.take 1 ≠ [32]) :
    G.fns cl (n + 1) 1 [.ref j] m = .ok .non (m.set j (SC cl t (a + s))) := by
  rw [fns1]
  refine has_eq (has_def' [some (.ref j)] ?_)
  unfold G.b1
  generalize hQ0 : (kD _ _ : Fl → Prop) = Q0
  simp -dsimp -implicitDefEqProofs []
  refine wh_has (SI cl t a j s m) ?_ 1000 s _ _ (by omega) ⟨rfl, 0, by omega, by rw [Nat.add_zero]; exact (set_same hj).symm⟩
  rintro k ρ m' ⟨rfl, i, hi, rfl⟩
  have g1 := l_text t (a + i)
  have g2 := l_at t (a + i)
  have g3 := p_at1 t (a + i)
  have g4 := l_len t (a + i)
  have g5 := set_get hj (SC cl t (a + i))
  have g6 : ∀ x y : Cell, (m.set j x).set j y = m.set j y := fun x y => by rw [List.set_set]
  have g7 := fun m => g_sl1 (l := t) (by omega) (a + i) m
  have hdi : t.drop (a + i) = bl (s - i) ++ r := by rw [← List.drop_drop, hd, bl_drop (by omega)]
  have g8 := fun m => eq_c (l := (t.drop (a + i)).take 1) " " (asc_drop ht (a + i) 1) (by decide +kernel) m
  rw [show cd " " = [32] by decide +kernel] at g8
  have lv := fun d => lv_set (m := m) (j := j) d (SC cl t (a + i))
  by_cases hk : i < s
  · have h3 : (t.drop (a + i)).take 1 = [32] := by
      rw [hdi]
      obtain ⟨q, hq⟩ : ∃ q, s - i = q + 1 := ⟨s - i - 1, by omega⟩
      rw [hq]; rfl
    rw [decide_eq_true h3] at g8
    have fin : ∃ j', j' < k ∧ SI cl t a j s m j' [some (.ref j)] (m.set j (SC cl t (a + i + 1))) := ⟨k - 1, by omega, rfl, i + 1, by omega, rfl⟩
    have g9 := g6 (SC cl t (a + i)) (SC cl t (a + i + 1))
    unfold SC at *
    generalize fsS t (a + i) = F1 at *
    generalize fsS t (a + i + 1) = F2 at *
    generalize m.set j (.ins (cl 0) F2) = M2 at *
    generalize m.set j (.ins (cl 0) F1) = M1 at *
    generalize (t.drop (a + i)).take 1 = tk at *
    generalize ((a + i : Nat) : Int) = ai at *
    simp -dsimp -implicitDefEqProofs [g1, g2, g3, g4, g5, g7, g8, g9]
    simpa using fin
  · have hk0 : i = s := by omega
    subst hk0
    have h3 : (t.drop (a + i)).take 1 ≠ [32] := by rw [hdi, Nat.sub_self]; exact hr
    rw [decide_eq_false h3] at g8
    unfold SC at *
    generalize fsS t (a + i) = F1 at *
    generalize m.set j (.ins (cl 0) F1) = M1 at *
    generalize (t.drop (a + i)).take 1 = tk at *
    generalize ((a + i : Nat) : Int) = ai at *
    simp -dsimp -implicitDefEqProofs [g1, g2, g5, g7, g8]
    subst Q0
    simp -dsimp -implicitDefEqProofs [lv]
theorem sign_ok (n : Nat) (hj : m[j]? = some (SC cl t a)) (ht : ASC t) (hl : t.length ≤ 100000) (s : Nat) (hs : s ≤ 100) {r : List Nat} (hd : t.drop a = bl s ++ r) (hr : r.take 1 ≠ [32]) :
    G.fns cl (n + 2) 2 [.ref j] m = .ok (.str (tx (r.take 1))) (m.set j (SC cl t (a + s))) := by
  rw [fns2]
  refine has_eq (has_def' [some (.ref j)] ?_)
  unfold G.b2
  have h1 := skip_ok (cl := cl) n hj ht hl s hs hd hr
  have g1 := l_text t (a + s)
  have g2 := l_at t (a + s)
  have g5 := set_get hj (SC cl t (a + s))
  have g7 := fun m => g_sl1 (l := t) (by omega) (a + s) m
  have hds : (t.drop (a + s)).take 1 = r.take 1 := by rw [← List.drop_drop, hd, bl_drop (Nat.le_refl _), Nat.sub_self]; rfl
  rw [hds] at g7
  have lk := l_m t a "skip" (by decide)
  have lv := lv_set (m := m) (j := j) (.str (tx (r.take 1))) (SC cl t (a + s))
  unfold SC at *
  generalize fsS t a = F1 at *
  generalize fsS t (a + s) = F2 at *
  generalize m.set j (.ins (cl 0) F2) = M2 at *
  generalize r.take 1 = tk at *
  generalize ((a + s : Nat) : Int) = ai at *
  simp -dsimp -implicitDefEqProofs [hj, lk, h1, g5, g1, g2, g7, lv]
theorem need_ok (n : Nat) (hj : m[j]? = some (SC cl t a)) (ht : ASC t) (hl : t.length ≤ 100000) (s : Nat) (hs : s ≤ 100) {c : Nat} {r : List Nat} (hd : t.drop a = bl s ++ c :: r) (hc : c ≠ 32) (x : String) (hx : cd x = [c]) :
    G.fns cl (n + 3) 3 [.ref j, .str (Str.ofString x)] m = .ok .non (m.set j (SC cl t (a + s + 1))) := by
  rw [fns3]
  refine has_eq (has_def' [some (.ref j), some (.str (Str.ofString x))] ?_)
  unfold G.b3
  have h1 := sign_ok (cl := cl) n hj ht hl s hs hd (by simpa using hc)
  have hcm : c < 128 := ht c (List.mem_of_mem_drop (i := a) (by rw [hd]; simp))
  have e1 := fun m => ne_c (l := [c]) x (one_asc hcm) (by rw [hx]; exact one_asc hcm) m
  rw [hx] at e1
  simp only [List.take_succ_cons, List.take_zero] at h1
  have g2 := l_at t (a + s)
  have g3 := p_at1 t (a + s)
  have g4 := l_len t (a + s)
  have g5 := set_get hj (SC cl t (a + s))
  have g6 : (m.set j (SC cl t (a + s))).set j (SC cl t (a + s + 1)) = m.set j (SC cl t (a + s + 1)) := by rw [List.set_set]
  have lk := l_m t a "sign" (by decide)
  have lv := lv_set (m := m) (j := j) .non (SC cl t (a + s + 1))
  generalize hMM : m.set j (SC cl t (a + s + 1)) = M3 at *
  unfold SC at *
  generalize fsS t a = F1 at *
  generalize fsS t (a + s) = F2 at *
  generalize fsS t (a + s + 1) = F3 at *
  generalize m.set j (.ins (cl 0) F2) = M2 at *
  generalize ((a + s : Nat) : Int) = ai at *
  simp -dsimp -implicitDefEqProofs [hj, lk, h1, e1, g5, g2, g3, g4, g6, lv]
end
end K53

set_option maxRecDepth 100000
namespace K53
open PySem PySem.Spec PyProof.Rows L2 FL U63 UR
variable {cl : Nat → Addr} {t : List Nat} {a j : Nat} {m : Me}

structure DgN (v : Int) (l : List Nat) : Prop where
  ne : l ≠ []
  dg : ∀ c ∈ l, c ∈ DIG
  few : l.length ≤ 600
  z : ¬ (l.take 1 = [48] ∧ l.length > 1)
  v : PySem.intText? (tx l) = some v
structure LW (l : List Nat) : Prop where
  hd : ∃ c r, l = c :: r ∧ c ∈ LTR
  al : ∀ c ∈ l, c ∈ WCH
  few : l.length ≤ 600
theorem cons_of {l : List Nat} (h : l ≠ []) : ∃ c r, l = c :: r := by
  cases l with
  | nil => exact absurd rfl h
  | cons c r => exact ⟨c, r, rfl⟩
theorem dig_asc : ASC DIG := by decide +kernel
theorem wch_asc : ASC WCH := by decide +kernel
theorem wch_no : ∀ c ∈ WCH, c ≠ 32 ∧ c ≠ 40 ∧ c ≠ 41 ∧ c ≠ 44 ∧ c ≠ 60 ∧ c ≠ 61 ∧ c ≠ 43 ∧ c ≠ 45 ∧ c ≠ 42 := by decide +kernel
theorem dig_wch : ∀ c ∈ DIG, c ∈ WCH := by decide +kernel
theorem ltr_wch : ∀ c ∈ LTR, c ∈ WCH ∧ c ∉ DIG := by decide +kernel
def DI (cl : Nat → Addr) (t : List Nat) (a j L : Nat) (y1 y2 : Option D) (m : Me) (k : Nat) (ρ : En) (m' : Me) : Prop := ρ = [some (.ref j), y1, y2] ∧ ∃ i, i + k = L ∧ m' = m.set j (SC cl t (a + i))
section
variable (n : Nat) (hj : m[j]? = some (SC cl t a)) (ht : ASC t) (hl : t.length ≤ 100000) {l r : List Nat} (hd : t.drop a = l ++ r)
include hj ht hl hd
theorem run_at (i : Nat) (hi : i < l.length) : ∃ x, l[i]? = some x ∧ t[a + i]? = some x ∧ (t.drop (a + i)).take 1 = [x] := by
  refine ⟨l[i], List.getElem?_eq_getElem hi, ?_, ?_⟩
  · have : (t.drop a)[i]? = some l[i] := by rw [hd, List.getElem?_append_left hi]; exact List.getElem?_eq_getElem hi
    rwa [List.getElem?_drop] at this
  · have htx : t[a + i]? = some l[i] := by
      have : (t.drop a)[i]? = some l[i] := by rw [hd, List.getElem?_append_left hi]; exact List.getElem?_eq_getElem hi
      rwa [List.getElem?_drop] at this
    obtain ⟨h1, h2⟩ := List.getElem?_eq_some_iff.mp htx
    rw [List.drop_eq_getElem_cons h1, h2]; rfl
theorem run_end : t.drop (a + l.length) = r := by rw [← List.drop_drop, hd, List.drop_left' rfl]
theorem digits_ok {v : Int} (h : DgN v l) (hr : ∀ c ∈ r.take 1, c ∉ DIG) : G.fns cl (n + 1) 5 [.ref j] m = .ok (.int v) (m.set j (SC cl t (a + l.length))) := by
  rw [fns5]
  refine has_eq (has_def' [some (.ref j), none, none] ?_)
  unfold G.b5
  have g2 := l_at t a
  have hset : m.set j (SC cl t a) = m := set_same hj
  have hgs := fun c => set_get hj c
  have hss : ∀ x y : Cell, (m.set j x).set j y = m.set j y := fun x y => by rw [List.set_set]
  have hll := h.few
  have hal2 : a + l.length ≤ t.length := by
    have := congrArg List.length hd
    simp at this
    have := List.length_pos_iff.mpr h.ne
    omega
  have hrn := run_end (cl := cl) hj ht hl hd
  have hrun := run_at (cl := cl) hj ht hl hd
  have hj' := hj
  generalize hQ0 : (kD _ _ : Fl → Prop) = Q0
  unfold SC at hj
  generalize fsS t a = F0 at hj g2
  simp -dsimp -implicitDefEqProofs [hj, g2]
  refine wh_has (DI cl t a j l.length (some (.int (a : Int))) none m) ?_ 1000 l.length _ _ (by omega) ⟨rfl, 0, by omega, by rw [Nat.add_zero]; exact hset.symm⟩
  rintro k ρ m' ⟨rfl, i, hi, rfl⟩
  have k1 := l_text t (a + i)
  have k2 := l_at t (a + i)
  have k3 := p_at1 t (a + i)
  have k4 := l_len t (a + i)
  have k5 := hgs (SC cl t (a + i))
  have k6 := fun m => g_sl1 (l := t) (by omega) (a + i) m
  have k7 := fun m => ne_c (l := (t.drop (a + i)).take 1) "" (asc_drop ht (a + i) 1) (by decide +kernel) m
  rw [show cd "" = [] by decide +kernel] at k7
  by_cases hk : i < l.length
  · obtain ⟨x, hx, htx, ht1⟩ := hrun i hk
    have hxm : x ∈ l := List.mem_of_getElem? hx
    have k7 : ∀ m, gNe (.str (tx ((t.drop (a + i)).take 1))) (.str (Str.ofString "")) m = .ok (.bl true) m := fun m => by rw [k7, ht1]; simp
    rw [ht1] at k6 k7
    have k8 := fun m => g_ix (l := t) (by omega) htx m
    have k9 := fun m => inD false x m
    rw [decide_eq_true (h.dg x hxm)] at k9
    have fin : ∃ j', j' < k ∧ DI cl t a j l.length (some (.int (a : Int))) none m j' [some (.ref j), some (.int (a : Int)), none] (m.set j (SC cl t (a + i + 1))) := ⟨k - 1, by omega, rfl, i + 1, by omega, rfl⟩
    have k10 := hss (SC cl t (a + i)) (SC cl t (a + i + 1))
    unfold SC at k5 k10 fin
    simp only [SC]
    generalize fsS t (a + i) = F2 at *
    generalize fsS t (a + i + 1) = F3 at *
    generalize m.set j (.ins (cl 0) F2) = M3 at *
    generalize m.set j (.ins (cl 0) F3) = M4 at *
    generalize ((a + i : Nat) : Int) = aii at *
    simp -dsimp -implicitDefEqProofs [k5, k1, k2, k6, k7, k8, k9, k4, k3, k10]
    simpa using fin
  · have hil : i = l.length := by omega
    subst hil
    have ht1 : (t.drop (a + l.length)).take 1 = r.take 1 := by rw [hrn]
    have k11 := g_sl (l := t) (by omega) a (a + l.length) (m.set j (SC cl t (a + l.length)))
    have hle : (t.drop a).take (a + l.length - a) = l := by
      rw [show a + l.length - a = l.length by omega, hd, List.take_left']
      rfl
    rw [hle] at k11
    have stop : RHas (fun r => r = .ok false (m.set j (SC cl t (a + l.length)))) ((mAnd (mB (m2 gNe (mSl (mFld (cl 0) "text" (mVar 0)) (mOpt (mFld (cl 0) "at" (mVar 0))) (mOpt (m2 gAdd (mFld (cl 0) "at" (mVar 0)) (mC (.int 1))))) (mC (.str ("" : Str))))) (mB (m2 (gInS false) (m2 gIx (mFld (cl 0) "text" (mVar 0)) (mFld (cl 0) "at" (mVar 0))) (mC (.str ("0123456789" : Str)))))) [some (.ref j), some (.int (a : Int)), none] (m.set j (SC cl t (a + l.length)))) := by
      cases hrr : r with
      | nil =>
        have k7 : ∀ m, gNe (.str (tx ((t.drop (a + l.length)).take 1))) (.str (Str.ofString "")) m = .ok (.bl false) m := fun m => by rw [k7, ht1, hrr]; simp
        generalize (t.drop (a + l.length)).take 1 = T1 at *
        unfold SC at k5
        simp only [SC]
        generalize fsS t (a + l.length) = F2 at *
        generalize m.set j (.ins (cl 0) F2) = M3 at *
        generalize ((a + l.length : Nat) : Int) = aii at *
        simp -dsimp -implicitDefEqProofs [k5, k1, k2, k6, k7]
      | cons x r' =>
        have hxn := hr x (by rw [hrr]; simp)
        have k7 : ∀ m, gNe (.str (tx ((t.drop (a + l.length)).take 1))) (.str (Str.ofString "")) m = .ok (.bl true) m := fun m => by rw [k7, ht1, hrr]; simp
        have htx : t[a + l.length]? = some x := by
          have : (t.drop (a + l.length))[0]? = some x := by rw [hrn, hrr]; simp
          rwa [List.getElem?_drop, Nat.add_zero] at this
        have k8 := fun m => g_ix (l := t) (by omega) htx m
        have k9 := fun m => inD false x m
        rw [decide_eq_false hxn] at k9
        generalize (t.drop (a + l.length)).take 1 = T1 at *
        unfold SC at k5
        simp only [SC]
        generalize fsS t (a + l.length) = F2 at *
        generalize m.set j (.ins (cl 0) F2) = M3 at *
        generalize ((a + l.length : Nat) : Int) = aii at *
        simp -dsimp -implicitDefEqProofs [k5, k1, k2, k6, k7, k8, k9]
    refine is_has (has_is stop) ?_
    simp only [rhas_ok, kWh_ok, Bool.false_eq_true, if_false]
    obtain ⟨c, r0, hc⟩ := cons_of h.ne
    have hasc : ASC l := fun x hx => dig_asc x (h.dg x hx)
    have e0 := eq_c (l := l) "" hasc (by decide +kernel) (m.set j (SC cl t (a + l.length)))
    rw [show cd "" = [] by decide +kernel, decide_eq_false h.ne] at e0
    have gx : gIx (.str (tx l)) (.int 0) (m.set j (SC cl t (a + l.length))) = .ok (.str (tx [c])) (m.set j (SC cl t (a + l.length))) := g_ix (by omega) (i := 0) (c := c) (by rw [hc]; rfl) _
    have e1 := eq_c (l := [c]) "0" (one_asc (hasc c (by rw [hc]; simp))) (by decide +kernel) (m.set j (SC cl t (a + l.length)))
    rw [show cd "0" = [48] by decide +kernel] at e1
    have nl := g_len (l := l) (by omega) (m.set j (SC cl t (a + l.length)))
    have hit : gIntS [.str (tx l)] (m.set j (SC cl t (a + l.length))) = .ok (.int v) (m.set j (SC cl t (a + l.length))) := by
      unfold gIntS
      simp only [h.v]
      rw [if_pos (by rw [tx_len]; omega)]
    have lv := lv_set (m := m) (j := j) (.int v) (SC cl t (a + l.length))
    have hz := h.z
    have hz' : ¬ ([c] = [48] ∧ 1 < l.length) := by
      rintro ⟨q1, q2⟩
      exact hz ⟨by rw [hc]; simpa using q1, q2⟩
    unfold SC at *
    generalize fsS t (a + l.length) = F2 at *
    generalize m.set j (.ins (cl 0) F2) = M3 at *
    generalize ((a + l.length : Nat) : Int) = aii at *
    by_cases q1 : [c] = [48]
    · have q2 : ¬ 1 < l.length := fun q => hz' ⟨q1, q⟩
      have q2' : ¬ ((1 : Int) < (l.length : Int)) := by omega
      rw [decide_eq_true q1] at e1
      simp -dsimp -implicitDefEqProofs [k5, k1, k2, k11, e0, gx, e1, nl, q2, q2', hit]
      subst Q0
      simp -dsimp -implicitDefEqProofs [lv]
    · rw [decide_eq_false q1] at e1
      simp -dsimp -implicitDefEqProofs [k5, k1, k2, k11, e0, gx, e1, hit]
      subst Q0
      simp -dsimp -implicitDefEqProofs [lv]
end
end K53

set_option maxRecDepth 100000
namespace K53
open PySem PySem.Spec PyProof.Rows L2 FL U63 UR
variable {cl : Nat → Addr} {t : List Nat} {a j : Nat} {m : Me}

noncomputable def call7 (cl : Nat → Addr) (f : Nat → List D → Me → Res D) : MS :=
  (sSeq (sFldAug (cl 0) "at" (fun i j => i + j) (mVar 0) (mC (.int 1))) (sSeq (sSet 4 (mNew mNil)) (sSeq (whF (mB (m2 gNe (mMeth (cl 0) "sign" (f 2) (mVar 0) mNil) (mC (.str (")" : Str))))) (sSeq (sIf (mB (m2 gNe (mVar 4) (mLst mNil))) (sSeq (sDo (mMeth (cl 0) "need" (f 3) (mVar 0) (mCons (mC (.str ("," : Str))) mNil))) sNext) sNext) (sSeq (sDo (mAppend (mVar 4) (mMeth (cl 0) "sum_at" (f 4) (mVar 0) (mCons (mC (.int 0)) mNil)))) sNext)) 1000) (sSeq (sFldAug (cl 0) "at" (fun i j => i + j) (mVar 0) (mC (.int 1))) (sSeq (sRet (mTup (mCons (mC (.str ("list" : Str))) (mCons (m2 gAdd (mTup (mCons (mVar 3) mNil)) (mArgs gTuple (mCons (mVar 4) mNil))) mNil)))) sNext)))))
noncomputable def rest7 (cl : Nat → Addr) (f : Nat → List D → Me → Res D) : MS :=
  (sSeq (sSet 3 (mTup (mCons (mC (.str ("word" : Str))) (mCons (mSl (mFld (cl 0) "text" (mVar 0)) (mOpt (mVar 1)) (mOpt (mFld (cl 0) "at" (mVar 0)))) mNil)))) (sSeq (sIf (mB (m2 gNe (mMeth (cl 0) "sign" (f 2) (mVar 0) mNil) (mC (.str ("(" : Str))))) (sSeq (sRet (mVar 3)) sNext) sNext) (call7 cl f)))
theorem b7_eq (f : Nat → List D → Me → Res D) : G.b7 cl f = (sSeq (sSet 1 (mFld (cl 0) "at" (mVar 0))) (sSeq (sSet 2 (mSl (mFld (cl 0) "text" (mVar 0)) (mOpt (mFld (cl 0) "at" (mVar 0))) (mOpt (m2 gAdd (mFld (cl 0) "at" (mVar 0)) (mC (.int 1)))))) (sSeq (sIf (mOr (mB (m2 gEq (mVar 2) (mC (.str ("" : Str))))) (mB (m2 (gInS true) (mVar 2) (mC (.str ("abcdefghijklmnopqrstuvwxyz" : Str)))))) (sSeq sNever sNext) sNext) (sSeq (whF (mAnd (mB (m2 gNe (mSl (mFld (cl 0) "text" (mVar 0)) (mOpt (mFld (cl 0) "at" (mVar 0))) (mOpt (m2 gAdd (mFld (cl 0) "at" (mVar 0)) (mC (.int 1))))) (mC (.str ("" : Str))))) (mB (m2 (gInS false) (m2 gIx (mFld (cl 0) "text" (mVar 0)) (mFld (cl 0) "at" (mVar 0))) (m2 gAdd (m2 gAdd (mC (.str ("abcdefghijklmnopqrstuvwxyz" : Str))) (mC (.str ("0123456789" : Str)))) (mC (.str ("?!" : Str))))))) (sSeq (sFldAug (cl 0) "at" (fun i j => i + j) (mVar 0) (mC (.int 1))) sNext) 1000) (rest7 cl f))))) := rfl
def WI (cl : Nat → Addr) (t : List Nat) (a j L : Nat) (y2 : Option D) (m : Me) (k : Nat) (ρ : En) (m' : Me) : Prop := ρ = [some (.ref j), some (.int (a : Int)), y2, none, none] ∧ ∃ i, i + k = L ∧ m' = m.set j (SC cl t (a + i))
section
variable (f : Nat → List D → Me → Res D) (hj : m[j]? = some (SC cl t a)) (ht : ASC t) (hl : t.length ≤ 100000) {l r : List Nat} (hd : t.drop a = l ++ r)
include hj ht hl hd
theorem word_run (h : LW l) (hr : ∀ c ∈ r.take 1, c ∉ WCH) (Q0 : Fl → Prop) (hQ : ∀ c, FHas Q0 (rest7 cl f [some (.ref j), some (.int (a : Int)), some (.str (tx [c])), none, none] (m.set j (SC cl t (a + l.length))))) :
    FHas Q0 (G.b7 cl f [some (.ref j), none, none, none, none] m) := by
  rw [b7_eq]
  have g1 := l_text t a
  have g2 := l_at t a
  have s1 := g_sl1 (l := t) (by omega) a m
  have hset : m.set j (SC cl t a) = m := set_same hj
  have hgs := fun c => set_get hj c
  have hss : ∀ x y : Cell, (m.set j x).set j y = m.set j y := fun x y => by rw [List.set_set]
  have hll := h.few
  obtain ⟨c, r0, hc, hcl⟩ := h.hd
  have hrn := run_end (cl := cl) hj ht hl hd
  have hrun := run_at (cl := cl) hj ht hl hd
  have hc1 : (t.drop a).take 1 = [c] := by rw [hd, hc]; rfl
  have hasc : ASC l := fun x hx => wch_asc x (h.al x hx)
  have e0 := eq_c (l := [c]) "" (one_asc (hasc c (by rw [hc]; simp))) (by decide +kernel) m
  rw [show cd "" = [] by decide +kernel, decide_eq_false (by simp)] at e0
  have eL := inL true c m
  rw [decide_eq_true hcl] at eL
  rw [hc1] at s1
  have hQ := hQ c
  have hj' := hj
  unfold SC at hj
  generalize fsS t a = F0 at hj g1 g2
  simp -dsimp -implicitDefEqProofs [hj, g1, g2, s1, e0, eL]
  refine wh_has (WI cl t a j l.length (some (.str (tx [c]))) m) ?_ 1000 l.length _ _ (by omega) ⟨rfl, 0, by omega, by rw [Nat.add_zero]; exact hset.symm⟩
  rintro k ρ m' ⟨rfl, i, hi, rfl⟩
  have k1 := l_text t (a + i)
  have k2 := l_at t (a + i)
  have k3 := p_at1 t (a + i)
  have k4 := l_len t (a + i)
  have k5 := hgs (SC cl t (a + i))
  have k6 := fun m => g_sl1 (l := t) (by omega) (a + i) m
  have k7 := fun m => ne_c (l := (t.drop (a + i)).take 1) "" (asc_drop ht (a + i) 1) (by decide +kernel) m
  rw [show cd "" = [] by decide +kernel] at k7
  by_cases hk : i < l.length
  · obtain ⟨x, hx, htx, ht1⟩ := hrun i hk
    have hxm : x ∈ l := List.mem_of_getElem? hx
    have k7 : ∀ m, gNe (.str (tx ((t.drop (a + i)).take 1))) (.str (Str.ofString "")) m = .ok (.bl true) m := fun m => by rw [k7, ht1]; simp
    have k8 := fun m => g_ix (l := t) (by omega) htx m
    have k9 := fun m => g_inS false x WCH m
    rw [decide_eq_true (h.al x hxm)] at k9
    have fin : ∃ j', j' < k ∧ WI cl t a j l.length (some (.str (tx [c]))) m j' [some (.ref j), some (.int (a : Int)), some (.str (tx [c])), none, none] (m.set j (SC cl t (a + i + 1))) := ⟨k - 1, by omega, rfl, i + 1, by omega, rfl⟩
    have k10 := hss (SC cl t (a + i)) (SC cl t (a + i + 1))
    unfold SC at k5 k10 fin
    simp only [SC]
    generalize (t.drop (a + i)).take 1 = T1 at *
    generalize fsS t (a + i) = F2 at *
    generalize fsS t (a + i + 1) = F3 at *
    generalize m.set j (.ins (cl 0) F2) = M3 at *
    generalize m.set j (.ins (cl 0) F3) = M4 at *
    generalize ((a + i : Nat) : Int) = aii at *
    simp -dsimp -implicitDefEqProofs [k5, k1, k2, k6, k7, k8, ad1, ad2, k9, k4, k3, k10]
    simpa using fin
  · have hil : i = l.length := by omega
    subst hil
    have ht1 : (t.drop (a + l.length)).take 1 = r.take 1 := by rw [hrn]
    cases hrr : r with
    | nil =>
      have k7 : ∀ m, gNe (.str (tx ((t.drop (a + l.length)).take 1))) (.str (Str.ofString "")) m = .ok (.bl false) m := fun m => by rw [k7, ht1, hrr]; simp
      generalize (t.drop (a + l.length)).take 1 = T1 at *
      unfold SC at k5 hQ
      simp only [SC]
      generalize fsS t (a + l.length) = F2 at *
      generalize m.set j (.ins (cl 0) F2) = M3 at *
      generalize ((a + l.length : Nat) : Int) = aii at *
      simp -dsimp -implicitDefEqProofs [k5, k1, k2, k6, k7]
      exact hQ
    | cons x r' =>
      have hxn := hr x (by rw [hrr]; simp)
      have k7 : ∀ m, gNe (.str (tx ((t.drop (a + l.length)).take 1))) (.str (Str.ofString "")) m = .ok (.bl true) m := fun m => by rw [k7, ht1, hrr]; simp
      have htx : t[a + l.length]? = some x := by
        have : (t.drop (a + l.length))[0]? = some x := by rw [hrn, hrr]; simp
        rwa [List.getElem?_drop, Nat.add_zero] at this
      have k8 := fun m => g_ix (l := t) (by omega) htx m
      have k9 := fun m => g_inS false x WCH m
      rw [decide_eq_false hxn] at k9
      generalize (t.drop (a + l.length)).take 1 = T1 at *
      unfold SC at k5 hQ
      simp only [SC]
      generalize fsS t (a + l.length) = F2 at *
      generalize m.set j (.ins (cl 0) F2) = M3 at *
      generalize ((a + l.length : Nat) : Int) = aii at *
      simp -dsimp -implicitDefEqProofs [k5, k1, k2, k6, k7, k8, ad1, ad2, k9]
      exact hQ
end
section
variable (n : Nat) (hj : m[j]? = some (SC cl t a)) (ht : ASC t) (hl : t.length ≤ 100000)
include hj ht hl
/-- a word that is no call -/
theorem word_ok {s : String} {g : Nat} {r : List Nat} (h : LW (cd s)) (hg : g ≤ 100) (hd : t.drop a = cd s ++ (bl g ++ r)) (hr : r.take 1 ≠ [32] ∧ r.take 1 ≠ [40]) (hr2 : g = 0 → ∀ c ∈ r.take 1, c ∉ WCH) :
    G.fns cl (n + 3) 7 [.ref j] m = .ok (T.word s).d (m.set j (SC cl t (a + (cd s).length + g))) := by
  rw [fns7]
  refine has_eq (has_def' [some (.ref j), none, none, none, none] ?_)
  have hgs := set_get hj
  have hss : ∀ x y : Cell, (m.set j x).set j y = m.set j y := fun x y => by rw [List.set_set]
  refine word_run (cl := cl) _ hj ht hl hd h (fun c hc => ?_) _ fun c => ?_
  · by_cases q : g = 0
    · subst q; exact hr2 rfl c (by simpa [bl] using hc)
    · obtain ⟨q', hq⟩ : ∃ q', g = q' + 1 := ⟨g - 1, by omega⟩
      rw [hq] at hc
      have : c = 32 := by simpa [bl, List.replicate_succ] using hc
      intro hw
      exact (wch_no c hw).1 this
  · unfold rest7
    have hj2 := hgs (SC cl t (a + (cd s).length))
    have hd2 : t.drop (a + (cd s).length) = bl g ++ r := run_end (cl := cl) hj ht hl hd
    have sg := sign_ok (cl := cl) n hj2 ht hl g hg hd2 hr.1
    rw [hss] at sg
    have k1 := l_text t (a + (cd s).length)
    have k2 := l_at t (a + (cd s).length)
    have k11 := g_sl (l := t) (by omega) a (a + (cd s).length) (m.set j (SC cl t (a + (cd s).length)))
    have hle : (t.drop a).take (a + (cd s).length - a) = cd s := by
      rw [show a + (cd s).length - a = (cd s).length by omega, hd, List.take_left']
      rfl
    rw [hle] at k11
    have hra : ASC (r.take 1) := fun x hx => by
      have : x ∈ t.drop a := by rw [hd]; simp; exact .inr (.inr (List.mem_of_mem_take hx))
      exact ht x (List.mem_of_mem_drop this)
    have e1 := fun m => ne_c (l := r.take 1) "(" hra (by decide +kernel) m
    rw [show cd "(" = [40] by decide +kernel, decide_eq_false hr.2] at e1
    have lk := l_m t (a + (cd s).length) "sign" (by decide)
    have lv := lv_set (m := m) (j := j) (T.word s).d (SC cl t (a + (cd s).length + g))
    have hwd : (T.word s).d = .tup [.str (Str.ofString "word"), .str (tx (cd s))] := by rw [← ofs_tx]; rfl
    rw [hwd] at lv ⊢
    generalize m.set j (SC cl t (a + (cd s).length + g)) = M5 at *
    unfold SC at *
    generalize r.take 1 = tk at *
    generalize fsS t (a + (cd s).length) = F2 at *
    generalize m.set j (.ins (cl 0) F2) = M3 at *
    generalize ((a + (cd s).length : Nat) : Int) = aii at *
    simp -dsimp -implicitDefEqProofs [hj2, k1, k2, k11, lk, sg, e1, lv]
end
end K53

set_option maxRecDepth 100000
namespace K53
open PySem PySem.Spec PyProof.Rows L2 FL U63 UR
variable {cl : Nat → Addr}

/-! ### sum_at, its loop -/
theorem wh_one {c : MT} {body : MS} {Q : Fl → Prop} {N : Nat} {ρ : En} {m : Me} (st : RHas (kWh body (fun ρ m => FHas Q (whF c body N ρ m)) Q ρ) (c ρ m)) : FHas Q (whF c body (N + 1) ρ m) := by
  unfold whF
  cases ec : c ρ m with
  | no => rw [ec] at st; exact st.elim
  | exc x m => rw [ec] at st; exact st.elim
  | ok b m1 =>
    rw [ec] at st
    simp only [rhas_ok, kWh_ok] at st
    simp only [bindS_ok]
    cases b with
    | false => rw [if_neg Bool.false_ne_true] at st ⊢; exact st
    | true =>
      rw [if_pos rfl] at st ⊢
      cases eb : body ρ m1 with
      | no => rw [eb] at st; exact st.elim
      | exc x ρ m => rw [eb] at st; exact st
      | nx ρ2 m2 => rw [eb] at st; exact st
      | ct ρ2 m2 => rw [eb] at st; exact st
      | bk ρ2 m2 => rw [eb] at st; exact st
      | rt d m => rw [eb] at st; exact st
def LVD : D := .tup [.tup [.str ("<" : Str), .str ("=" : Str)], .tup [.str ("+" : Str), .str ("-" : Str)], .tup [.str ("*" : Str)]]
noncomputable def cond4 (cl : Nat → Addr) (f : Nat → List D → Me → Res D) : MT :=
  (mAnd (mB (m2 gNe (mMeth (cl 0) "sign" (f 2) (mVar 0) mNil) (mC (.str ("" : Str))))) (mB (m2 (gInN false) (mMeth (cl 0) "sign" (f 2) (mVar 0) mNil) (m2 gIx (mC (.tup [.tup [.str ("<" : Str), .str ("=" : Str)], .tup [.str ("+" : Str), .str ("-" : Str)], .tup [.str ("*" : Str)]])) (mVar 1)))))
noncomputable def body4 (cl : Nat → Addr) (f : Nat → List D → Me → Res D) : MS :=
  (sSeq (sSet 3 (mMeth (cl 0) "sign" (f 2) (mVar 0) mNil)) (sSeq (sFldAug (cl 0) "at" (fun i j => i + j) (mVar 0) (mC (.int 1))) (sSeq (sSet 2 (mTup (mCons (mC (.str ("list" : Str))) (mCons (mTup (mCons (mTup (mCons (mC (.str ("word" : Str))) (mCons (mVar 3) mNil))) (mCons (mVar 2) (mCons (mMeth (cl 0) "sum_at" (f 4) (mVar 0) (mCons (m2 gAdd (mVar 1) (mC (.int 1))) mNil)) mNil)))) mNil)))) sNext)))
theorem b4_eq (f : Nat → List D → Me → Res D) : G.b4 cl f = (sSeq (sIf (mB (m2 gEq (mVar 1) (mArgs gLen (mCons (mC (.tup [.tup [.str ("<" : Str), .str ("=" : Str)], .tup [.str ("+" : Str), .str ("-" : Str)], .tup [.str ("*" : Str)]])) mNil)))) (sSeq (sRet (mMeth (cl 0) "single" (f 6) (mVar 0) mNil)) sNext) sNext) (sSeq (sSet 2 (mMeth (cl 0) "sum_at" (f 4) (mVar 0) (mCons (m2 gAdd (mVar 1) (mC (.int 1))) mNil))) (sSeq (whF (cond4 cl f) (body4 cl f) 1000) (sSeq (sRet (mVar 2)) sNext)))) := rfl
def LV : Nat → List Nat
  | 0 => [60, 61]
  | 1 => [43, 45]
  | 2 => [42]
  | _ => []
def OPW : List (Nat × String) := [(60, "<"), (61, "="), (43, "+"), (45, "-"), (42, "*")]
theorem opw_cd : ∀ p ∈ OPW, cd p.2 = [p.1] := by decide +kernel
/-- what may follow a sum of a level -/
def StopC (k : Nat) (r : List Nat) : Prop := ∀ c ∈ r.take 1, c = 41 ∨ c = 44 ∨ ∃ i, i < k ∧ c ∈ LV i
theorem lv_lt {i c : Nat} (h : c ∈ LV i) : i < 3 := by
  match i, h with
  | 0, _ => omega
  | 1, _ => omega
  | 2, _ => omega
theorem lv_facts' : ∀ i ∈ [0, 1, 2], ∀ c ∈ LV i, c < 128 ∧ c ∉ WCH ∧ c ≠ 32 ∧ c ≠ 40 ∧ c ≠ 41 ∧ c ≠ 44 ∧ ∀ j ∈ [0, 1, 2], j ≠ i → c ∉ LV j := by decide +kernel
theorem lv_facts (i : Nat) (hi : i < 3) (c : Nat) (hc : c ∈ LV i) : c < 128 ∧ c ∉ WCH ∧ c ≠ 32 ∧ c ≠ 40 ∧ c ≠ 41 ∧ c ≠ 44 ∧ ∀ j, j < 3 → j ≠ i → c ∉ LV j := by
  have hm : ∀ i, i < 3 → i ∈ [0, 1, 2] := fun i h => by
    match i, h with
    | 0, _ => simp
    | 1, _ => simp
    | 2, _ => simp
  obtain ⟨q1, q2, q3, q4, q5, q6, q7⟩ := lv_facts' i (hm i hi) c hc
  exact ⟨q1, q2, q3, q4, q5, q6, fun j hj => q7 j (hm j hj)⟩
theorem StopC.up {k k' : Nat} {r : List Nat} (h : StopC k r) (hk : k ≤ k') : StopC k' r := fun c hc => by
  rcases h c hc with h | h | ⟨i, h1, h2⟩
  · exact .inl h
  · exact .inr (.inl h)
  · exact .inr (.inr ⟨i, by omega, h2⟩)
theorem StopC.no {k : Nat} {r : List Nat} (h : StopC k r) : ∀ c ∈ r.take 1, c < 128 ∧ c ∉ WCH ∧ c ≠ 32 ∧ c ≠ 40 ∧ ∀ j, k ≤ j → c ∉ LV j := fun c hc => by
  rcases h c hc with rfl | rfl | ⟨i, h1, h2⟩
  · exact ⟨by decide, by decide +kernel, by decide, by decide, fun j _ hj => absurd rfl (lv_facts j (lv_lt hj) 41 hj).2.2.2.2.1⟩
  · exact ⟨by decide, by decide +kernel, by decide, by decide, fun j _ hj => absurd rfl (lv_facts j (lv_lt hj) 44 hj).2.2.2.2.2.1⟩
  · obtain ⟨q1, q2, q3, q4, _, _, q7⟩ := lv_facts i (lv_lt h2) c h2
    exact ⟨q1, q2, q3, q4, fun j hj hm => q7 j (lv_lt hm) (by omega) hm⟩
theorem stop_take {k : Nat} {r : List Nat} (h : StopC k r) : r.take 1 ≠ [32] ∧ r.take 1 ≠ [40] := by
  refine ⟨fun e => ?_, fun e => ?_⟩
  · exact (h.no 32 (by rw [e]; simp)).2.2.1 rfl
  · exact (h.no 40 (by rw [e]; simp)).2.2.2.1 rfl
theorem lev_in {k : Nat} (hk : k < 3) (m : Me) : ∃ L, gIx LVD (.int (k : Int)) m = .ok L m ∧ ∀ l, ASC l → gInN false (.str (tx l)) L m = .ok (.bl (decide (l ∈ (LV k).map fun c => [c]))) m := by
  match k, hk with
  | 0, _ => exact ⟨.tup [.str (Str.ofString "<"), .str (Str.ofString "=")], rfl, fun l hl => by
      have := g_inT (neg := false) (a := l) (ls := [[60], [61]]) (s := .tup [.str (Str.ofString "<"), .str (Str.ofString "=")]) m (by simp only [ofs_tx]; rfl) hl (by decide)
      simpa [LV] using this⟩
  | 1, _ => exact ⟨.tup [.str (Str.ofString "+"), .str (Str.ofString "-")], rfl, fun l hl => by
      have := g_inT (neg := false) (a := l) (ls := [[43], [45]]) (s := .tup [.str (Str.ofString "+"), .str (Str.ofString "-")]) m (by simp only [ofs_tx]; rfl) hl (by decide)
      simpa [LV] using this⟩
  | 2, _ => exact ⟨.tup [.str (Str.ofString "*")], rfl, fun l hl => by
      have := g_inT (neg := false) (a := l) (ls := [[42]]) (s := .tup [.str (Str.ofString "*")]) m (by simp only [ofs_tx]; rfl) hl (by decide)
      simpa [LV] using this⟩
section
variable {t : List Nat} {a j : Nat} {m : Me} (n : Nat) (hj : m[j]? = some (SC cl t a)) (ht : ASC t) (hl : t.length ≤ 100000)
include hj ht hl
/-- once more -/
theorem step_in {k : Nat} (hk : k < 3) {g c : Nat} {w : String} {X : List Nat} (hg : g ≤ 100) (hc : c ∈ LV k) (hw : cd w = [c]) (hd : t.drop a = bl g ++ c :: X) {d1 d2 : D} {x3 : Option D} {p' : Nat}
    (h2 : G.fns cl (n + 3) 4 [.ref j, .int ((k : Int) + 1)] (m.set j (SC cl t (a + g + 1))) = .ok d2 (m.set j (SC cl t p'))) (Q : Fl → Prop) (F : Nat)
    (hQ : FHas Q (whF (cond4 cl (G.fns cl (n + 3))) (body4 cl (G.fns cl (n + 3))) F [some (.ref j), some (.int (k : Int)), some (.tup [.str (Str.ofString "list"), .tup [.tup [.str (Str.ofString "word"), .str (Str.ofString w)], d1, d2]]), some (.str (Str.ofString w))] (m.set j (SC cl t p')))) :
    FHas Q (whF (cond4 cl (G.fns cl (n + 3))) (body4 cl (G.fns cl (n + 3))) (F + 1) [some (.ref j), some (.int (k : Int)), some d1, x3] m) := by
  obtain ⟨q1, q2, q3, _⟩ := lv_facts k hk c hc
  have sg1 := sign_ok (cl := cl) (n + 1) hj ht hl g hg hd (by simpa using q3)
  have hj1 := set_get hj (SC cl t (a + g))
  have hd1 : t.drop (a + g) = bl 0 ++ c :: X := by rw [← List.drop_drop, hd, bl_drop (Nat.le_refl _), Nat.sub_self]
  have sg2 : G.fns cl (n + 1 + 2) 2 [.ref j] (m.set j (SC cl t (a + g))) = .ok (.str (tx ((c :: X).take 1))) ((m.set j (SC cl t (a + g))).set j (SC cl t (a + g + 0))) := sign_ok (cl := cl) (n + 1) hj1 ht hl 0 (by omega) hd1 (by simpa using q3)
  rw [List.set_set, Nat.add_zero] at sg2
  simp only [List.take_succ_cons, List.take_zero] at sg1 sg2
  have e1 := fun m => ne_c (l := [c]) "" (one_asc q1) (by decide +kernel) m
  rw [show cd "" = [] by decide +kernel] at e1
  have e1 : ∀ m, gNe (.str (tx [c])) (.str (Str.ofString "")) m = .ok (.bl true) m := fun m => by rw [e1]; simp
  obtain ⟨L, hL, hin⟩ := lev_in hk (m.set j (SC cl t (a + g)))
  have hin := hin [c] (one_asc q1)
  rw [decide_eq_true (List.mem_map.mpr ⟨c, hc, rfl⟩)] at hin
  have g2 := l_at t (a + g)
  have g3 := p_at1 t (a + g)
  have g4 := l_len t (a + g)
  have j2 := set_get hj (SC cl t (a + g + 1))
  have hss : (m.set j (SC cl t (a + g))).set j (SC cl t (a + g + 1)) = m.set j (SC cl t (a + g + 1)) := by rw [List.set_set]
  have lk1 := l_m t a "sign" (by decide)
  have lk2 := l_m t (a + g) "sign" (by decide)
  have lk3 := l_m t (a + g + 1) "sum_at" (by decide)
  have hww : Str.ofString w = tx [c] := by rw [ofs_tx, hw]
  rw [hww] at hQ
  have hLd : LVD = .tup [.tup [.str ("<" : Str), .str ("=" : Str)], .tup [.str ("+" : Str), .str ("-" : Str)], .tup [.str ("*" : Str)]] := rfl
  refine wh_one ?_
  generalize hC : whF (cond4 cl (G.fns cl (n + 3))) (body4 cl (G.fns cl (n + 3))) F = WH at *
  rw [hLd] at hL
  unfold cond4 body4
  generalize m.set j (SC cl t p') = M9 at *
  unfold SC at *
  generalize fsS t a = F1 at *
  generalize fsS t (a + g) = F2 at *
  generalize fsS t (a + g + 1) = F3 at *
  generalize hM2 : m.set j (.ins (cl 0) F2) = M2 at *
  generalize hM3 : m.set j (.ins (cl 0) F3) = M3 at *
  generalize ((a + g : Nat) : Int) = agi at *
  simp -dsimp -implicitDefEqProofs [hj, lk1, sg1, e1, hj1, lk2, sg2, hL, hin, g2, g3, g4, hss, j2, lk3, h2]
  exact hQ
/-- the end -/
theorem step_out {k : Nat} (hk : k < 3) {g : Nat} {r : List Nat} (hg : g ≤ 100) (hs : StopC k r) (hd : t.drop a = bl g ++ r) {d1 : D} {x3 : Option D} (Q : Fl → Prop) (F : Nat)
    (hQ : Q (.nx [some (.ref j), some (.int (k : Int)), some d1, x3] (m.set j (SC cl t (a + g))))) :
    FHas Q (whF (cond4 cl (G.fns cl (n + 3))) (body4 cl (G.fns cl (n + 3))) (F + 1) [some (.ref j), some (.int (k : Int)), some d1, x3] m) := by
  obtain ⟨n32, _⟩ := stop_take hs
  have sg1 := sign_ok (cl := cl) (n + 1) hj ht hl g hg hd n32
  have hj1 := set_get hj (SC cl t (a + g))
  have hd1 : t.drop (a + g) = bl 0 ++ r := by rw [← List.drop_drop, hd, bl_drop (Nat.le_refl _), Nat.sub_self]
  have sg2 : G.fns cl (n + 1 + 2) 2 [.ref j] (m.set j (SC cl t (a + g))) = .ok (.str (tx (r.take 1))) ((m.set j (SC cl t (a + g))).set j (SC cl t (a + g + 0))) := sign_ok (cl := cl) (n + 1) hj1 ht hl 0 (by omega) hd1 n32
  rw [List.set_set, Nat.add_zero] at sg2
  obtain ⟨L, hL, hin⟩ := lev_in hk (m.set j (SC cl t (a + g)))
  have hra : ASC (r.take 1) := fun c hc => (hs.no c hc).1
  have hin := hin (r.take 1) hra
  have hno : r.take 1 ∉ (LV k).map fun c => [c] := fun hm => by
    obtain ⟨c, h1, h2⟩ := List.mem_map.mp hm
    exact (hs.no c (by rw [← h2]; simp)).2.2.2.2 k (Nat.le_refl _) h1
  rw [decide_eq_false hno] at hin
  have e1 := fun m => ne_c (l := r.take 1) "" hra (by decide +kernel) m
  rw [show cd "" = [] by decide +kernel] at e1
  have lk1 := l_m t a "sign" (by decide)
  have lk2 := l_m t (a + g) "sign" (by decide)
  have hLd : LVD = .tup [.tup [.str ("<" : Str), .str ("=" : Str)], .tup [.str ("+" : Str), .str ("-" : Str)], .tup [.str ("*" : Str)]] := rfl
  refine wh_one ?_
  generalize hC : whF (cond4 cl (G.fns cl (n + 3))) (body4 cl (G.fns cl (n + 3))) F = WH at *
  rw [hLd] at hL
  unfold cond4 body4
  unfold SC at *
  generalize fsS t a = F1 at *
  generalize fsS t (a + g) = F2 at *
  generalize hM2 : m.set j (.ins (cl 0) F2) = M2 at *
  by_cases h0 : r.take 1 = []
  · rw [decide_eq_true h0] at e1
    generalize r.take 1 = tk at *
    simp -dsimp -implicitDefEqProofs [hj, lk1, sg1, e1]
    exact hQ
  · rw [decide_eq_false h0] at e1
    generalize r.take 1 = tk at *
    simp -dsimp -implicitDefEqProofs [hj, lk1, sg1, e1, hj1, lk2, sg2, hL, hin]
    exact hQ
end
end K53

set_option maxRecDepth 100000
namespace K53
open PySem PySem.Spec PyProof.Rows L2 FL U63 UR
variable {cl : Nat → Addr} {t : List Nat} {a j : Nat} {m : Me}

/-! ### single, its four ways; sum_at, its topmost level -/
section
variable (n : Nat) (hj : m[j]? = some (SC cl t a)) (ht : ASC t) (hl : t.length ≤ 100000)
include hj
theorem top_ok {d : D} {c : Cell} (h6 : G.fns cl n 6 [.ref j] m = .ok d (m.set j c)) : G.fns cl (n + 1) 4 [.ref j, .int 3] m = .ok d (m.set j c) := by
  rw [fns4]
  refine has_eq (has_def' [some (.ref j), some (.int 3), none, none] ?_)
  rw [b4_eq]
  have lv := lv_set (m := m) (j := j) d c
  have lk := l_m t a "single" (by decide)
  generalize m.set j c = M2 at *
  unfold SC at *
  generalize fsS t a = F1 at *
  simp -dsimp -implicitDefEqProofs [hj, lk, h6, lv]
include ht hl
theorem single_word {s c : Nat} {X : List Nat} {d : D} {c' : Cell} (hs : s ≤ 100) (hd : t.drop a = bl s ++ c :: X) (hc : c ∈ LTR) (h7 : G.fns cl (n + 2) 7 [.ref j] (m.set j (SC cl t (a + s))) = .ok d (m.set j c')) :
    G.fns cl (n + 3) 6 [.ref j] m = .ok d (m.set j c') := by
  rw [fns6]
  refine has_eq (has_def' [some (.ref j), none, none, none, none] ?_)
  unfold G.b6
  obtain ⟨w1, w2⟩ := ltr_wch c hc
  obtain ⟨w3, w4, w5, w6, w7, w8, w9, w10, w11⟩ := wch_no c w1
  have sg := sign_ok (cl := cl) n hj ht hl s hs hd (by simpa using w3)
  have hj1 := set_get hj (SC cl t (a + s))
  have a1 := one_asc (wch_asc c w1)
  have e1 := fun m => eq_c (l := [c]) "(" a1 (by decide +kernel) m
  rw [show cd "(" = [40] by decide +kernel, decide_eq_false (by simpa using w4)] at e1
  have e2 := fun m => eq_c (l := [c]) "-" a1 (by decide +kernel) m
  rw [show cd "-" = [45] by decide +kernel, decide_eq_false (by simpa using w10)] at e2
  have e3 := fun m => ne_c (l := [c]) "" a1 (by decide +kernel) m
  rw [show cd "" = [] by decide +kernel] at e3
  have e3 : ∀ m, gNe (.str (tx [c])) (.str (Str.ofString "")) m = .ok (.bl true) m := fun m => by rw [e3]; simp
  have e4 := fun m => inD false c m
  rw [decide_eq_false w2] at e4
  have lk1 := l_m t a "sign" (by decide)
  have lk2 := l_m t (a + s) "read_word" (by decide)
  have lv := lv_set (m := m) (j := j) d c'
  simp only [List.take_succ_cons, List.take_zero] at sg
  generalize m.set j c' = M5 at *
  unfold SC at *
  generalize fsS t a = F1 at *
  generalize fsS t (a + s) = F2 at *
  generalize m.set j (.ins (cl 0) F2) = M3 at *
  simp -dsimp -implicitDefEqProofs [hj, lk1, sg, e1, e2, e3, e4, hj1, lk2, h7, lv]
theorem single_num {s : Nat} {l r : List Nat} {v : Int} (hs : s ≤ 100) (h : DgN v l) (hd : t.drop a = bl s ++ (l ++ r)) (hr : ∀ c ∈ r.take 1, c ∉ DIG) :
    G.fns cl (n + 3) 6 [.ref j] m = .ok (T.num v).d (m.set j (SC cl t (a + s + l.length))) := by
  rw [fns6]
  refine has_eq (has_def' [some (.ref j), none, none, none, none] ?_)
  unfold G.b6
  obtain ⟨c, l', hcl⟩ := cons_of h.ne
  have hc : c ∈ DIG := h.dg c (by rw [hcl]; simp)
  obtain ⟨w3, w4, w5, w6, w7, w8, w9, w10, w11⟩ := wch_no c (dig_wch c hc)
  have sg := sign_ok (cl := cl) n hj ht hl s hs hd (by rw [hcl]; simpa using w3)
  have hj1 := set_get hj (SC cl t (a + s))
  have hd1 : t.drop (a + s) = l ++ r := by rw [← List.drop_drop, hd, bl_drop (Nat.le_refl _), Nat.sub_self]; rfl
  have dg := digits_ok (cl := cl) (n + 1) hj1 ht hl hd1 h hr
  rw [List.set_set] at dg
  have a1 := one_asc (dig_asc c hc)
  have e1 := fun m => eq_c (l := [c]) "(" a1 (by decide +kernel) m
  rw [show cd "(" = [40] by decide +kernel, decide_eq_false (by simpa using w4)] at e1
  have e2 := fun m => eq_c (l := [c]) "-" a1 (by decide +kernel) m
  rw [show cd "-" = [45] by decide +kernel, decide_eq_false (by simpa using w10)] at e2
  have e3 := fun m => ne_c (l := [c]) "" a1 (by decide +kernel) m
  rw [show cd "" = [] by decide +kernel] at e3
  have e3 : ∀ m, gNe (.str (tx [c])) (.str (Str.ofString "")) m = .ok (.bl true) m := fun m => by rw [e3]; simp
  have e4 := fun m => inD false c m
  rw [decide_eq_true hc] at e4
  have lk1 := l_m t a "sign" (by decide)
  have lk2 := l_m t (a + s) "digits" (by decide)
  have lv := lv_set (m := m) (j := j) (T.num v).d (SC cl t (a + s + l.length))
  have htk : (l ++ r).take 1 = [c] := by rw [hcl]; rfl
  rw [htk] at sg
  have hnd : (T.num v).d = .tup [.str (Str.ofString "num"), .int v] := rfl
  rw [hnd] at lv ⊢
  generalize m.set j (SC cl t (a + s + l.length)) = M5 at *
  unfold SC at *
  generalize fsS t a = F1 at *
  generalize fsS t (a + s) = F2 at *
  generalize m.set j (.ins (cl 0) F2) = M3 at *
  simp -dsimp -implicitDefEqProofs [hj, lk1, sg, e1, e2, e3, e4, hj1, lk2, dg, lv]
theorem single_neg {s : Nat} {l r : List Nat} {v : Int} (hs : s ≤ 100) (h : DgN v l) (hv : v ≠ 0) (hd : t.drop a = bl s ++ 45 :: (l ++ r)) (hr : ∀ c ∈ r.take 1, c ∉ DIG) :
    G.fns cl (n + 3) 6 [.ref j] m = .ok (T.num (-v)).d (m.set j (SC cl t (a + s + 1 + l.length))) := by
  rw [fns6]
  refine has_eq (has_def' [some (.ref j), none, none, none, none] ?_)
  unfold G.b6
  have sg := sign_ok (cl := cl) n hj ht hl s hs hd (by simp)
  have hj1 := set_get hj (SC cl t (a + s))
  have hj2 := set_get hj (SC cl t (a + s + 1))
  have hss : (m.set j (SC cl t (a + s))).set j (SC cl t (a + s + 1)) = m.set j (SC cl t (a + s + 1)) := by rw [List.set_set]
  have hd1 : t.drop (a + s + 1) = l ++ r := by rw [← List.drop_drop, ← List.drop_drop, hd, bl_drop (Nat.le_refl _), Nat.sub_self]; rfl
  have dg := digits_ok (cl := cl) (n + 1) hj2 ht hl hd1 h hr
  rw [List.set_set] at dg
  have a1 : ASC [45] := one_asc (by decide)
  have e1 := fun m => eq_c (l := [45]) "(" a1 (by decide +kernel) m
  rw [show cd "(" = [40] by decide +kernel, decide_eq_false (by simp)] at e1
  have e2 := fun m => eq_c (l := [45]) "-" a1 (by decide +kernel) m
  rw [show cd "-" = [45] by decide +kernel, decide_eq_true rfl] at e2
  have g2 := l_at t (a + s)
  have g3 := p_at1 t (a + s)
  have g4 := l_len t (a + s)
  have g5 := l_at t (a + s + 1)
  have lk1 := l_m t a "sign" (by decide)
  have lk2 := l_m t (a + s + 1) "digits" (by decide)
  have lv := lv_set (m := m) (j := j) (T.num (-v)).d (SC cl t (a + s + 1 + l.length))
  simp only [List.take_succ_cons, List.take_zero] at sg
  have hnd : (T.num (-v)).d = .tup [.str (Str.ofString "num"), .int (-v)] := rfl
  rw [hnd] at lv ⊢
  have hv0 : ∀ m : Me, gEq (.int v) (.int 0) m = .ok (.bl false) m := fun m => by simp [hv]
  generalize m.set j (SC cl t (a + s + 1 + l.length)) = M5 at *
  unfold SC at *
  generalize fsS t a = F1 at *
  generalize fsS t (a + s) = F2 at *
  generalize fsS t (a + s + 1) = F3 at *
  generalize m.set j (.ins (cl 0) F2) = M3 at *
  generalize m.set j (.ins (cl 0) F3) = M4 at *
  generalize ((a + s : Nat) : Int) = as at *
  simp -dsimp -implicitDefEqProofs [hj, lk1, sg, e1, e2, hj1, hj2, g2, g3, g4, g5, hss, lk2, dg, hv, lv]
theorem single_brk {s g p : Nat} {X r : List Nat} {d : D} (hs : s ≤ 100) (hg : g ≤ 100) (hd : t.drop a = bl s ++ 40 :: X) (hp : t.drop p = bl g ++ 41 :: r)
    (h4 : G.fns cl (n + 3) 4 [.ref j, .int 0] (m.set j (SC cl t (a + s + 1))) = .ok d (m.set j (SC cl t p))) :
    G.fns cl (n + 4) 6 [.ref j] m = .ok d (m.set j (SC cl t (p + g + 1))) := by
  rw [fns6]
  refine has_eq (has_def' [some (.ref j), none, none, none, none] ?_)
  unfold G.b6
  have sg := sign_ok (cl := cl) (n + 1) hj ht hl s hs hd (by simp)
  have hj1 := set_get hj (SC cl t (a + s))
  have hj2 := set_get hj (SC cl t (a + s + 1))
  have hj3 := set_get hj (SC cl t p)
  have hss : (m.set j (SC cl t (a + s))).set j (SC cl t (a + s + 1)) = m.set j (SC cl t (a + s + 1)) := by rw [List.set_set]
  have nd := need_ok (cl := cl) n hj3 ht hl g hg hp (by decide) ")" (by decide +kernel)
  rw [List.set_set] at nd
  have e1 := fun m => eq_c (l := [40]) "(" (one_asc (by decide)) (by decide +kernel) m
  rw [show cd "(" = [40] by decide +kernel, decide_eq_true rfl] at e1
  have g2 := l_at t (a + s)
  have g3 := p_at1 t (a + s)
  have g4 := l_len t (a + s)
  have lk1 := l_m t a "sign" (by decide)
  have lk2 := l_m t (a + s + 1) "sum_at" (by decide)
  have lk3 := l_m t p "need" (by decide)
  have lv := lv_set (m := m) (j := j) d (SC cl t (p + g + 1))
  simp only [List.take_succ_cons, List.take_zero] at sg
  generalize m.set j (SC cl t (p + g + 1)) = M5 at *
  unfold SC at *
  generalize fsS t a = F1 at *
  generalize fsS t (a + s) = F2 at *
  generalize fsS t (a + s + 1) = F3 at *
  generalize fsS t p = F4 at *
  generalize m.set j (.ins (cl 0) F2) = M3 at *
  generalize m.set j (.ins (cl 0) F3) = M4 at *
  generalize m.set j (.ins (cl 0) F4) = M6 at *
  generalize ((a + s : Nat) : Int) = as at *
  simp -dsimp -implicitDefEqProofs [hj, lk1, sg, e1, hj1, hj2, g2, g3, g4, hss, lk2, h4, hj3, lk3, nd, lv]
end
end K53

set_option maxRecDepth 100000
namespace K53
open PySem PySem.Spec PyProof.Rows L2 FL U63 UR
variable {cl : Nat → Addr}

/-! ### a call: a word and its list in brackets -/
def jg (g : Nat) : List (List Nat) → List Nat
  | [] => []
  | l :: ls => l ++ (if ls = [] then [] else 44 :: (bl g ++ jg g ls))
def aft (first : Bool) (g : Nat) (ls : List (List Nat)) (r : List Nat) : List Nat := (if ls = [] ∨ first = true then [] else 44 :: bl g) ++ (jg g ls ++ 41 :: r)
theorem sc_flat (t : List Nat) (a : Nat) : ∀ n, cloC n (SC cl t a) = true := fun n => by simp [SC, fsS, cloC, clo]
theorem lst_flat {xs : List D} (h : nbL xs = true) : ∀ n, cloC n (.lst xs) = true := fun n => by simp only [cloC]; exact cloL_nb _ _ h
theorem ds_snoc (us : List T) (t0 : T) : T.ds us ++ [t0.d] = T.ds (us ++ [t0]) := by rw [ds_map, ds_map, List.map_append]; rfl
theorem ds_len (us : List T) : (T.ds us).length = us.length := by rw [ds_map, List.length_map]
theorem dps_app (us rs : List T) : T.dps us ≤ T.dps (us ++ rs) := by
  induction us with
  | nil => simp [T.dps]
  | cons x l ih => simp only [List.cons_append, T.dps]; omega
def CLI (cl : Nat → Addr) (t : List Nat) (j g : Nat) (y1 y2 y3 : D) (m : Me) (ls : List (List Nat)) (ts : List T) (r : List Nat) (e : Nat) (k : Nat) (ρ : En) (m' : Me) : Prop := ∃ (us rs : List T) (a' : Nat), ts = us ++ rs ∧ k = rs.length ∧ ρ = [some (.ref j), some y1, some y2, some y3, some (.ref m.length)] ∧
  t.drop a' = aft us.isEmpty g (ls.drop us.length) r ∧ a' + (aft us.isEmpty g (ls.drop us.length) []).length = e ∧ m' = (m.set j (SC cl t a')) ++ [.lst (T.ds us)]
theorem call_ok (n : Nat) {t : List Nat} {a j : Nat} {m : Me} (hj : m[j]? = some (SC cl t a)) (hf : FlatM m) (ht : ASC t) (hl : t.length ≤ 100000) {s : String} {g : Nat} {ls : List (List Nat)} {ts : List T} {r : List Nat} (h : LW (cd s)) (hg : g ≤ 100) (hlen : ls.length = ts.length) (hts : ts.length ≤ 900) (hdp : T.dps ts ≤ 25)
    (hd : t.drop a = cd s ++ 40 :: (jg g ls ++ 41 :: r))
    (hh : ∀ l ∈ ls, ∃ c l', l = c :: l' ∧ c ≠ 32 ∧ c ≠ 41)
    (ih : ∀ (i : Nat) (l : List Nat) (t0 : T), ls[i]? = some l → ts[i]? = some t0 → ∀ (a s : Nat) (m : Me) (r : List Nat), s ≤ 100 → m[j]? = some (SC cl t a) → FlatM m → t.drop a = bl s ++ (l ++ r) → StopC 0 r → G.fns cl (n + 3) 4 [.ref j, .int 0] m = .ok t0.d (m.set j (SC cl t (a + s + l.length)))) :
    G.fns cl (n + 4) 7 [.ref j] m = .ok (T.list (.word s :: ts)).d (m.set j (SC cl t (a + (cd s ++ 40 :: (jg g ls ++ [41])).length))) := by
  have hlt := (List.getElem?_eq_some_iff.mp hj).1
  rw [fns7]
  refine has_eq (has_def' [some (.ref j), none, none, none, none] ?_)
  refine word_run (cl := cl) _ hj ht hl hd h (fun c hc => ?_) _ fun c0 => ?_
  · have : c = 40 := by simpa using hc
    subst this; decide +kernel
  unfold rest7 call7
  have hwd : (T.list (.word s :: ts)).d = .tup [.str (Str.ofString "list"), .tup (.tup [.str (Str.ofString "word"), .str (tx (cd s))] :: T.ds ts)] := by rw [← ofs_tx]; rfl
  rw [hwd]
  generalize hp : a + (cd s).length = p at *
  have hd2 : t.drop p = bl 0 ++ 40 :: (jg g ls ++ 41 :: r) := by rw [← hp]; exact run_end (cl := cl) hj ht hl hd
  have hj1 := set_get hj (SC cl t p)
  have hss : ∀ x y : Cell, (m.set j x).set j y = m.set j y := fun x y => by rw [List.set_set]
  have sg : G.fns cl (n + 1 + 2) 2 [.ref j] (m.set j (SC cl t p)) = .ok (.str (tx [40])) (m.set j (SC cl t p)) := by
    have := sign_ok (cl := cl) (n + 1) hj1 ht hl 0 (by omega) hd2 (by simp)
    rw [hss, Nat.add_zero] at this
    exact this
  have g1 := l_text t p
  have g2 := l_at t p
  have g3 := p_at1 t p
  have g4 := l_len t p
  have lk1 := l_m t p "sign" (by decide)
  have k11 := g_sl (l := t) (by omega) a p (m.set j (SC cl t p))
  have hle : (t.drop a).take (p - a) = cd s := by
    rw [show p - a = (cd s).length by omega, hd, List.take_left']
    rfl
  rw [hle] at k11
  have e1 := fun m => ne_c (l := [40]) "(" (one_asc (by decide)) (by decide +kernel) m
  rw [show cd "(" = [40] by decide +kernel, decide_eq_true rfl] at e1
  have hj2 : ∀ (x : Cell) (c : Cell), (m.set j x ++ [c])[j]? = some x := fun x c => by rw [List.getElem?_append_left (by simpa using hlt)]; exact List.getElem?_set_self hlt
  have hset2 : ∀ (x y c : Cell), (m.set j x ++ [c]).set j y = m.set j y ++ [c] := fun x y c => by rw [List.set_append_left _ _ (by simpa using hlt), List.set_set]
  have hlst : ∀ (x c : Cell), (m.set j x ++ [c])[m.length]? = some c := fun x c => by rw [List.getElem?_append_right (by simp)]; simp
  have hset3 : ∀ (x c c' : Cell), (m.set j x ++ [c]).set m.length c' = m.set j x ++ [c'] := fun x c c' => by rw [List.set_append_right _ _ (by simp)]; simp
  have hfl : ∀ (a : Nat) (us : List T), FlatM (m.set j (SC cl t a) ++ [.lst (T.ds us)]) := fun a us => (hf.set (sc_flat t a)).app (FlatM.one (lst_flat (ds_nb us)))
  have hML : (m.set j (SC cl t (p + 1))).length = m.length := by simp
  have hd3 : t.drop (p + 1) = aft true g ls r := by rw [← List.drop_drop, hd2]; simp [aft, bl]
  have hI : CLI cl t j g (.int (a : Int)) (.str (tx [c0])) (.tup [.str (Str.ofString "word"), .str (tx (cd s))]) m ls ts r (p + 1 + (aft true g ls []).length) ts.length [some (.ref j), some (.int (a : Int)), some (.str (tx [c0])), some (.tup [.str (Str.ofString "word"), .str (tx (cd s))]), some (.ref m.length)] (m.set j (SC cl t (p + 1)) ++ [.lst []]) := ⟨[], ts, p + 1, rfl, rfl, rfl, hd3, rfl, rfl⟩
  have h1s := hss (SC cl t p) (SC cl t (p + 1))
  generalize hQ0 : (kD _ _ : Fl → Prop) = Q0
  generalize hM2 : m.set j (SC cl t p) = M2 at *
  generalize hM3 : m.set j (SC cl t (p + 1)) = M3 at *
  unfold SC at hj1 h1s
  generalize hF2 : fsS t p = F2 at *
  generalize hF3 : fsS t (p + 1) = F3 at *
  generalize hpi : ((p : Nat) : Int) = pi at *
  generalize hM4 : M3 ++ [Cell.lst []] = M4 at *
  simp -dsimp -implicitDefEqProofs [hj1, g1, g2, g3, g4, k11, lk1, sg, e1, h1s, hML, hM4]
  refine wh_has (CLI cl t j g (.int (a : Int)) (.str (tx [c0])) (.tup [.str (Str.ofString "word"), .str (tx (cd s))]) m ls ts r (p + 1 + (aft true g ls []).length)) ?_ 1000 ts.length _ _ (by omega) hI
  clear hI hj1 h1s sg g1 g2 g3 g4 lk1 k11 hM4 hML
  rintro k ρ m' ⟨us, rs, a', h1, h2, rfl, h3, h4, rfl⟩
  have hul : us.length + rs.length = ts.length := by rw [h1]; simp
  have jj := hj2 (SC cl t a') (.lst (T.ds us))
  have lk2 := l_m t a' "sign" (by decide)
  cases rs with
  | nil =>
    have hdr : ls.drop us.length = [] := List.drop_of_length_le (by simp at hul; omega)
    rw [List.append_nil] at h1
    subst h1
    rw [hdr] at h3 h4
    have h3 : t.drop a' = bl 0 ++ 41 :: r := by rw [h3]; simp [aft, jg, bl]
    have h4 : a' + 1 = p + 1 + (aft true g ls []).length := by rw [← h4]; simp [aft, jg]
    have sg : G.fns cl (n + 1 + 2) 2 [.ref j] (m.set j (SC cl t a') ++ [.lst (T.ds ts)]) = .ok (.str (tx [41])) (m.set j (SC cl t a') ++ [.lst (T.ds ts)]) := by
      have := sign_ok (cl := cl) (n + 1) jj ht hl 0 (by omega) h3 (by simp)
      rw [hset2, Nat.add_zero] at this
      exact this
    have e2 := fun m => ne_c (l := [41]) ")" (one_asc (by decide)) (by decide +kernel) m
    rw [show cd ")" = [41] by decide +kernel, decide_eq_true rfl] at e2
    have hend : a' + 1 = a + (cd s ++ 40 :: (jg g ls ++ [41])).length := by
      rw [h4, ← hp]; simp [aft]; omega
    have q1 := p_at1 t a'
    have q2 := l_len t a'
    have q3 := l_at t a'
    have hss2 := hset2 (SC cl t a') (SC cl t (a' + 1)) (.lst (T.ds ts))
    have hlk := hlst (SC cl t (a' + 1)) (.lst (T.ds ts))
    have hgt := gTuple_ref hlk
    have hnw := d_nb (.list (.word s :: ts))
    rw [hwd] at hnw
    have lv := leave_pl (m := m) (d := .tup [.str (Str.ofString "list"), .tup (.tup [.str (Str.ofString "word"), .str (tx (cd s))] :: T.ds ts)]) (hfl (a' + 1) ts) (by simp) (pl_nb hnw)
    have htk : (m.set j (SC cl t (a' + 1)) ++ [Cell.lst (T.ds ts)]).take m.length = m.set j (SC cl t (a' + 1)) := List.take_left' (by simp)
    rw [htk] at lv
    have hdl : ¬ 16777216 < 1 + (T.ds ts).length := by rw [ds_len]; omega
    rw [← hend] at hQ0
    generalize T.ds ts = PL at *
    generalize hM9 : m.set j (SC cl t (a' + 1)) = M9 at *
    unfold SC at *
    generalize fsS t a' = F8 at *
    generalize fsS t (a' + 1) = F9 at *
    generalize hM8 : m.set j (.ins (cl 0) F8) ++ [Cell.lst PL] = M8 at *
    generalize hM10 : M9 ++ [Cell.lst PL] = M10 at *
    generalize ((a' : Nat) : Int) = ai at *
    simp -dsimp -implicitDefEqProofs [jj, lk2, sg, e2, q1, q2, q3, hss2, hgt, hdl]
    subst Q0
    simp -dsimp -implicitDefEqProofs [lv]
    exact fun h => absurd h hdl
  | cons t0 rs =>
    have hul2 : us.length < ts.length := by rw [h1]; simp
    obtain ⟨l, hli⟩ : ∃ l, ls[us.length]? = some l := ⟨ls[us.length]'(by omega), List.getElem?_eq_getElem (by omega)⟩
    have hti : ts[us.length]? = some t0 := by rw [h1]; simp
    obtain ⟨hu1, hu2⟩ := List.getElem?_eq_some_iff.mp hli
    have hdr : ls.drop us.length = l :: ls.drop (us.length + 1) := by rw [List.drop_eq_getElem_cons hu1, hu2]
    generalize hls' : ls.drop (us.length + 1) = ls' at *
    obtain ⟨c, l', hcl, c32, c41⟩ := hh l (List.mem_of_getElem? hli)
    have hjg : ∀ r, jg g (l :: ls') ++ 41 :: r = l ++ aft false g ls' r := fun r => by
      simp only [jg, aft, Bool.false_eq_true, or_false]
      by_cases q : ls' = []
      · simp [q, jg]
      · simp [q]
    have hstop : StopC 0 (aft false g ls' r) := fun c hc => by
      by_cases q : ls' = []
      · simp [aft, q, jg] at hc; exact .inl hc
      · simp [aft, q] at hc; exact .inr (.inl hc)
    have hsn0 : (us ++ [t0]).isEmpty = false := by cases us <;> rfl
    -- what the two ways end in
    have fin : ∀ a2, t.drop a2 = aft false g ls' r → a2 + (aft false g ls' []).length = p + 1 + (aft true g ls []).length → ∃ j', j' < k ∧ CLI cl t j g (.int (a : Int)) (.str (tx [c0])) (.tup [.str (Str.ofString "word"), .str (tx (cd s))]) m ls ts r (p + 1 + (aft true g ls []).length) j' [some (.ref j), some (.int (a : Int)), some (.str (tx [c0])), some (.tup [.str (Str.ofString "word"), .str (tx (cd s))]), some (.ref m.length)] (m.set j (SC cl t a2) ++ [.lst (T.ds (us ++ [t0]))]) := fun a2 e1 e2 =>
      ⟨rs.length, by rw [h2]; simp, us ++ [t0], rs, a2, by rw [h1]; simp, rfl, rfl, by rw [hsn0, List.length_append, List.length_singleton, hls']; exact e1, by rw [hsn0, List.length_append, List.length_singleton, hls']; exact e2, rfl⟩
    have hl1 := fun a2 => hlst (SC cl t a2) (.lst (T.ds us))
    have hs1 := fun a2 => hset3 (SC cl t a2) (.lst (T.ds us)) (.lst (T.ds us ++ [t0.d]))
    have hb : (T.ds us).length < 1000000 := by rw [ds_len]; omega
    have hne := fun a2 => gNe_ref (.lst []) (hl1 a2)
    by_cases hu : us = []
    · subst hu
      have h3 : t.drop a' = bl 0 ++ (l ++ aft false g ls' r) := by rw [h3, hdr, ← hjg]; simp [aft, bl]
      have h4 : a' + l.length + (aft false g ls' []).length = p + 1 + (aft true g ls []).length := by
        rw [← h4, hdr]
        have := hjg []
        simp only [aft, List.isEmpty_nil, or_true, if_true, List.nil_append] at this ⊢
        rw [this]; simp [aft]; omega
      have sg : G.fns cl (n + 1 + 2) 2 [.ref j] (m.set j (SC cl t a') ++ [.lst (T.ds [])]) = .ok (.str (tx [c])) (m.set j (SC cl t a') ++ [.lst (T.ds [])]) := by
        have := sign_ok (cl := cl) (n + 1) jj ht hl 0 (by omega) h3 (by rw [hcl]; simpa using c32)
        rw [hset2, Nat.add_zero, hcl] at this
        exact this
      have hc128 : c < 128 := ht c (List.mem_of_mem_drop (by rw [h3, hcl]; simp))
      have e2 := fun m => ne_c (l := [c]) ")" (one_asc hc128) (by decide +kernel) m
      rw [show cd ")" = [41] by decide +kernel, decide_eq_false (by simpa using c41)] at e2
      have h4s := ih 0 l t0 hli hti a' 0 _ _ (by omega) jj (hfl a' []) h3 hstop
      rw [hset2] at h4s
      simp only [Nat.add_zero] at h4s
      have lk3 := l_m t a' "sum_at" (by decide)
      have h3' : t.drop (a' + l.length) = aft false g ls' r := by rw [← List.drop_drop, h3]; simp [bl]
      have zfin := fin _ h3' h4
      have zhne := hne a'
      have hne0 : ∀ m : Me, gNe (.lst []) (.lst []) m = .ok (.bl false) m := fun m => by rw [gNe_nb m (by simp [nb, nbL]) (by simp [nb, nbL]) (by simp [dpD, dpL]) (by simp [dpD, dpL]), eqc_self]; rfl
      have zhl0 := hl1 a'
      have zhl1 := hl1 (a' + l.length)
      have zhs1 := hs1 (a' + l.length)
      rw [ds_snoc] at zhs1
      have hsn := ds_snoc [] t0
      generalize T.ds ([] ++ [t0]) = PL2 at *
      generalize t0.d = d0 at *
      have hnil : T.ds [] = [] := rfl
      clear hne hl1 hs1 fin
      rw [hnil] at jj sg h4s zhl0 zhl1 zhs1 hsn zhne hb ⊢
      generalize hM5 : m.set j (SC cl t (a' + l.length)) ++ [Cell.lst PL2] = M5 at *
      generalize hM6 : m.set j (SC cl t (a' + l.length)) ++ [Cell.lst []] = M6 at *
      unfold SC at *
      generalize fsS t a' = F8 at *
      generalize hM8 : m.set j (.ins (cl 0) F8) ++ [Cell.lst []] = M8 at *
      generalize hml : m.length = ml at *
      simp -dsimp -implicitDefEqProofs [jj, lk2, sg, e2, zhne, hne0, zhl0, lk3, h4s, zhl1, hb, zhs1, hsn]
      simpa using zfin
    · have hemp : us.isEmpty = false := by simpa using hu
      have hdl : t.drop a' = bl 0 ++ 44 :: (bl g ++ (l ++ aft false g ls' r)) := by rw [h3, hdr, hemp, ← hjg]; simp [aft, bl]
      have h4 : a' + 1 + g + l.length + (aft false g ls' []).length = p + 1 + (aft true g ls []).length := by
        rw [← h4, hdr, hemp]
        have := congrArg List.length (hjg [])
        simp only [List.length_append] at this
        simp [aft, bl] at this ⊢
        omega
      have sg : G.fns cl (n + 1 + 2) 2 [.ref j] (m.set j (SC cl t a') ++ [.lst (T.ds us)]) = .ok (.str (tx [44])) (m.set j (SC cl t a') ++ [.lst (T.ds us)]) := by
        have := sign_ok (cl := cl) (n + 1) jj ht hl 0 (by omega) hdl (by simp)
        rw [hset2, Nat.add_zero] at this
        exact this
      have nd := need_ok (cl := cl) n jj ht hl 0 (by omega) hdl (by decide) "," (by decide +kernel)
      rw [hset2, Nat.add_zero] at nd
      have e2 := fun m => ne_c (l := [44]) ")" (one_asc (by decide)) (by decide +kernel) m
      rw [show cd ")" = [41] by decide +kernel, decide_eq_false (by simp)] at e2
      have hne2 : ∀ m : Me, gNe (.lst (T.ds us)) (.lst []) m = .ok (.bl true) m := fun m => by
        have hq : D.lst (T.ds us) ≠ .lst [] := fun e => by
          have := congrArg List.length (D.lst.inj e)
          rw [ds_len] at this
          exact hu (List.length_eq_zero_iff.mp this)
        have hbd : dpL (T.ds us) ≤ 60 := by
          have := ds_dp us
          have h5 : T.dps us ≤ T.dps ts := by rw [h1]; exact dps_app us _
          omega
        rw [gNe_nb m (by simp [nb, ds_nb]) (by simp [nb, nbL]) (by simp [dpD]; omega) (by simp [dpD, dpL]), eqc_ne hq]; rfl
      have jj2 := hj2 (SC cl t (a' + 1)) (.lst (T.ds us))
      have hd5 : t.drop (a' + 1) = bl g ++ (l ++ aft false g ls' r) := by rw [← List.drop_drop, hdl]; simp [bl]
      have h4s := ih us.length l t0 hli hti (a' + 1) g _ _ hg jj2 (hfl (a' + 1) us) hd5 hstop
      rw [hset2] at h4s
      have lk3 := l_m t (a' + 1) "sum_at" (by decide)
      have lk4 := l_m t a' "need" (by decide)
      have h3' : t.drop (a' + 1 + g + l.length) = aft false g ls' r := by rw [← List.drop_drop, ← List.drop_drop, hd5, bl_drop (Nat.le_refl _), Nat.sub_self]; simp [bl]
      have zfin := fin _ h3' h4
      have zhne := hne a'
      rw [hne2] at zhne
      have zhl0 := hl1 (a' + 1)
      have zhl1 := hl1 (a' + 1 + g + l.length)
      have zhs1 := hs1 (a' + 1 + g + l.length)
      clear hne hl1 hs1 fin
      have hsn := ds_snoc us t0
      rw [hsn] at zhs1
      generalize T.ds (us ++ [t0]) = PL2 at *
      generalize t0.d = d0 at *
      generalize T.ds us = PL at *
      generalize a' + 1 + g + l.length = a5 at *
      generalize hM5 : m.set j (SC cl t a5) ++ [Cell.lst PL2] = M5 at *
      generalize hM6 : m.set j (SC cl t a5) ++ [Cell.lst PL] = M6 at *
      unfold SC at *
      generalize fsS t a' = F8 at *
      generalize fsS t (a' + 1) = F9 at *
      generalize hM8 : m.set j (.ins (cl 0) F8) ++ [Cell.lst PL] = M8 at *
      generalize hM9 : m.set j (.ins (cl 0) F9) ++ [Cell.lst PL] = M9 at *
      generalize hml : m.length = ml at *
      simp -dsimp -implicitDefEqProofs [jj, lk2, lk4, sg, nd, e2, zhne, zhl0, jj2, lk3, h4s, zhl1, hb, zhs1, hsn]
      simpa using zfin
end K53

set_option maxRecDepth 100000
namespace K53
open PySem PySem.Spec PyProof.Rows L2 FL U63 UR
variable {cl : Nat → Addr}

/-! ### the grammar of the texts (height, level), and the reading -/
inductive Sg : Nat → Nat → List Nat → T → Prop
  | word (h : Nat) (s : String) : LW (cd s) → Sg h 3 (cd s) (.word s)
  | num (h : Nat) (v : Int) (l : List Nat) : DgN v l → Sg h 3 l (.num v)
  | neg (h : Nat) (v : Int) (l : List Nat) : DgN v l → v ≠ 0 → Sg h 3 (45 :: l) (.num (-v))
  | brk (h : Nat) (l : List Nat) (t : T) : Sg h 0 l t → Sg (h + 1) 3 (40 :: (l ++ [41])) t
  | call (h : Nat) (s : String) (g : Nat) (ls : List (List Nat)) (ts : List T) : LW (cd s) → g ≤ 100 → ls.length = ts.length → (∀ (i : Nat) (l : List Nat) (t : T), ls[i]? = some l → ts[i]? = some t → Sg h 0 l t) → Sg (h + 1) 3 (cd s ++ 40 :: (jg g ls ++ [41])) (.list (.word s :: ts))
  | up (h k : Nat) (l : List Nat) (t : T) : k < 3 → Sg h (k + 1) l t → Sg h k l t
  | op (h k c : Nat) (w : String) (g1 g2 : Nat) (l1 l2 : List Nat) (t1 t2 : T) : k < 3 → c ∈ LV k → cd w = [c] → g1 ≤ 100 → g2 ≤ 100 → Sg h k l1 t1 → Sg h (k + 1) l2 t2 → Sg h k (l1 ++ (bl g1 ++ c :: (bl g2 ++ l2))) (.list [.word w, t1, t2])
theorem sg_head {h k : Nat} {l : List Nat} {t : T} (hs : Sg h k l t) : ∃ c l', l = c :: l' ∧ c ≠ 32 ∧ c ≠ 41 := by
  induction hs with
  | word h s hw =>
    obtain ⟨c, r, e, hc⟩ := hw.hd
    have := wch_no c (ltr_wch c hc).1
    exact ⟨c, r, e, this.1, this.2.2.1⟩
  | num h v l hv =>
    obtain ⟨c, r, e⟩ := cons_of hv.ne
    have := wch_no c (dig_wch c (hv.dg c (by rw [e]; simp)))
    exact ⟨c, r, e, this.1, this.2.2.1⟩
  | neg h v l hv h0 => exact ⟨45, l, rfl, by decide, by decide⟩
  | brk h l t _ _ => exact ⟨40, _, rfl, by decide, by decide⟩
  | call h s g ls ts hw _ _ _ _ =>
    obtain ⟨c, r, e, hc⟩ := hw.hd
    have := wch_no c (ltr_wch c hc).1
    exact ⟨c, _, by rw [e]; rfl, this.1, this.2.2.1⟩
  | up h k l t _ _ ih => exact ih
  | op h k c w g1 g2 l1 l2 t1 t2 _ _ _ _ _ _ _ ih _ =>
    obtain ⟨c, r, e, q⟩ := ih
    exact ⟨c, _, by rw [e]; rfl, q⟩
def RdO (cl : Nat → Addr) (h k : Nat) (l : List Nat) (t0 : T) : Prop := ∀ (N : Nat) (t : List Nat) (a s g j : Nat) (m : Me) (r : List Nat), s ≤ 100 → g ≤ 100 → m[j]? = some (SC cl t a) → FlatM m → ASC t → t.length ≤ 100000 → t.drop a = bl s ++ (l ++ (bl g ++ r)) → StopC k r → t0.n ≤ 900 → t0.dp ≤ 20 →
  ∃ e, e ≤ g ∧ G.fns cl (N + 6 * h + 6 + (3 - k)) 4 [.ref j, .int (k : Int)] m = .ok t0.d (m.set j (SC cl t (a + s + l.length + e)))
def SpO (cl : Nat → Addr) (h k : Nat) (l : List Nat) (t0 : T) : Prop := ∀ (N : Nat) (t : List Nat) (a s g j : Nat) (m : Me) (r : List Nat), s ≤ 100 → g ≤ 100 → m[j]? = some (SC cl t a) → FlatM m → ASC t → t.length ≤ 100000 → t.drop a = bl s ++ (l ++ (bl g ++ r)) → StopC (k + 1) r → t0.n ≤ 900 → t0.dp ≤ 20 →
  ∃ (q : Nat) (d0 : D) (M0 : Me), q ≤ t0.n ∧ G.fns cl (N + 6 * h + 6 + (2 - k)) 4 [.ref j, .int ((k : Int) + 1)] m = .ok d0 M0 ∧
    ∀ (Q : Fl → Prop) (F : Nat), (∀ x3 e, e ≤ g → FHas Q (whF (cond4 cl (G.fns cl (N + 6 * h + 6 + (2 - k)))) (body4 cl (G.fns cl (N + 6 * h + 6 + (2 - k)))) F [some (.ref j), some (.int (k : Int)), some t0.d, x3] (m.set j (SC cl t (a + s + l.length + e))))) →
      FHas Q (whF (cond4 cl (G.fns cl (N + 6 * h + 6 + (2 - k)))) (body4 cl (G.fns cl (N + 6 * h + 6 + (2 - k)))) (F + q) [some (.ref j), some (.int (k : Int)), some d0, none] M0)
theorem drop_after {t : List Nat} {a s g e : Nat} {l r : List Nat} (hd : t.drop a = bl s ++ (l ++ (bl g ++ r))) (he : e ≤ g) : t.drop (a + s + l.length + e) = bl (g - e) ++ r := by
  rw [← List.drop_drop, ← List.drop_drop, ← List.drop_drop, hd, bl_drop (Nat.le_refl _), Nat.sub_self]
  show (List.drop l.length (l ++ (bl g ++ r))).drop e = _
  rw [List.drop_left' rfl, bl_drop he]
theorem sp_rd {h k : Nat} {l : List Nat} {t0 : T} (hk : k < 3) (hs : SpO cl h k l t0) : RdO cl h k l t0 := by
  intro N t a s g j m r h1 h2 hj hf ht hl hd hst hn hdp
  obtain ⟨q, d0, M0, hq, hc, H⟩ := hs N t a s g j m r h1 h2 hj hf ht hl hd (hst.up (by omega)) hn hdp
  refine ⟨g, Nat.le_refl _, ?_⟩
  rw [show N + 6 * h + 6 + (3 - k) = (N + 6 * h + 6 + (2 - k)) + 1 by omega, fns4]
  refine has_eq (has_def' [some (.ref j), some (.int (k : Int)), none, none] ?_)
  rw [b4_eq]
  have lv := lv_set (m := m) (j := j) t0.d (SC cl t (a + s + l.length + g))
  have hne : ∀ m : Me, gEq (.int (k : Int)) (.int 3) m = .ok (.bl false) m := fun m => by
    have : (k : Int) ≠ 3 := by omega
    simp [this]
  have lk := l_m t a "sum_at" (by decide)
  generalize hQ0 : (kD _ _ : Fl → Prop) = Q0
  have key : ∀ g2, (∀ x3, FHas (kF g2 Q0) (.nx [some (.ref j), some (.int (k : Int)), some t0.d, x3] (m.set j (SC cl t (a + s + l.length + g))))) → FHas (kF g2 Q0) (whF (cond4 cl (G.fns cl (N + 6 * h + 6 + (2 - k)))) (body4 cl (G.fns cl (N + 6 * h + 6 + (2 - k)))) 1000 [some (.ref j), some (.int (k : Int)), some d0, none] M0) := fun g2 hg2 => by
    rw [show 1000 = (999 - q + 1) + q by omega]
    refine H _ _ fun x3 e he => ?_
    have hj2 := set_get hj (SC cl t (a + s + l.length + e))
    have := step_out (cl := cl) (N + 6 * h + 3 + (2 - k)) hj2 ht hl hk (g := g - e) (by omega) hst (drop_after hd he) (d1 := t0.d) (x3 := x3) (kF g2 Q0) (999 - q)
    rw [List.set_set, show a + s + l.length + e + (g - e) = a + s + l.length + g by omega, show N + 6 * h + 3 + (2 - k) + 3 = N + 6 * h + 6 + (2 - k) by omega] at this
    exact this (hg2 x3)
  generalize m.set j (SC cl t (a + s + l.length + g)) = M9 at *
  generalize whF (cond4 cl (G.fns cl (N + 6 * h + 6 + (2 - k)))) (body4 cl (G.fns cl (N + 6 * h + 6 + (2 - k)))) 1000 = WH at *
  unfold SC at hj
  simp -dsimp -implicitDefEqProofs [hj, lk, hne, hc]
  refine key _ fun x3 => ?_
  subst Q0
  simp -dsimp -implicitDefEqProofs [lv]
theorem noDig {k g : Nat} {r : List Nat} (h : StopC k r) : ∀ c ∈ (bl g ++ r).take 1, c ∉ DIG := fun c hc => by
  cases g with
  | zero => exact fun hd => (h.no c (by simpa [bl] using hc)).2.1 (dig_wch c hd)
  | succ g =>
    have : c = 32 := by simpa [bl, List.replicate_succ] using hc
    subst this; decide +kernel
theorem read_all {h k : Nat} {l : List Nat} {t0 : T} (hs : Sg h k l t0) : RdO cl h k l t0 ∧ (k < 3 → SpO cl h k l t0) := by
  induction hs with
  | word h s hw =>
    refine ⟨?_, fun h => absurd h (by decide)⟩
    intro N t a s' g j m r h1 h2 hj hf ht hl hd hst hn hdp
    refine ⟨g, Nat.le_refl _, top_ok (cl := cl) (N + 6 * h + 5) hj ?_⟩
    obtain ⟨c, r', e, hc⟩ := hw.hd
    refine single_word (cl := cl) (N + 6 * h + 2) hj ht hl h1 (c := c) (X := r' ++ (bl g ++ r)) (by rw [hd, e]; rfl) hc ?_
    have hj2 := set_get hj (SC cl t (a + s'))
    have hd2 : t.drop (a + s') = cd s ++ (bl g ++ r) := by rw [← List.drop_drop, hd, bl_drop (Nat.le_refl _), Nat.sub_self]; rfl
    have := word_ok (cl := cl) (N + 6 * h + 1) hj2 ht hl hw h2 hd2 (stop_take hst) (fun _ c hc => (hst.no c hc).2.1)
    rw [List.set_set] at this
    exact this
  | num h v l hv =>
    refine ⟨?_, fun h => absurd h (by decide)⟩
    intro N t a s' g j m r h1 h2 hj hf ht hl hd hst hn hdp
    exact ⟨0, by omega, top_ok (cl := cl) (N + 6 * h + 5) hj (single_num (cl := cl) (N + 6 * h + 2) hj ht hl h1 hv hd (noDig hst))⟩
  | neg h v l hv h0 =>
    refine ⟨?_, fun h => absurd h (by decide)⟩
    intro N t a s' g j m r h1 h2 hj hf ht hl hd hst hn hdp
    refine ⟨0, by omega, top_ok (cl := cl) (N + 6 * h + 5) hj ?_⟩
    rw [show a + s' + (45 :: l).length + 0 = a + s' + 1 + l.length by simp only [List.length_cons]; omega]
    exact single_neg (cl := cl) (N + 6 * h + 2) hj ht hl h1 hv h0 hd (noDig hst)
  | brk h l t0 hs ih =>
    refine ⟨?_, fun h => absurd h (by decide)⟩
    intro N t a s' g j m r h1 h2 hj hf ht hl hd hst hn hdp
    refine ⟨0, by omega, top_ok (cl := cl) (N + 6 * (h + 1) + 5) hj ?_⟩
    have hj2 := set_get hj (SC cl t (a + s' + 1))
    have hd2 : t.drop (a + s' + 1) = bl 0 ++ (l ++ (bl 0 ++ 41 :: (bl g ++ r))) := by
      rw [← List.drop_drop, ← List.drop_drop, hd, bl_drop (Nat.le_refl _), Nat.sub_self]; simp [bl]
    obtain ⟨e, he, h4⟩ := ih.1 (N + 1) t (a + s' + 1) 0 0 j _ (41 :: (bl g ++ r)) (by omega) (by omega) hj2 (hf.set (sc_flat _ _)) ht hl hd2 (fun c hc => .inl (by simpa using hc)) hn hdp
    have he0 : e = 0 := by omega
    subst he0
    rw [List.set_set] at h4
    have := single_brk (cl := cl) (N + 6 * h + 7) hj ht hl h1 (g := 0) (by omega) (X := l ++ (41 :: (bl g ++ r))) (by rw [hd]; simp) (drop_after hd2 (Nat.le_refl 0)) (by
      rw [show N + 6 * h + 7 + 3 = N + 1 + 6 * h + 6 + (3 - 0) by omega]
      exact h4)
    rw [show N + 6 * (h + 1) + 5 = N + 6 * h + 7 + 4 by omega, this]
    congr 3
    simp; omega
  | call h s g0 ls ts hw hg hlen hall ih =>
    refine ⟨?_, fun h => absurd h (by decide)⟩
    intro N t a s' g j m r h1 h2 hj hf ht hl hd hst hn hdp
    refine ⟨0, by omega, top_ok (cl := cl) (N + 6 * (h + 1) + 5) hj ?_⟩
    obtain ⟨c, r', e, hc⟩ := hw.hd
    refine single_word (cl := cl) (N + 6 * (h + 1) + 2) hj ht hl h1 (c := c) (X := r' ++ 40 :: (jg g0 ls ++ 41 :: (bl g ++ r))) (by rw [hd, e]; simp) hc ?_
    have hj2 := set_get hj (SC cl t (a + s'))
    have hd2 : t.drop (a + s') = cd s ++ 40 :: (jg g0 ls ++ 41 :: (bl g ++ r)) := by rw [← List.drop_drop, hd, bl_drop (Nat.le_refl _), Nat.sub_self]; simp [bl]
    simp only [T.n, T.ns] at hn
    simp only [T.dp, T.dps] at hdp
    have hll := len_ns ts
    have := call_ok (cl := cl) (N + 6 * h + 6) hj2 (hf.set (sc_flat _ _)) ht hl hw hg hlen (by omega) (by omega) hd2 (fun l hl => by
      obtain ⟨i, hi, e⟩ := List.getElem_of_mem hl
      exact sg_head (hall i l (ts[i]'(by omega)) (by rw [← e]; exact List.getElem?_eq_getElem hi) (List.getElem?_eq_getElem _))) (fun i l t0 e1 e2 a2 s2 m2 r2 hs2 hj2 hf2 hd2 hst2 => by
      have hm := List.mem_of_getElem? e2
      have q1 := mem_n hm
      have q2 := mem_dp hm
      obtain ⟨e, he, h4⟩ := (ih i l t0 e1 e2).1 N t a2 s2 0 j m2 r2 hs2 (by omega) hj2 hf2 ht hl (by rw [hd2]; rfl) hst2 (by omega) (by omega)
      have he0 : e = 0 := by omega
      subst he0
      exact h4)
    rw [List.set_set] at this
    exact this
  | up h k l t0 hk hs ih =>
    have hsp : SpO cl h k l t0 := by
      intro N t a s' g j m r h1 h2 hj hf ht hl hd hst hn hdp
      obtain ⟨e, he, h4⟩ := ih.1 N t a s' g j m r h1 h2 hj hf ht hl hd hst hn hdp
      refine ⟨0, _, _, by omega, ?_, fun Q F H => H none e he⟩
      rw [show 2 - k = 3 - (k + 1) by omega]
      exact h4
    exact ⟨sp_rd hk hsp, fun _ => hsp⟩
  | op h k c w g1 g2 l1 l2 t1 t2 hk hc hw hg1 hg2 hs1 hs2 ih1 ih2 =>
    have hsp : SpO cl h k (l1 ++ (bl g1 ++ c :: (bl g2 ++ l2))) (.list [.word w, t1, t2]) := by
      intro N t a s' g j m r h1 h2 hj hf ht hl hd hst hn hdp
      simp only [T.n, T.ns] at hn
      simp only [T.dp, T.dps] at hdp
      have hd1 : t.drop a = bl s' ++ (l1 ++ (bl g1 ++ c :: (bl g2 ++ (l2 ++ (bl g ++ r))))) := by rw [hd]; simp
      obtain ⟨q, d0, M0, hq, hc0, H⟩ := ih1.2 hk N t a s' g1 j m _ h1 hg1 hj hf ht hl hd1 (fun x hx => by
        have : x = c := by simpa using hx
        exact .inr (.inr ⟨k, by omega, this ▸ hc⟩)) (by omega) (by omega)
      refine ⟨q + 1, d0, M0, by simp only [T.n, T.ns]; omega, hc0, fun Q F HH => ?_⟩
      rw [show F + (q + 1) = (F + 1) + q by omega]
      refine H Q (F + 1) fun x3 e he => ?_
      have hda := drop_after hd1 he
      have hj2 := set_get hj (SC cl t (a + s' + l1.length + e))
      have hj3 := set_get hj (SC cl t (a + s' + l1.length + e + (g1 - e) + 1))
      have hd3 : t.drop (a + s' + l1.length + e + (g1 - e) + 1) = bl g2 ++ (l2 ++ (bl g ++ r)) := by
        rw [← List.drop_drop, ← List.drop_drop, hda, bl_drop (Nat.le_refl _), Nat.sub_self]; rfl
      obtain ⟨e2, he2, h4⟩ := ih2.1 N t (a + s' + l1.length + e + (g1 - e) + 1) g2 g j _ r hg2 h2 hj3 (hf.set (sc_flat _ _)) ht hl hd3 hst (by omega) (by omega)
      rw [List.set_set] at h4
      have hpos : a + s' + l1.length + e + (g1 - e) + 1 + g2 + l2.length + e2 = a + s' + (l1 ++ (bl g1 ++ c :: (bl g2 ++ l2))).length + e2 := by simp [bl]; omega
      rw [hpos, show N + 6 * h + 6 + (3 - (k + 1)) = N + 6 * h + 3 + (2 - k) + 3 by omega] at h4
      have := step_in (cl := cl) (N + 6 * h + 3 + (2 - k)) hj2 ht hl hk (g := g1 - e) (by omega) hc hw hda (d1 := t1.d) (d2 := t2.d) (x3 := x3) (p' := a + s' + (l1 ++ (bl g1 ++ c :: (bl g2 ++ l2))).length + e2) (by rw [List.set_set, List.set_set]; exact h4) Q F
      rw [List.set_set, show N + 6 * h + 3 + (2 - k) + 3 = N + 6 * h + 6 + (2 - k) by omega] at this
      exact this (HH _ e2 he2)
    exact ⟨sp_rd hk hsp, fun _ => hsp⟩
end K53

set_option maxRecDepth 100000
namespace K53
open PySem PySem.Spec PyProof.Rows L2 FL U63 UR
variable {cl : Nat → Addr}

/-! ### read_sums -/
theorem new_ok (n : Nat) (t : List Nat) (m : Me) : G.fns cl (n + 2) 24 [.str (tx t)] m = .ok (.ref m.length) (m ++ [SC cl t 0]) := by
  rw [fns24]
  have h1 : G.fns cl (n + 1) 0 [.ref m.length, .str (tx t)] (m ++ [.ins (cl 0) []]) = .ok .non (m ++ [SC cl t 0]) := by
    rw [fns0]
    refine has_eq (has_defK [some (.ref m.length), some (.str (tx t))] ?_)
    unfold G.b0
    simp -dsimp -implicitDefEqProofs [putA, SC, fsS, ofs_eq]
  refine has_eq ?_
  simp -dsimp -implicitDefEqProofs [h1]
theorem set_one (m : Me) (c c' : Cell) : (m ++ [c]).set m.length c' = m ++ [c'] := by
  rw [List.set_append_right _ _ (Nat.le_refl _), Nat.sub_self]; rfl
theorem sums_ok {h : Nat} {l : List Nat} {t0 : T} (hs : Sg h 0 l t0) (N s g : Nat) (h1 : s ≤ 100) (h2 : g ≤ 100) (hn : t0.n ≤ 900) (hdp : t0.dp ≤ 20) (ha : ASC l) (hl : l.length ≤ 99000) (m : Me) (hf : FlatM m) :
    G.fns cl (N + 6 * h + 10) 8 [.str (tx (bl s ++ (l ++ bl g)))] m = .ok t0.d m := by
  have hll : (bl s ++ (l ++ bl g)).length ≤ 100000 := by simp [bl]; omega
  have haa : ASC (bl s ++ (l ++ bl g)) := fun c hc => by
    simp only [List.mem_append, bl, List.mem_replicate] at hc
    rcases hc with h | h | h
    · rw [h.2]; decide
    · exact ha c h
    · rw [h.2]; decide
  have hj : (m ++ [SC cl (bl s ++ (l ++ bl g)) 0])[m.length]? = some (SC cl (bl s ++ (l ++ bl g)) 0) := by simp
  obtain ⟨e, he, h4⟩ := (read_all (cl := cl) hs).1 N (bl s ++ (l ++ bl g)) 0 s g m.length (m ++ [SC cl (bl s ++ (l ++ bl g)) 0]) [] h1 h2 hj (hf.app (FlatM.one (sc_flat _ _))) haa hll (by simp) (fun c hc => by simp at hc) hn hdp
  rw [set_one, show ((0 : Nat) : Int) = 0 from rfl] at h4
  have hda : (bl s ++ (l ++ bl g)).drop (0 + s + l.length + e) = bl (g - e) ++ [] := drop_after (by simp) he
  have hj2 : (m ++ [SC cl (bl s ++ (l ++ bl g)) (0 + s + l.length + e)])[m.length]? = some (SC cl (bl s ++ (l ++ bl g)) (0 + s + l.length + e)) := by simp
  have sg := sign_ok (cl := cl) (N + 6 * h + 7) hj2 haa hll (g - e) (by omega) hda (by simp)
  rw [set_one] at sg
  have nw := new_ok (cl := cl) (N + 6 * h + 7) (bl s ++ (l ++ bl g)) m
  generalize bl s ++ (l ++ bl g) = t at *
  rw [fns8]
  refine has_eq (has_def' [some (.str (tx t)), none, none] ?_)
  unfold G.b8
  have lk1 := l_m t 0 "sum_at" (by decide)
  have lk2 := l_m t (0 + s + l.length + e) "sign" (by decide)
  have e1 := fun m => ne_c (l := []) "" (by intro c hc; simp at hc) (by decide +kernel) m
  rw [show cd "" = [] by decide +kernel, decide_eq_true rfl] at e1
  simp only [List.take_nil] at sg
  have lv : ∀ c : Cell, leave m t0.d (m ++ [c]) = .ok t0.d m := fun c => leave_app (d_nb t0)
  have lv := lv (SC cl t (0 + s + l.length + e + (g - e)))
  generalize t0.d = P at *
  generalize hM3 : m ++ [SC cl t (0 + s + l.length + e + (g - e))] = M3 at *
  unfold SC at *
  generalize fsS t 0 = F1 at *
  generalize fsS t (0 + s + l.length + e) = F2 at *
  generalize m ++ [Cell.ins (cl 0) F1] = M1 at *
  generalize m ++ [Cell.ins (cl 0) F2] = M2 at *
  generalize m.length = ml at *
  simp only [show N + 6 * h + 7 + 2 = N + 6 * h + 9 by omega, show N + 6 * h + 6 + (3 - 0) = N + 6 * h + 9 by omega] at *
  simp -dsimp -implicitDefEqProofs [nw, hj, lk1, h4, hj2, lk2, sg, e1, lv]
end K53

set_option maxRecDepth 100000
namespace K53
open PySem PySem.Spec PyProof.Rows L2 FL U63 UR

/-! ### plain: heights, levels, the words and numbers of the law -/
theorem Sg.mono {h k : Nat} {l : List Nat} {t : T} (hs : Sg h k l t) : Sg (h + 1) k l t := by
  induction hs with
  | word h s hw => exact .word _ s hw
  | num h v l hv => exact .num _ v l hv
  | neg h v l hv h0 => exact .neg _ v l hv h0
  | brk h l t _ ih => exact .brk _ l t ih
  | call h s g ls ts hw hg hlen _ ih => exact .call _ s g ls ts hw hg hlen ih
  | up h k l t hk _ ih => exact .up _ k l t hk ih
  | op h k c w g1 g2 l1 l2 t1 t2 hk hc hw h1 h2 _ _ i1 i2 => exact .op _ k c w g1 g2 l1 l2 t1 t2 hk hc hw h1 h2 i1 i2
theorem Sg.monoN {h k : Nat} {l : List Nat} {t : T} (hs : Sg h k l t) {h' : Nat} (hh : h ≤ h') : Sg h' k l t := by
  obtain ⟨d, rfl⟩ := Nat.exists_eq_add_of_le hh
  induction d with
  | zero => exact hs
  | succ d ih => exact (ih (by omega)).mono
theorem Sg.low {h l t} : ∀ (d k : Nat), k + d ≤ 3 → Sg h (k + d) l t → Sg h k l t
  | 0, k, _, hs => hs
  | d + 1, k, hd, hs => Sg.low d k (by omega) (.up h (k + d) l t (by omega) hs)
theorem Sg.lowTo {h k k' : Nat} {l : List Nat} {t : T} (hs : Sg h k' l t) (h1 : k ≤ k') (h2 : k' ≤ 3) : Sg h k l t := by
  obtain ⟨d, rfl⟩ := Nat.exists_eq_add_of_le h1
  exact Sg.low d k h2 hs
theorem asc_app {a b : List Nat} (ha : ASC a) (hb : ASC b) : ASC (a ++ b) := fun c hc => by
  rcases List.mem_append.mp hc with h | h
  · exact ha c h
  · exact hb c h
theorem asc_cons {c : Nat} {b : List Nat} (hc : c < 128) (hb : ASC b) : ASC (c :: b) := fun x hx => by
  rcases List.mem_cons.mp hx with rfl | h
  · exact hc
  · exact hb x h
theorem asc_bl (g : Nat) : ASC (bl g) := fun c hc => by
  rw [(List.mem_replicate.mp hc).2]; decide
theorem jg_asc (g : Nat) : ∀ ls : List (List Nat), (∀ l ∈ ls, ASC l) → ASC (jg g ls)
  | [], _ => by simp [jg, ASC]
  | l :: ls, h => by
    unfold jg
    refine asc_app (h l (by simp)) ?_
    split
    · simp [ASC]
    · exact asc_cons (by decide) (asc_app (asc_bl g) (jg_asc g ls fun l h' => h l (by simp [h'])))
theorem sg_asc {h k : Nat} {l : List Nat} {t : T} (hs : Sg h k l t) : ASC l := by
  induction hs with
  | word h s hw => exact fun c hc => wch_asc c (hw.al c hc)
  | num h v l hv => exact fun c hc => dig_asc c (hv.dg c hc)
  | neg h v l hv h0 => exact asc_cons (by decide) fun c hc => dig_asc c (hv.dg c hc)
  | brk h l t _ ih => exact asc_cons (by decide) (asc_app ih (one_asc (by decide)))
  | call h s g ls ts hw hg hlen _ ih =>
    refine asc_app (fun c hc => wch_asc c (hw.al c hc)) (asc_cons (by decide) (asc_app (jg_asc g ls fun l hm => ?_) (one_asc (by decide))))
    obtain ⟨i, hi, e⟩ := List.getElem_of_mem hm
    exact ih i l (ts[i]'(by omega)) (by rw [← e]; exact List.getElem?_eq_getElem hi) (List.getElem?_eq_getElem _)
  | up h k l t hk _ ih => exact ih
  | op h k c w g1 g2 l1 l2 t1 t2 hk hc hw h1 h2 _ _ i1 i2 =>
    exact asc_app i1 (asc_app (asc_bl _) (asc_cons (lv_facts k hk c hc).1 (asc_app (asc_bl _) i2)))
def WL : List String := ["a", "b", "if?", "x1", "f", "c", "g!"]
def NL : List Int := [0, 1, 42, -1, -30]
def lwB (l : List Nat) : Bool := (match l with | [] => false | c :: _ => decide (c ∈ LTR)) && (l.all fun c => decide (c ∈ WCH)) && decide (l.length ≤ 600)
theorem lwB_ok {l : List Nat} (h : lwB l = true) : LW l := by
  simp only [lwB, Bool.and_eq_true, decide_eq_true_eq] at h
  obtain ⟨⟨h1, h2⟩, h3⟩ := h
  refine ⟨?_, fun c hc => of_decide_eq_true (List.all_eq_true.mp h2 c hc), h3⟩
  cases l with
  | nil => simp at h1
  | cons c r => exact ⟨c, r, rfl, of_decide_eq_true h1⟩
theorem wl_lw : ∀ s ∈ WL, lwB (cd s) = true := by decide +kernel
theorem sg_word (h : Nat) {s : String} (hs : s ∈ WL) : Sg h 3 (cd s) (.word s) := .word h s (lwB_ok (wl_lw s hs))
def dgB (v : Int) (l : List Nat) : Bool := !l.isEmpty && (l.all fun c => decide (c ∈ DIG)) && decide (l.length ≤ 600) && !(decide (l.take 1 = [48]) && decide (l.length > 1)) && decide (PySem.intText? (tx l) = some v)
theorem dgB_ok {v : Int} {l : List Nat} (h : dgB v l = true) : DgN v l := by
  simp only [dgB, Bool.and_eq_true, decide_eq_true_eq] at h
  obtain ⟨⟨⟨⟨h1, h2⟩, h3⟩, h4⟩, h5⟩ := h
  exact ⟨fun e => by rw [e] at h1; simp at h1, fun c hc => of_decide_eq_true (List.all_eq_true.mp h2 c hc), h3, fun ⟨a, b⟩ => by rw [decide_eq_true a, decide_eq_true b] at h4; simp at h4, h5⟩
theorem nl_dg : ∀ i ∈ NL, (0 ≤ i ∧ dgB i (cd (toString i)) = true) ∨ (i < 0 ∧ ∃ l, cd (toString i) = 45 :: l ∧ dgB (-i) l = true) := by
  intro i hi
  simp only [NL, List.mem_cons, List.not_mem_nil, or_false] at hi
  rcases hi with rfl | rfl | rfl | rfl | rfl
  · exact .inl (by decide +kernel)
  · exact .inl (by decide +kernel)
  · exact .inl (by decide +kernel)
  · exact .inr ⟨by decide, [49], by decide +kernel, by decide +kernel⟩
  · exact .inr ⟨by decide, [51, 48], by decide +kernel, by decide +kernel⟩
theorem sg_num (h : Nat) {i : Int} (hi : i ∈ NL) : Sg h 3 (cd (toString i)) (.num i) := by
  rcases nl_dg i hi with ⟨_, hd⟩ | ⟨h0, l, e, hd⟩
  · exact .num h i _ (dgB_ok hd)
  · rw [e]
    have := Sg.neg h (-i) l (dgB_ok hd) (by omega)
    rwa [Int.neg_neg] at this
end K53

set_option maxRecDepth 100000
namespace K53
open PySem PySem.Spec PyProof.Rows L2 FL U63 UR
variable {cl : Nat → Addr}

/-! ### level_of -/
def lvW (s : String) : Option Nat := if s = "<" ∨ s = "=" then some 0 else if s = "+" ∨ s = "-" then some 1 else if s = "*" then some 2 else none
def lvT : T → Option Nat
  | .list [.word s, _, _] => lvW s
  | _ => none
def optD : Option Nat → D
  | none => .non
  | some k => .int (k : Int)
theorem fns9 (n : Nat) : G.fns cl (n + 1) 9 = runDef 2 1 (G.b9 cl (G.fns cl n)) := rfl
theorem in_ws (s : String) (ws : List String) (m : Me) : gInN false (.str (Str.ofString s)) (.tup (ws.map strD)) m = .ok (.bl (decide (s ∈ ws))) m := by
  rw [gInN_nb m (xs := ws.map strD) rfl ⟨by simp [nb], rfl⟩ (fun x h => by
    obtain ⟨l, hm, rfl⟩ := List.mem_map.mp h
    exact ⟨by simp [strD, nb], rfl⟩)]
  have e : ((ws.map strD).any fun x => FL.eqc x (.str (Str.ofString s))) = decide (s ∈ ws) := by
    rw [Bool.eq_iff_iff, List.any_eq_true, decide_eq_true_eq]
    constructor
    · rintro ⟨x, hx, h⟩
      obtain ⟨l, hm, rfl⟩ := List.mem_map.mp hx
      have := eqc_iff.mp h
      simp only [strD, D.str.injEq, ofs_eq] at this
      rwa [← this]
    · intro h; exact ⟨_, List.mem_map.mpr ⟨s, h, rfl⟩, eqc_self _⟩
  rw [e]; rfl
theorem in_lv (s : String) (m : Me) : gInN false (.str (Str.ofString s)) (.tup [.str (Str.ofString "<"), .str (Str.ofString "=")]) m = .ok (.bl (decide (s = "<" ∨ s = "="))) m ∧
    gInN false (.str (Str.ofString s)) (.tup [.str (Str.ofString "+"), .str (Str.ofString "-")]) m = .ok (.bl (decide (s = "+" ∨ s = "-"))) m ∧ gInN false (.str (Str.ofString s)) (.tup [.str (Str.ofString "*")]) m = .ok (.bl (decide (s = "*"))) m := by
  refine ⟨?_, ?_, ?_⟩
  · have := in_ws s ["<", "="] m; simpa only [List.mem_cons, List.not_mem_nil, or_false, List.map_cons, List.map_nil, strD] using this
  · have := in_ws s ["+", "-"] m; simpa only [List.mem_cons, List.not_mem_nil, or_false, List.map_cons, List.map_nil, strD] using this
  · have := in_ws s ["*"] m; simpa only [List.mem_cons, List.not_mem_nil, or_false, List.map_cons, List.map_nil, strD] using this
theorem level_ok (n : Nat) (t : T) (hn : t.n ≤ 900) (m : Me) : G.fns cl (n + 1) 9 [t.d] m = .ok (optD (lvT t)) m := by
  rw [fns9]
  refine has_eq (has_def' [some t.d, none] ?_)
  unfold G.b9
  have hx0 := tg_ix t m
  cases t with
  | word s =>
    simp only [tg] at hx0
    simp only [lvT, optD]
    generalize (T.word s).d = td at *
    simp -dsimp -implicitDefEqProofs [hx0, leave_same]
  | num i =>
    simp only [tg] at hx0
    simp only [lvT, optD]
    generalize (T.num i).d = td at *
    simp -dsimp -implicitDefEqProofs [hx0, leave_same]
  | list ts =>
    simp only [tg] at hx0
    have hx1 := ls_ix ts m
    have hll := len_ns ts
    simp only [T.n] at hn
    by_cases h3 : ts.length = 3
    · obtain ⟨t1, t2, t3, rfl⟩ : ∃ t1 t2 t3, ts = [t1, t2, t3] := by
        match ts, h3 with
        | [a, b, c], _ => exact ⟨a, b, c, rfl⟩
      have hx2 := tg_ix t1 m
      have hds : T.ds [t1, t2, t3] = [t1.d, t2.d, t3.d] := rfl
      rw [hds] at hx1
      cases t1 with
      | word s =>
        have hx3 := wd_ix s m
        obtain ⟨i1, i2, i3⟩ := in_lv s m
        simp only [tg] at hx2
        simp only [lvT, lvW]
        generalize (T.list [.word s, t2, t3]).d = td at *
        generalize (T.word s).d = wd at *
        by_cases c1 : s = "<" ∨ s = "="
        · rw [decide_eq_true c1] at i1
          rw [if_pos c1]; simp only [optD]
          simp -dsimp -implicitDefEqProofs [hx0, hx1, hx2]
          rw [show rngL 0 3 = [.int 0, .int 1, .int 2] from rfl]
          refine for_cons ?_
          simp -dsimp -implicitDefEqProofs [hx1, hx3, i1, leave_same]
        · rw [decide_eq_false c1] at i1
          rw [if_neg c1]
          by_cases c2 : s = "+" ∨ s = "-"
          · rw [decide_eq_true c2] at i2
            rw [if_pos c2]; simp only [optD]
            simp -dsimp -implicitDefEqProofs [hx0, hx1, hx2]
            rw [show rngL 0 3 = [.int 0, .int 1, .int 2] from rfl]
            refine for_cons ?_
            simp -dsimp -implicitDefEqProofs [hx1, hx3, i1, leave_same]
            refine for_cons ?_
            simp -dsimp -implicitDefEqProofs [hx1, hx3, i2, leave_same]
          · rw [decide_eq_false c2] at i2
            rw [if_neg c2]
            by_cases c3 : s = "*"
            · rw [decide_eq_true c3] at i3
              rw [if_pos c3]; simp only [optD]
              simp -dsimp -implicitDefEqProofs [hx0, hx1, hx2]
              rw [show rngL 0 3 = [.int 0, .int 1, .int 2] from rfl]
              refine for_cons ?_
              simp -dsimp -implicitDefEqProofs [hx1, hx3, i1, leave_same]
              refine for_cons ?_
              simp -dsimp -implicitDefEqProofs [hx1, hx3, i2, leave_same]
              refine for_cons ?_
              simp -dsimp -implicitDefEqProofs [hx1, hx3, i3, leave_same]
              try (refine for_nil ?_)
              try (simp -dsimp -implicitDefEqProofs [leave_same])
            · rw [decide_eq_false c3] at i3
              rw [if_neg c3]; simp only [optD]
              simp -dsimp -implicitDefEqProofs [hx0, hx1, hx2]
              rw [show rngL 0 3 = [.int 0, .int 1, .int 2] from rfl]
              refine for_cons ?_
              simp -dsimp -implicitDefEqProofs [hx1, hx3, i1, leave_same]
              refine for_cons ?_
              simp -dsimp -implicitDefEqProofs [hx1, hx3, i2, leave_same]
              refine for_cons ?_
              simp -dsimp -implicitDefEqProofs [hx1, hx3, i3, leave_same]
              try (refine for_nil ?_)
              try (simp -dsimp -implicitDefEqProofs [leave_same])
      | num i =>
        simp only [tg] at hx2
        have hl0 : lvT (.list [.num i, t2, t3]) = none := rfl
        rw [hl0]
        simp only [optD]
        generalize (T.list [.num i, t2, t3]).d = td at *
        generalize (T.num i).d = wd at *
        simp -dsimp -implicitDefEqProofs [hx0, hx1, hx2, leave_same]
      | list us =>
        simp only [tg] at hx2
        have hl0 : lvT (.list [.list us, t2, t3]) = none := rfl
        rw [hl0]
        simp only [optD]
        generalize (T.list [.list us, t2, t3]).d = td at *
        generalize (T.list us).d = wd at *
        simp -dsimp -implicitDefEqProofs [hx0, hx1, hx2, leave_same]
    · have hl0 : lvT (.list ts) = none := by
        unfold lvT
        split
        · rename_i s a b e
          injection e with e; subst e; simp at h3
        · rfl
      rw [hl0]
      simp only [optD]
      have hlen := ds_len ts
      have h3' : ((T.ds ts).length : Int) ≠ 3 := by rw [hlen]; omega
      have hsz : (T.ds ts).length ≤ 1000000 := by rw [hlen]; omega
      generalize T.ds ts = tds at *
      generalize (T.list ts).d = td at *
      simp -dsimp -implicitDefEqProofs [hx0, hx1, h3', hsz, leave_same]
end K53

set_option maxRecDepth 100000
namespace K53
open PySem PySem.Spec PyProof.Rows L2 FL U63 UR
variable {cl : Nat → Addr}

/-! ### the printed text, plain -/
def OPS : List String := ["+", "-", "*", "<", "="]
inductive Dt : T → Prop
  | word (s : String) : s ∈ WL → Dt (.word s)
  | num (i : Int) : i ∈ NL → Dt (.num i)
  | call (s : String) (ts : List T) : s ∈ WL → (∀ t ∈ ts, Dt t) → Dt (.list (.word s :: ts))
  | op (w : String) (t1 t2 : T) : w ∈ OPS → Dt t1 → Dt t2 → Dt (.list [.word w, t1, t2])
theorem ops_lv : ∀ w ∈ OPS, ∃ o c, lvW w = some o ∧ o < 3 ∧ cd w = [c] ∧ c ∈ LV o := by
  intro w hw
  simp only [OPS, List.mem_cons, List.not_mem_nil, or_false] at hw
  rcases hw with rfl | rfl | rfl | rfl | rfl
  · exact ⟨1, 43, by decide +kernel, by decide, by decide +kernel, by decide⟩
  · exact ⟨1, 45, by decide +kernel, by decide, by decide +kernel, by decide⟩
  · exact ⟨2, 42, by decide +kernel, by decide, by decide +kernel, by decide⟩
  · exact ⟨0, 60, by decide +kernel, by decide, by decide +kernel, by decide⟩
  · exact ⟨0, 61, by decide +kernel, by decide, by decide +kernel, by decide⟩
theorem wl_lv : ∀ w ∈ WL, lvW w = none := by decide +kernel
def par (b : Bool) (l : List Nat) : List Nat := if b then 40 :: (l ++ [41]) else l
def opT (w : List Nat) (g : Nat) (a b : List Nat) : List Nat := a ++ (bl g ++ (w ++ (bl g ++ b)))
def callT (w : List Nat) (g : Nat) (ls : List (List Nat)) : List Nat := w ++ 40 :: (jg g ls ++ [41])
def prt : Nat → T → Nat → List Nat
  | 0, _, _ => []
  | _ + 1, .word s, _ => cd s
  | _ + 1, .num i, _ => cd (toString i)
  | n + 1, .list [.word w, t1, t2], k => match lvW w with
    | some o => par (decide (o < k)) (opT (cd w) 1 (prt n t1 o) (prt n t2 (o + 1)))
    | none => callT (cd w) 1 [prt n t1 0, prt n t2 0]
  | n + 1, .list (.word w :: ts), _ => callT (cd w) 1 (ts.map fun t => prt n t 0)
  | _ + 1, .list _, _ => []
theorem prt_call (n : Nat) {w : String} (ts : List T) (k : Nat) (hw : lvW w = none) : prt (n + 1) (.list (.word w :: ts)) k = callT (cd w) 1 (ts.map fun t => prt n t 0) := by
  match ts with
  | [] => rfl
  | [a] => rfl
  | [a, b] => simp only [prt, hw]; rfl
  | a :: b :: c :: r => rfl
theorem prt_op (n : Nat) {w : String} (t1 t2 : T) (k : Nat) {o : Nat} (hw : lvW w = some o) : prt (n + 1) (.list [.word w, t1, t2]) k = par (decide (o < k)) (opT (cd w) 1 (prt n t1 o) (prt n t2 (o + 1))) := by
  simp only [prt, hw]
/-- an operation in its text, with brackets or without -/
theorem sg_op {h o c g k : Nat} {w : String} {l1 l2 : List Nat} {t1 t2 : T} (b : Bool) (ho : o < 3) (hc : c ∈ LV o) (hw : cd w = [c]) (hg : g ≤ 100) (s1 : Sg h o l1 t1) (s2 : Sg h (o + 1) l2 t2) (hk : k ≤ 3) (hb : o < k → b = true) : Sg (h + 1) k (par b (opT (cd w) g l1 l2)) (.list [.word w, t1, t2]) := by
  have hs : Sg h o (opT (cd w) g l1 l2) (.list [.word w, t1, t2]) := by
    unfold opT; rw [hw]
    exact .op h o c w g g l1 l2 t1 t2 ho hc hw hg hg s1 s2
  cases b with
  | true => exact (Sg.brk h _ _ (hs.lowTo (Nat.zero_le _) (by omega))).lowTo hk (Nat.le_refl _)
  | false =>
    have : ¬ o < k := fun h => by simpa using hb h
    exact hs.mono.lowTo (by omega) (by omega)
theorem prt_sg : ∀ (n : Nat) (t : T) (k : Nat), t.dp < n → Dt t → k ≤ 3 → Sg n k (prt n t k) t := by
  intro n
  induction n with
  | zero => intro t k h; omega
  | succ n ih =>
    intro t k hd ht hk
    cases ht with
    | word s hs => exact (sg_word _ hs).lowTo hk (Nat.le_refl _)
    | num i hi => exact (sg_num _ hi).lowTo hk (Nat.le_refl _)
    | call s ts hs hall =>
      rw [prt_call n ts k (wl_lv s hs)]
      simp only [T.dp, T.dps] at hd
      refine Sg.lowTo (.call n s 1 _ ts (lwB_ok (wl_lw s hs)) (by omega) (by simp) fun i l t e1 e2 => ?_) hk (Nat.le_refl _)
      rw [List.getElem?_map, e2] at e1
      have e1 : prt n t 0 = l := by simpa using e1
      subst e1
      have hm := List.mem_of_getElem? e2
      exact ih t 0 (by have := mem_dp hm; omega) (hall t hm) (by omega)
    | op w t1 t2 hw h1 h2 =>
      obtain ⟨o, c, q1, q2, q3, q4⟩ := ops_lv w hw
      rw [prt_op n t1 t2 k q1]
      simp only [T.dp, T.dps] at hd
      exact sg_op _ q2 q4 q3 (by omega) (ih t1 o (by omega) h1 (by omega)) (ih t2 (o + 1) (by omega) h2 (by omega)) hk fun h => by simpa using h
end K53

set_option maxRecDepth 100000
namespace K53
open PySem PySem.Spec PyProof.Rows L2 FL U63 UR
variable {cl : Nat → Addr}

@[simp ↓] theorem mJoin_h {Q : Res _ → Prop} (fo fe : ME) (ρ : En) (m : Me) : RHas Q (mJoin fo fe ρ m) = RHas Q ((fo ρ m).bind fun d m => match d with
  | .str a => (fe ρ m).bind fun y m => match (seqV m y).bind strsD with
    | some ys => if (ys.map (·.length)).sum + ys.length * a.length ≤ 16777216 then .ok (.str (Txt.join a ys)) m else .no
    | none => .no
  | _ => .no) := rfl
theorem jg_len (g : Nat) : ∀ ls : List (List Nat), (jg g ls).length ≤ (ls.map (·.length)).sum + ls.length * (g + 1)
  | [] => by simp [jg]
  | l :: ls => by
    have := jg_len g ls
    unfold jg
    have e : (ls.length + 1) * (g + 1) = ls.length * (g + 1) + (g + 1) := by rw [Nat.succ_mul]
    split <;> simp [bl] <;> omega
theorem sum_le {f : T → List Nat} : ∀ {ts : List T}, (∀ t ∈ ts, (f t).length + 5 ≤ 20 * t.n) → ((ts.map f).map (·.length)).sum + 5 * ts.length ≤ 20 * T.ns ts
  | [], _ => by simp
  | t :: ts, h => by
    have := sum_le (f := f) (ts := ts) fun t' h' => h t' (by simp [h'])
    have := h t (by simp)
    simp only [List.map_cons, List.sum_cons, List.length_cons, T.ns]; omega
theorem wl_len : ∀ s ∈ WL, (cd s).length ≤ 3 := by decide +kernel
theorem nl_len : ∀ i ∈ NL, (cd (toString i)).length ≤ 3 := by
  intro i hi
  simp only [NL, List.mem_cons, List.not_mem_nil, or_false] at hi
  rcases hi with rfl | rfl | rfl | rfl | rfl <;> decide +kernel
theorem par_len (b : Bool) (l : List Nat) : (par b l).length ≤ l.length + 2 := by cases b <;> simp [par]
theorem prt_len : ∀ (n : Nat) (t : T) (k : Nat), t.dp < n → Dt t → (prt n t k).length + 5 ≤ 20 * t.n := by
  intro n
  induction n with
  | zero => intro t k h; omega
  | succ n ih =>
    intro t k hd ht
    cases ht with
    | word s hs => have := wl_len s hs; simp only [prt, T.n]; omega
    | num i hi => have := nl_len i hi; simp only [prt, T.n]; omega
    | call s ts hs hall =>
      rw [prt_call n ts k (wl_lv s hs)]
      simp only [T.dp, T.dps] at hd
      have h1 := wl_len s hs
      have h2 := jg_len 1 (ts.map fun t => prt n t 0)
      have h3 := sum_le (f := fun t => prt n t 0) (ts := ts) fun t hm => ih t 0 (by have := mem_dp hm; omega) (hall t hm)
      rw [List.length_map] at h2
      simp only [callT, List.length_append, List.length_cons, List.length_nil, T.n, T.ns]; omega
    | op w t1 t2 hw h1 h2 =>
      obtain ⟨o, c, q1, q2, q3, q4⟩ := ops_lv w hw
      rw [prt_op n t1 t2 k q1]
      simp only [T.dp, T.dps] at hd
      have h3 := ih t1 o (by omega) h1
      have h4 := ih t2 (o + 1) (by omega) h2
      have h5 := par_len (decide (o < k)) (opT (cd w) 1 (prt n t1 o) (prt n t2 (o + 1)))
      have h6 : (opT (cd w) 1 (prt n t1 o) (prt n t2 (o + 1))).length = (prt n t1 o).length + (prt n t2 (o + 1)).length + 3 := by simp [opT, q3, bl]; omega
      simp only [T.n, T.ns]; omega
theorem strS_num {i : Int} (h : i ∈ NL) (m : Me) : gStrS [.int i] m = .ok (.str (tx (cd (toString i)))) m := by
  have : i.natAbs < 2 ^ 64 := by
    have : ∀ i ∈ NL, i.natAbs < 2 ^ 64 := by decide
    exact this i h
  unfold gStrS
  simp only
  rw [if_pos this, ← ofs_tx]
theorem strS_word (s : String) (m : Me) : gStrS [.str (Str.ofString s)] m = .ok (.str (tx (cd s))) m := by rw [ofs_tx]; rfl
theorem seq_tx (ls : List (List Nat)) (m : Me) : (seqV m (.lst (ls.map fun l => D.str (tx l)))).bind strsD = some (ls.map tx) := strsD_tx ls
/-- joining by a comma and blanks -/
theorem jg_ic (g : Nat) : ∀ ls : List (List Nat), TL.joinL (44 :: bl g) ls = jg g ls
  | [] => rfl
  | [l] => by simp [jg, TL.joinL]
  | l :: l2 :: ls => by
    have := jg_ic g (l2 :: ls)
    rw [TL.joinL, this]
    simp [jg]
theorem join_jg (g : Nat) (ls : List (List Nat)) : Txt.join (tx (44 :: bl g)) (ls.map tx) = tx (jg g ls) := by
  rw [TL.join_eq, tx_of (Str.join _ _)]
  congr 1
  have := TL.tl_join (tx (44 :: bl g)) (ls.map tx)
  rw [List.map_map] at this
  have e : (TL.tl ∘ tx) = id := by funext l; exact tx_list l
  rw [e, List.map_id] at this
  rw [← jg_ic]
  exact this
end K53

set_option maxRecDepth 100000
namespace K53
open PySem PySem.Spec PyProof.Rows L2 FL U63 UR
variable {cl : Nat → Addr}

/-! ### print_at -/
theorem fns12 (n : Nat) : G.fns cl (n + 1) 12 = runDef 8 2 (G.b12 cl (G.fns cl n)) := rfl
theorem ad {l : List Nat} (a : List Nat) (s : String) (hs : cd s = l) (h : a.length + l.length ≤ 1000000) (m : Me) : gAdd (.str (tx a)) (.str (Str.ofString s)) m = .ok (.str (tx (a ++ l))) m := by
  rw [ofs_tx, hs]; exact UR.g_add h m
theorem da {l : List Nat} (a : List Nat) (s : String) (hs : cd s = l) (h : a.length + l.length ≤ 1000000) (m : Me) : gAdd (.str (Str.ofString s)) (.str (tx a)) m = .ok (.str (tx (l ++ a))) m := by
  rw [ofs_tx, hs]; exact UR.g_add (by omega) m
@[simp ↓] theorem sPar3_h {Q : Fl → Prop} (i j l : Nat) (fa : MA) (ρ : En) (m : Me) : FHas Q (sPar3 i j l fa ρ m) = FHas Q (bindS (fa ρ m) ρ fun ds m => match ds with
  | [x, y, z] => .nx (((ρ.set i (some x)).set j (some y)).set l (some z)) m
  | _ => .no) := rfl
theorem print_ok : ∀ (n : Nat) (t : T) (k : Nat) (m : Me), t.dp < n → Dt t → t.n ≤ 900 → G.fns cl (n + 1) 12 [t.d, .int (k : Int)] m = .ok (.str (tx (prt n t k))) m := by
  intro n
  induction n with
  | zero => intro t k m h; omega
  | succ n ih =>
    intro t k m hd ht hn
    rw [fns12]
    refine has_eq (has_def' [some t.d, some (.int (k : Int)), none, none, none, none, none, none] ?_)
    unfold G.b12
    have hx0 := tg_ix t m
    have hlv := level_ok (cl := cl) n t hn m
    have hpl := prt_len (n + 1) t k hd ht
    cases ht with
    | word s hs =>
      simp only [tg] at hx0
      have hx1 := wd_ix s m
      have hs := strS_word s m
      simp only [lvT, optD] at hlv
      simp only [prt]
      generalize (T.word s).d = td at *
      simp -dsimp -implicitDefEqProofs [hlv, hx0, hx1, hs, leave_same]
    | num i hi =>
      simp only [tg] at hx0
      have hx1 := nm_ix i m
      have hs := strS_num hi m
      simp only [lvT, optD] at hlv
      simp only [prt]
      generalize (T.num i).d = td at *
      simp -dsimp -implicitDefEqProofs [hlv, hx0, hx1, hs, leave_same]
    | op w t1 t2 hw h1 h2 =>
      obtain ⟨o, c, q1, q2, q3, q4⟩ := ops_lv w hw
      rw [prt_op n t1 t2 k q1] at hpl ⊢
      simp only [T.dp, T.dps] at hd
      have hnn := hn
      simp only [T.n, T.ns] at hnn
      have hx1 := ls_ix [.word w, t1, t2] m
      have hds : T.ds [.word w, t1, t2] = [(T.word w).d, t1.d, t2.d] := rfl
      rw [hds] at hx1
      have hx3 := wd_ix w m
      have hlo : lvT (.list [.word w, t1, t2]) = some o := q1
      rw [hlo] at hlv
      simp only [optD] at hlv
      have i1 := ih t1 o m (by omega) h1 (by omega)
      have i2 := ih t2 (o + 1) m (by omega) h2 (by omega)
      have e1 : ((o + 1 : Nat) : Int) = (o : Int) + 1 := by omega
      rw [e1] at i2
      have l1 := prt_len n t1 o (by omega) h1
      have l2 := prt_len n t2 (o + 1) (by omega) h2
      simp only [opT] at hpl ⊢
      rw [q3] at hpl ⊢
      generalize hP1 : prt n t1 o = P1 at *
      generalize hP2 : prt n t2 (o + 1) = P2 at *
      have a1 := ad P1 " " (l := [32]) (by decide +kernel) (by simp; omega) m
      have a2 := ad (P1 ++ [32]) w (l := [c]) q3 (by simp; omega) m
      have a3 := ad (P1 ++ [32] ++ [c]) " " (l := [32]) (by decide +kernel) (by simp; omega) m
      have a4 := UR.g_add (a := P1 ++ [32] ++ [c] ++ [32]) (b := P2) (by simp; omega) m
      have eT : P1 ++ [32] ++ [c] ++ [32] ++ P2 = P1 ++ (bl 1 ++ ([c] ++ (bl 1 ++ P2))) := by simp [bl]
      rw [eT] at a4
      have hT : (P1 ++ (bl 1 ++ ([c] ++ (bl 1 ++ P2)))).length ≤ 900000 := by simp [bl]; omega
      generalize P1 ++ (bl 1 ++ ([c] ++ (bl 1 ++ P2))) = TT at *
      have a5 := da TT "(" (l := [40]) (by decide +kernel) (by simp; omega) m
      have a6 := ad ([40] ++ TT) ")" (l := [41]) (by decide +kernel) (by simp; omega) m
      generalize (T.list [.word w, t1, t2]).d = td at *
      generalize (T.word w).d = wd at *
      generalize t1.d = d1 at *
      generalize t2.d = d2 at *
      generalize P1 ++ [32] ++ [c] ++ [32] = X3 at *
      generalize P1 ++ [32] ++ [c] = X2 at *
      generalize P1 ++ [32] = X1 at *
      by_cases hk : o < k
      · have hki : (o : Int) < (k : Int) := by omega
        rw [decide_eq_true hk]
        have ep : par true TT = [40] ++ TT ++ [41] := by simp [par]
        rw [ep]
        generalize [40] ++ TT ++ [41] = Y2 at *
        generalize [40] ++ TT = Y1 at *
        simp -dsimp -implicitDefEqProofs [hlv, hx0, hx1, hx3, i1, i2, a1, a2, a3, a4, a5, a6, hk, hki, leave_same]
      · have hki : ¬ (o : Int) < (k : Int) := by omega
        rw [decide_eq_false hk]
        have ep : par false TT = TT := by simp [par]
        rw [ep]
        simp -dsimp -implicitDefEqProofs [hlv, hx0, hx1, hx3, i1, i2, a1, a2, a3, a4, hk, hki, leave_same]
    | call s ts hs hall =>
      simp only [tg] at hx0
      have hsl := wl_lv s hs
      rw [prt_call n ts k hsl] at hpl ⊢
      have hlo : lvT (.list (.word s :: ts)) = none := by
        unfold lvT
        split
        · rename_i s' a b e
          have e := T.list.inj e
          have e := T.word.inj (List.cons.inj e).1
          rw [← e]; exact hsl
        · rfl
      rw [hlo] at hlv
      simp only [optD] at hlv
      have hx1 := ls_ix (.word s :: ts) m
      have hds : T.ds (.word s :: ts) = (T.word s).d :: ts.map T.d := by rw [ds_map]; rfl
      rw [hds] at hx1
      have hx3 := wd_ix s m
      simp only [T.dp, T.dps] at hd
      have hnn := hn
      simp only [T.n, T.ns] at hnn
      have hll := len_ns ts
      have hih := fun t (hm : t ∈ ts) => ih t 0 m (by have := mem_dp hm; omega) (hall t hm) (by have := mem_n hm; omega)
      have hsum := sum_le (f := fun t => prt n t 0) (ts := ts) fun t hm => prt_len n t 0 (by have := mem_dp hm; omega) (hall t hm)
      generalize hls : ts.map (fun t => prt n t 0) = ls at *
      have hlsl : ls.length = ts.length := by rw [← hls, List.length_map]
      have hjl := jg_len 1 ls
      have hsq := seq_tx ls m
      have hjs := join_jg 1 ls
      have e0 : tx (44 :: bl 1) = Str.ofString ", " := by rw [ofs_tx]; congr 1
      rw [e0] at hjs
      have hsz : ((ls.map tx).map (·.length)).sum + (ls.map tx).length * (Str.ofString ", ").length ≤ 16777216 := by
        have e : (ls.map tx).map (·.length) = ls.map (·.length) := by rw [List.map_map]; exact List.map_congr_left fun l _ => tx_len l
        rw [e, List.length_map, show (Str.ofString ", ").length = 2 by decide +kernel]; omega
      have hw3 := wl_len s hs
      have a1 := ad (cd s) "(" (l := [40]) (by decide +kernel) (by simp; omega) m
      rw [← ofs_tx] at a1
      have a2 := UR.g_add (a := cd s ++ [40]) (b := jg 1 ls) (by simp; omega) m
      have a3 := ad (cd s ++ [40] ++ jg 1 ls) ")" (l := [41]) (by decide +kernel) (by simp; omega) m
      have ec : callT (cd s) 1 ls = cd s ++ [40] ++ jg 1 ls ++ [41] := by simp [callT]
      rw [ec]
      have hmp : (ls.map fun l => D.str (tx l)) = ts.map fun t => D.str (tx (prt n t 0)) := by rw [← hls, List.map_map]; rfl
      rw [hmp] at hsq
      generalize (T.list (.word s :: ts)).d = td at *
      generalize (T.word s).d = wd at *
      generalize cd s ++ [40] ++ jg 1 ls ++ [41] = Y3 at *
      generalize cd s ++ [40] ++ jg 1 ls = Y2 at *
      generalize cd s ++ [40] = Y1 at *
      generalize ls.map tx = PT at *
      generalize tx (jg 1 ls) = J at *
      simp -dsimp -implicitDefEqProofs [hlv, hx0, hx1, hx3, a1]
      refine comp_all (fun t => D.str (tx (prt n t 0))) (fun t ht => ⟨_, rfl, rfl, ?_⟩) ?_
      · have := hih t ht
        rw [show ((0 : Nat) : Int) = 0 from rfl] at this
        simp -dsimp -implicitDefEqProofs [this]
      generalize ts.map (fun t => D.str (tx (prt n t 0))) = LL at *
      simp -dsimp -implicitDefEqProofs [hsq, hsz, hjs, a2, a3, leave_same]

theorem fns13 (n : Nat) : G.fns cl (n + 1) 13 = runDef 1 1 (G.b13 cl (G.fns cl n)) := rfl
theorem sums_print (n : Nat) (t : T) (m : Me) (hd : t.dp < n) (ht : Dt t) (hn : t.n ≤ 900) : G.fns cl (n + 2) 13 [t.d] m = .ok (.str (tx (prt n t 0))) m := by
  rw [fns13]
  refine has_eq (has_def' [some t.d] ?_)
  unfold G.b13
  have h := print_ok (cl := cl) n t 0 m hd ht hn
  rw [show ((0 : Nat) : Int) = 0 from rfl] at h
  generalize t.d = td at *
  simp -dsimp -implicitDefEqProofs [h, leave_same]
end K53

set_option maxRecDepth 100000
namespace K53
open PySem PySem.Spec PyProof.Rows L2 FL U63 UR
variable {cl : Nat → Addr}

/-! ### _law_level, and what is read back -/
theorem fns19 (n : Nat) : G.fns cl (n + 1) 19 = runDef 1 1 (G.b19 cl (G.fns cl n)) := rfl
theorem back_ok (n : Nat) (t : T) (m : Me) (hf : FlatM m) (hd : t.dp < n) (hdp : t.dp ≤ 20) (ht : Dt t) (hn : t.n ≤ 900) (N : Nat) : G.fns cl (N + 6 * n + 10) 8 [.str (tx (prt n t 0))] m = .ok t.d m := by
  have hl := prt_len n t 0 hd ht
  have hs := prt_sg n t 0 hd ht (by omega)
  have := sums_ok (cl := cl) hs N 0 0 (by omega) (by omega) (by omega) hdp (sg_asc hs) (by omega) m hf
  rw [show bl 0 ++ (prt n t 0 ++ bl 0) = prt n t 0 by simp [bl]] at this
  exact this
end K53

set_option maxRecDepth 100000
namespace K53
open PySem PySem.Spec PyProof.Rows L2 FL U63 UR
variable {cl : Nat → Addr}

theorem law_level (n : Nat) (s : String) (m : Me) : G.fns cl (n + 1) 19 [.str (Str.ofString s)] m = .ok (.int (((lvW s).getD 3 : Nat) : Int)) m := by
  rw [fns19]
  refine has_eq (has_def' [some (.str (Str.ofString s))] ?_)
  unfold G.b19
  unfold lvW
  have hk : ∀ a, keyD (.str a) = some (.inr a) := fun _ => rfl
  have lv : ∀ (i : Int) (c : Cell), leave m (.int i) (m ++ [c]) = .ok (.int i) m := fun i c => leave_app rfl
  by_cases c1 : s = "<"
  · subst c1; simp -dsimp -implicitDefEqProofs [hk, ofs_eq, setK, gDget2, view, look, getK, lv]
  by_cases c2 : s = "="
  · subst c2; simp -dsimp -implicitDefEqProofs [hk, ofs_eq, setK, gDget2, view, look, getK, lv]
  by_cases c3 : s = "+"
  · subst c3; simp -dsimp -implicitDefEqProofs [hk, ofs_eq, setK, gDget2, view, look, getK, lv]
  by_cases c4 : s = "-"
  · subst c4; simp -dsimp -implicitDefEqProofs [hk, ofs_eq, setK, gDget2, view, look, getK, lv]
  by_cases c5 : s = "*"
  · subst c5; simp -dsimp -implicitDefEqProofs [hk, ofs_eq, setK, gDget2, view, look, getK, lv]
  simp -dsimp -implicitDefEqProofs [hk, ofs_eq, setK, gDget2, view, look, getK, lv, c1, c2, c3, c4, c5, List.find?, Ne.symm c1, Ne.symm c2, Ne.symm c3, Ne.symm c4, Ne.symm c5]
end K53

set_option maxRecDepth 100000
namespace K53
open PySem PySem.Spec PyProof.Rows L2 FL U63 UR
variable {cl : Nat → Addr} {ds : List Int}

/-! ### _law_text -/
theorem fns14 (n : Nat) : G.fns cl (n + 1) 14 = runDef 8 2 (bDraws (G.fns cl n)) := rfl
theorem fns15 (n : Nat) : G.fns cl (n + 1) 15 = runDef 2 2 (bNext (G.fns cl n)) := rfl
theorem fns16 (n : Nat) : G.fns cl (n + 1) 16 = runDef 2 2 (bPick 15 (G.fns cl n)) := rfl
theorem fns20 (n : Nat) : G.fns cl (n + 1) 20 = runDef 8 3 (G.b20 cl (G.fns cl n)) := rfl
def exM (b : Bool) : List (Key × D) := [((.inr (Str.ofString "more") : Key), .bl b)]
theorem exM_ok (b : Bool) : ExOk (exM b) := by
  refine ⟨fun p hp => ?_, by simp [exM], fun n => by simp [exM, cloK, cloP, clo]⟩
  simp only [exM, List.mem_singleton] at hp
  subst hp
  show ¬ ((Sum.inr (Str.ofString "more") : Key) = Sum.inr (Str.ofString "at"))
  decide +kernel
variable {b : Bool} {m : Me}
theorem nxt (n : Nat) (h : Wt 0 ds (exM b) m) {a : Int} (ha : 0 < a) : RHas (OkR fun d m' => ∃ v : Nat, (v : Int) < a ∧ d = .int v ∧ Ev 0 ds (exM b) m m') (G.fns cl (n + 1) 15 [.ref 0, .int a] m) := next_has h (fns15 n) ha
theorem pik (n : Nat) (h : Wt 0 ds (exM b) m) {xs : List D} (hx : xs ≠ []) : RHas (OkR fun d m' => d ∈ xs ∧ Ev 0 ds (exM b) m m') (G.fns cl (n + 2) 16 [.ref 0, .lst xs] m) := pick_has h (fns16 (n + 1)) (fns15 n) hx
theorem look_more {k : Int} (h : m[0]? = some (WX ds k (exM b))) : look m (.ref 0) (.str (Str.ofString "more")) = some (some (.bl b)) := by
  unfold look; rw [view_ref_dK h]; rfl
theorem more_get (h : Wt 0 ds (exM b) m) : gDget (.ref 0) (.str (Str.ofString "more")) m = .ok (.bl b) m := by
  obtain ⟨k, _, e⟩ := h.w
  simp [gDget, look_more e]
theorem more_put (h : Wt 0 ds (exM b) m) (b' : Bool) : ∃ m', dput m (.ref 0) (.str (Str.ofString "more")) (.bl b') = some m' ∧ Wt 0 ds (exM b') m' ∧ m'.length = m.length := by
  obtain ⟨k, h0, e⟩ := h.w
  refine ⟨m.set 0 (WX ds k (exM b')), ?_, ⟨⟨k, h0, List.getElem?_set_self h.lt⟩, h.f.set (clo_wx (exM_ok b')), exM_ok b'⟩, List.length_set ..⟩
  unfold dput; simp only [keyD, e]; rw [FL.WX]; simp only
  rw [if_pos (by simp [exM])]
  have n1 : ¬ (("draws" : Str) = Str.ofString "more") := by decide +kernel
  have n2 : ¬ (("at" : Str) = Str.ofString "more") := by decide +kernel
  simp [exM, setK, FL.WX, n1, n2]
def gapE (f : Nat → List D → Me → Res D) : ME := mIf (mB (FL.m2 gDget (mVar 0) (mC (.str ("more" : Str))))) (mCall (f 16) (mCons (mVar 0) (mCons (mLst (mCons (mC (.str ("" : Str))) (mCons (mC (.str (" " : Str))) (mCons (mC (.str ("  " : Str))) mNil)))) mNil))) (mC (.str (" " : Str)))
def endE (f : Nat → List D → Me → Res D) : ME := mIf (mOr (mB (FL.m2 gLt (mVar 5) (mVar 2))) (mAnd (mB (FL.m2 gDget (mVar 0) (mC (.str ("more" : Str))))) (mAnd (mB (FL.m2 gEq (FL.m2 gIx (mVar 1) (mC (.int 0))) (mC (.str ("list" : Str))))) (mB (FL.m2 gEq (mCall (f 15) (mCons (mVar 0) (mCons (mC (.int 5)) mNil))) (mC (.int 0))))))) (FL.m2 gAdd (FL.m2 gAdd (mC (.str ("(" : Str))) (mVar 4)) (mC (.str (")" : Str)))) (mVar 4)
theorem b20_eq (f : Nat → List D → Me → Res D) : G.b20 cl f = sSeq (sSet 3 (gapE f)) (sSeq (sIf (mB (FL.m2 gNe (FL.m2 gIx (mVar 1) (mC (.int 0))) (mC (.str ("list" : Str))))) (sSeq (sPar 4 5 (mCons (mArgs gStrS (mCons (FL.m2 gIx (mVar 1) (mC (.int 1))) mNil)) (mCons (mC (.int 3)) mNil))) sNext) (sSeq (sIf (mB (FL.m2 gLt (mCall (f 19) (mCons (FL.m2 gIx (FL.m2 gIx (FL.m2 gIx (mVar 1) (mC (.int 1))) (mC (.int 0))) (mC (.int 1))) mNil)) (mC (.int 3)))) (sSeq (sSet 5 (mCall (f 19) (mCons (FL.m2 gIx (FL.m2 gIx (FL.m2 gIx (mVar 1) (mC (.int 1))) (mC (.int 0))) (mC (.int 1))) mNil))) (sSeq (sSet 6 (mCall (f 20) (mCons (mVar 0) (mCons (FL.m2 gIx (FL.m2 gIx (mVar 1) (mC (.int 1))) (mC (.int 1))) (mCons (mVar 5) mNil))))) (sSeq (sSet 4 (FL.m2 gAdd (FL.m2 gAdd (FL.m2 gAdd (FL.m2 gAdd (mVar 6) (mVar 3)) (FL.m2 gIx (FL.m2 gIx (FL.m2 gIx (mVar 1) (mC (.int 1))) (mC (.int 0))) (mC (.int 1)))) (mVar 3)) (mCall (f 20) (mCons (mVar 0) (mCons (FL.m2 gIx (FL.m2 gIx (mVar 1) (mC (.int 1))) (mC (.int 2))) (mCons (FL.m2 gAdd (mVar 5) (mC (.int 1))) mNil)))))) sNext))) (sSeq (sPar 4 5 (mCons (FL.m2 gAdd (FL.m2 gAdd (FL.m2 gAdd (FL.m2 gIx (FL.m2 gIx (FL.m2 gIx (mVar 1) (mC (.int 1))) (mC (.int 0))) (mC (.int 1))) (mC (.str ("(" : Str)))) (mJoin (FL.m2 gAdd (mC (.str ("," : Str))) (mVar 3)) (mComp (iSeq (mSl (FL.m2 gIx (mVar 1) (mC (.int 1))) (mOpt (mC (.int 1))) mNo)) [7] (tgN 7) cYes (mCall (f 20) (mCons (mVar 0) (mCons (mVar 7) (mCons (mC (.int 0)) mNil))))))) (mC (.str (")" : Str)))) (mCons (mC (.int 3)) mNil))) sNext)) sNext)) (sSeq (sRet (endE f)) sNext)) := rfl
theorem gap_ok (n : Nat) (h : Wt 0 ds (exM b) m) (ρ : En) : ∃ g m1, g ≤ 2 ∧ Ev 0 ds (exM b) m m1 ∧ (b = false → g = 1) ∧ gapE (G.fns cl (n + 2)) (some (.ref 0) :: ρ) m = .ok (.str (tx (bl g))) m1 := by
  have key : RHas (OkR fun d m1 => ∃ g, g ≤ 2 ∧ Ev 0 ds (exM b) m m1 ∧ (b = false → g = 1) ∧ d = .str (tx (bl g))) (gapE (G.fns cl (n + 2)) (some (.ref 0) :: ρ) m) := by
    have hm := more_get h
    unfold gapE
    cases b with
    | false =>
      simp -dsimp -implicitDefEqProofs [hm]
      exact ⟨_, _, rfl, 1, by omega, Ev.refl h, by simp, by congr 1⟩
    | true =>
      simp -dsimp -implicitDefEqProofs [hm]
      refine (pik n h (by simp)).ok fun d m1 ⟨hd, v⟩ => ?_
      simp only [List.mem_cons, List.not_mem_nil, or_false] at hd
      refine ⟨_, _, rfl, ?_⟩
      rcases hd with rfl | rfl | rfl
      · exact ⟨0, by omega, v, by simp, by congr 1⟩
      · exact ⟨1, by omega, v, by simp, by congr 1⟩
      · exact ⟨2, by omega, v, by simp, by congr 1⟩
  obtain ⟨d, m1, e, g, h1, h2, h3, rfl⟩ := key.ex
  exact ⟨g, m1, h1, h2, h3, e⟩
def PE (ds : List Int) (b : Bool) (m : Me) (t : T) (k o : Nat) (l : List Nat) (d : D) (m1 : Me) : Prop := ∃ bb, Ev 0 ds (exM b) m m1 ∧ (o < k → bb = true) ∧ (b = false ∨ tg t ≠ "list" → bb = decide (o < k)) ∧ d = .str (tx (par bb l))
theorem end_ok (n : Nat) (h : Wt 0 ds (exM b) m) (t : T) (k o : Nat) (l : List Nat) (hl : l.length ≤ 900000) (x3 x6 x7 : Option D) : ∃ bb m1, Ev 0 ds (exM b) m m1 ∧ (o < k → bb = true) ∧ (b = false ∨ tg t ≠ "list" → bb = decide (o < k)) ∧ endE (G.fns cl (n + 1)) [some (.ref 0), some t.d, some (.int (k : Int)), x3, some (.str (tx l)), some (.int (o : Int)), x6, x7] m = .ok (.str (tx (par bb l))) m1 := by
  have key : RHas (OkR (PE ds b m t k o l)) (endE (G.fns cl (n + 1)) [some (.ref 0), some t.d, some (.int (k : Int)), x3, some (.str (tx l)), some (.int (o : Int)), x6, x7] m) := by
    have hm := more_get h
    have hx0 := tg_ix t m
    have a5 := fun m => da l "(" (l := [40]) (by decide +kernel) (by simp; omega) m
    have a6 := fun m => ad ([40] ++ l) ")" (l := [41]) (by decide +kernel) (by simp; omega) m
    have ep : par true l = [40] ++ l ++ [41] := by simp [par]
    have en : par false l = l := by simp [par]
    have fT : ∀ m1, Ev 0 ds (exM b) m m1 → (b = false ∨ tg t ≠ "list" → true = decide (o < k)) → PE ds b m t k o l (.str (tx ([40] ++ l ++ [41]))) m1 := fun m1 v q => ⟨true, v, fun _ => rfl, q, by rw [ep]⟩
    have fF : ∀ m1, Ev 0 ds (exM b) m m1 → ¬ o < k → PE ds b m t k o l (.str (tx l)) m1 := fun m1 v q => ⟨false, v, fun h => (q h).elim, fun _ => (decide_eq_false q).symm, by rw [en]⟩
    unfold endE
    generalize hPE : PE ds b m t k o l = PP at *
    generalize htt : tg t = tt at *
    generalize t.d = td at *
    generalize [40] ++ l ++ [41] = Y2 at *
    generalize [40] ++ l = Y1 at *
    by_cases hk : o < k
    · have hki : (o : Int) < (k : Int) := by omega
      simp -dsimp -implicitDefEqProofs [hk, hki, a5, a6]
      exact ⟨_, _, rfl, fT _ (Ev.refl h) fun _ => (decide_eq_true hk).symm⟩
    · have hki : ¬ (o : Int) < (k : Int) := by omega
      cases b with
      | false =>
        simp -dsimp -implicitDefEqProofs [hk, hki, hm]
        exact ⟨_, _, rfl, fF _ (Ev.refl h) hk⟩
      | true =>
        by_cases hl : tt = "list"
        · subst hl
          simp -dsimp -implicitDefEqProofs [hk, hki, hm, hx0]
          refine (nxt n h (by decide)).ok fun d m1 ⟨v, hv, hd, v1⟩ => ?_
          subst hd
          by_cases hz : v = 0
          · subst hz
            simp -dsimp -implicitDefEqProofs [a5, a6]
            exact ⟨_, _, rfl, fT _ v1 fun h => by simp at h⟩
          · have hz' : ¬ (v : Int) = 0 := by omega
            simp -dsimp -implicitDefEqProofs [hz, hz']
            exact ⟨_, _, rfl, fF _ v1 hk⟩
        · simp -dsimp -implicitDefEqProofs [hk, hki, hm, hx0, hl]
          exact ⟨_, _, rfl, fF _ (Ev.refl h) hk⟩
  obtain ⟨d, m1, e, bb, h1, h2, h3, rfl⟩ := key.ex
  exact ⟨bb, m1, h1, h2, h3, e⟩
end K53

set_option maxRecDepth 100000
namespace K53
open PySem PySem.Spec PyProof.Rows L2 FL U63 UR
variable {cl : Nat → Addr} {ds : List Int} {b : Bool}

def PT (ds : List Int) (b : Bool) (m : Me) (n k : Nat) (t : T) (d : D) (m' : Me) : Prop := ∃ l, d = .str (tx l) ∧ Sg (2 * n) k l t ∧ l.length + 5 ≤ 20 * t.n ∧ Ev 0 ds (exM b) m m' ∧ (b = false → l = prt n t k)
theorem jg_sum (g : Nat) (ls : List (List Nat)) (ts : List T) (s : Nat) (h : (ls.map (·.length)).sum + 5 * ls.length ≤ 20 * T.ns ts) (hg : g ≤ 2) : (jg g ls).length + 2 * ls.length ≤ 20 * T.ns ts := by
  have h2 := jg_len g ls
  have : ls.length * (g + 1) ≤ ls.length * 3 := Nat.mul_le_mul_left _ (by omega)
  omega
theorem text_has (N : Nat) : ∀ (n : Nat) (t : T) (k : Nat) (m : Me), t.dp < n → Dt t → t.n ≤ 900 → k ≤ 3 → Wt 0 ds (exM b) m → RHas (OkR (PT ds b m n k t)) (G.fns cl (N + n + 2) 20 [.ref 0, t.d, .int (k : Int)] m) := by
  intro n
  induction n with
  | zero => intro t k m h; omega
  | succ n ih =>
    intro t k m hd ht hn hk3 h
    rw [show N + (n + 1) + 2 = (N + n + 2) + 1 by omega, fns20]
    refine has_def' [some (.ref 0), some t.d, some (.int (k : Int)), none, none, none, none, none] ?_
    rw [b20_eq]
    have hx0 := fun m => tg_ix t m
    obtain ⟨g, m1, hg, v1, gf, ge⟩ := gap_ok (cl := cl) (N + n) h [some t.d, some (.int (k : Int)), none, none, none, none, none]
    have h1 := h.ev v1
    have en := fun m' h' o l hl x3 x6 x7 => end_ok (cl := cl) (ds := ds) (b := b) (m := m') (N + n + 1) h' t k o l hl x3 x6 x7
    generalize hGE : gapE (G.fns cl (N + n + 2)) = GE at *
    generalize hEE : endE (G.fns cl (N + n + 2)) = EE at *
    generalize hQ0 : (kD _ _ : Fl → Prop) = Q0
    have leaf : ∀ (l : List Nat), tg t ≠ "list" → Sg (2 * (n + 1)) 3 l t → l.length ≤ 3 → t.n = 1 → prt (n + 1) t k = l → (∀ m, gIx t.d (.int 1) m = .ok (t.d) m → True) → ∀ y, (∀ m, gIx t.d (.int 1) m = .ok y m) → (∀ m, gStrS [y] m = .ok (.str (tx l)) m) →
        FHas Q0 ((sSeq (sSet 3 GE) (sSeq (sIf (mB (FL.m2 gNe (FL.m2 gIx (mVar 1) (mC (.int 0))) (mC (.str ("list" : Str))))) (sSeq (sPar 4 5 (mCons (mArgs gStrS (mCons (FL.m2 gIx (mVar 1) (mC (.int 1))) mNil)) (mCons (mC (.int 3)) mNil))) sNext) (sSeq (sIf (mB (FL.m2 gLt (mCall ((G.fns cl (N + n + 2)) 19) (mCons (FL.m2 gIx (FL.m2 gIx (FL.m2 gIx (mVar 1) (mC (.int 1))) (mC (.int 0))) (mC (.int 1))) mNil)) (mC (.int 3)))) (sSeq (sSet 5 (mCall ((G.fns cl (N + n + 2)) 19) (mCons (FL.m2 gIx (FL.m2 gIx (FL.m2 gIx (mVar 1) (mC (.int 1))) (mC (.int 0))) (mC (.int 1))) mNil))) (sSeq (sSet 6 (mCall ((G.fns cl (N + n + 2)) 20) (mCons (mVar 0) (mCons (FL.m2 gIx (FL.m2 gIx (mVar 1) (mC (.int 1))) (mC (.int 1))) (mCons (mVar 5) mNil))))) (sSeq (sSet 4 (FL.m2 gAdd (FL.m2 gAdd (FL.m2 gAdd (FL.m2 gAdd (mVar 6) (mVar 3)) (FL.m2 gIx (FL.m2 gIx (FL.m2 gIx (mVar 1) (mC (.int 1))) (mC (.int 0))) (mC (.int 1)))) (mVar 3)) (mCall ((G.fns cl (N + n + 2)) 20) (mCons (mVar 0) (mCons (FL.m2 gIx (FL.m2 gIx (mVar 1) (mC (.int 1))) (mC (.int 2))) (mCons (FL.m2 gAdd (mVar 5) (mC (.int 1))) mNil)))))) sNext))) (sSeq (sPar 4 5 (mCons (FL.m2 gAdd (FL.m2 gAdd (FL.m2 gAdd (FL.m2 gIx (FL.m2 gIx (FL.m2 gIx (mVar 1) (mC (.int 1))) (mC (.int 0))) (mC (.int 1))) (mC (.str ("(" : Str)))) (mJoin (FL.m2 gAdd (mC (.str ("," : Str))) (mVar 3)) (mComp (iSeq (mSl (FL.m2 gIx (mVar 1) (mC (.int 1))) (mOpt (mC (.int 1))) mNo)) [7] (tgN 7) cYes (mCall ((G.fns cl (N + n + 2)) 20) (mCons (mVar 0) (mCons (mVar 7) (mCons (mC (.int 0)) mNil))))))) (mC (.str (")" : Str)))) (mCons (mC (.int 3)) mNil))) sNext)) sNext)) (sSeq (sRet EE) sNext))) [some (.ref 0), some t.d, some (.int (k : Int)), none, none, none, none, none] m) := fun l hl hs hll htn hp _ y hy hs2 => by
      obtain ⟨bb, m2, v2, _, hb2, he⟩ := en m1 h1 3 l (by omega) (some (.str (tx (bl g)))) none none
      have hb2 := hb2 (.inr hl)
      rw [decide_eq_false (show ¬ 3 < k by omega)] at hb2
      subst hb2
      have lv := leave_same (d := .str (tx l)) (v1.trans v2).len
      have fin : PT ds b m (n + 1) k t (.str (tx l)) m2 := ⟨l, rfl, hs.lowTo hk3 (Nat.le_refl _), by omega, v1.trans v2, fun _ => hp.symm⟩
      rw [show ((3 : Nat) : Int) = 3 from rfl] at he
      simp only [par, Bool.false_eq_true, if_false] at he
      generalize tg t = tt at *
      generalize t.d = td at *
      simp -dsimp -implicitDefEqProofs [ge, hx0, hl, hy, hs2, he]
      subst Q0
      simp -dsimp -implicitDefEqProofs [lv]
      exact ⟨_, _, rfl, fin⟩
    cases ht with
    | word s hs => exact leaf (cd s) (by simp [tg]) (sg_word _ hs) (wl_len s hs) rfl rfl (fun _ _ => trivial) _ (wd_ix s) (strS_word s)
    | num i hi => exact leaf (cd (toString i)) (by simp [tg]) (sg_num _ hi) (nl_len i hi) rfl rfl (fun _ _ => trivial) _ (nm_ix i) (strS_num hi)
    | op w t1 t2 hw h1' h2' =>
      clear leaf
      obtain ⟨o, c, q1, q2, q3, q4⟩ := ops_lv w hw
      simp only [tg] at hx0
      simp only [T.dp, T.dps] at hd
      have hnn := hn
      simp only [T.n, T.ns] at hnn
      have hx1 := fun m => ls_ix [.word w, t1, t2] m
      have hds : T.ds [.word w, t1, t2] = [(T.word w).d, t1.d, t2.d] := rfl
      simp only [hds] at hx1
      have hx3 := fun m => wd_ix w m
      have hlv := fun m => law_level (cl := cl) (N + n + 1) w m
      simp only [q1, Option.getD_some] at hlv
      have ho3 : (o : Int) < 3 := by omega
      have i1 := ih t1 o m1 (by omega) h1' (by omega) (by omega) h1
      have i2 := fun m' h' => ih t2 (o + 1) m' (by omega) h2' (by omega) (by omega) h'
      have e1 : ((o + 1 : Nat) : Int) = (o : Int) + 1 := by omega
      simp only [e1] at i2
      generalize htd : (T.list [.word w, t1, t2]).d = td at *
      generalize (T.word w).d = wd at *
      generalize t1.d = d1 at *
      generalize t2.d = d2 at *
      simp -dsimp -implicitDefEqProofs [ge, hx0, hx1, hx3, hlv, ho3]
      refine i1.ok fun dd m2 ⟨l1, hdd, s1, n1, v2, p1⟩ => ?_
      subst hdd
      have h2 := h1.ev v2
      have a1 := fun m => UR.g_add (a := l1) (b := bl g) (by simp [bl]; omega) m
      have a2 := fun m => ad (l1 ++ bl g) w (l := [c]) q3 (by simp [bl]; omega) m
      have a3 := fun m => UR.g_add (a := l1 ++ bl g ++ [c]) (b := bl g) (by simp [bl]; omega) m
      have eT : ∀ l2, l1 ++ bl g ++ [c] ++ bl g ++ l2 = opT (cd w) g l1 l2 := fun l2 => by simp [opT, q3]
      generalize hX3 : l1 ++ bl g ++ [c] ++ bl g = X3 at *
      generalize l1 ++ bl g ++ [c] = X2 at *
      generalize l1 ++ bl g = X1 at *
      simp -dsimp -implicitDefEqProofs [hx1, hx3, a1, a2, a3]
      refine (i2 m2 h2).ok fun dd m3 ⟨l2, hdd, s2, n2, v3, p2⟩ => ?_
      subst hdd
      have h3 := h2.ev v3
      have eT := eT l2
      have hTl : (opT (cd w) g l1 l2).length ≤ l1.length + l2.length + 5 := by simp [opT, q3, bl]; omega
      have a4 := UR.g_add (a := X3) (b := l2) (by rw [← List.length_append, eT]; omega) m3
      rw [eT] at a4
      obtain ⟨bb, m4, v4, hb1, hb2, he⟩ := en m3 h3 o (opT (cd w) g l1 l2) (by omega) (some (.str (tx (bl g)))) (some (.str (tx l1))) none
      have vv := ((v1.trans v2).trans v3).trans v4
      have hpl := par_len bb (opT (cd w) g l1 l2)
      have fin : PT ds b m (n + 1) k (.list [.word w, t1, t2]) (.str (tx (par bb (opT (cd w) g l1 l2)))) m4 := ⟨_, rfl, (sg_op bb q2 q4 q3 (by omega) s1 s2 hk3 hb1).mono, by simp only [T.n, T.ns]; omega, vv, fun hb => by
        rw [prt_op n t1 t2 k q1, p1 hb, p2 hb, gf hb, hb2 (.inl hb)]⟩
      have lv := leave_same (d := .str (tx (par bb (opT (cd w) g l1 l2)))) vv.len
      generalize par bb (opT (cd w) g l1 l2) = PP at *
      generalize opT (cd w) g l1 l2 = TT at *
      simp -dsimp -implicitDefEqProofs [a4, he]
      subst Q0
      simp -dsimp -implicitDefEqProofs [lv]
      exact ⟨_, _, rfl, fin⟩
    | call s ts hs hall =>
      clear leaf
      simp only [tg] at hx0
      have hsl := wl_lv s hs
      have hx1 := fun m => ls_ix (.word s :: ts) m
      have hds : T.ds (.word s :: ts) = (T.word s).d :: ts.map T.d := by rw [ds_map]; rfl
      simp only [hds] at hx1
      have hx3 := fun m => wd_ix s m
      have hlv := fun m => law_level (cl := cl) (N + n + 1) s m
      simp only [hsl, Option.getD_none] at hlv
      rw [show ((3 : Nat) : Int) = 3 from rfl] at hlv
      simp only [T.dp, T.dps] at hd
      have hnn := hn
      simp only [T.n, T.ns] at hnn
      have hll := len_ns ts
      have hw3 := wl_len s hs
      have a1 := fun m => ad (cd s) "(" (l := [40]) (by decide +kernel) (by simp; omega) m
      simp only [← ofs_tx] at a1
      have a0 := fun m => da (bl g) "," (l := [44]) (by decide +kernel) (by simp [bl]; omega) m
      have ec : [44] ++ bl g = 44 :: bl g := rfl
      simp only [ec] at a0
      generalize htd : (T.list (.word s :: ts)).d = td at *
      generalize (T.word s).d = wd at *
      simp -dsimp -implicitDefEqProofs [ge, hx0, hx1, hx3, hlv, a1, a0]
      refine comp_has (fun r ys m' => ∃ (us rs : List T) (ls : List (List Nat)), ts = us ++ rs ∧ r = rs.map T.d ∧ ys = (ls.map fun l => D.str (tx l)) ∧ ls.length = us.length ∧ (∀ (i : Nat) (l : List Nat) (t : T), ls[i]? = some l → us[i]? = some t → Sg (2 * n) 0 l t) ∧ (ls.map (·.length)).sum + 5 * ls.length ≤ 20 * T.ns us ∧ (b = false → ls = us.map fun t => prt n t 0) ∧ Ev 0 ds (exM b) m m') ?_ ?_ ⟨[], ts, [], rfl, rfl, rfl, rfl, fun i l t e => by simp at e, by simp, by simp, v1⟩
      · rintro d r ys m' ⟨us, rs, ls, e1, e2, rfl, e3, e4, e5, e6, v⟩
        cases rs with
        | nil => simp at e2
        | cons t rs =>
          obtain ⟨rfl, rfl⟩ : d = t.d ∧ r = rs.map T.d := by simpa using e2
          have htm : t ∈ ts := by rw [e1]; simp
          refine ⟨rfl, _, rfl, ?_⟩
          simp -dsimp -implicitDefEqProofs []
          have hi := ih t 0 m' (by have := mem_dp htm; omega) (hall t htm) (by have := mem_n htm; omega) (by omega) (h.ev v)
          rw [show ((0 : Nat) : Int) = 0 from rfl] at hi
          refine hi.ok fun d m3 ⟨l, hd, g1, g2, g3, g4⟩ => ?_
          subst hd
          simp -dsimp -implicitDefEqProofs
          refine ⟨us ++ [t], rs, by rw [e1]; simp, rfl, ls ++ [l], by simp, by simp [e3], fun i l' t' f1 f2 => ?_, by rw [ns_app]; simp [T.ns]; omega, fun hb => by simp [e6 hb, g4 hb], v.trans g3⟩
          by_cases hi : i < ls.length
          · rw [List.getElem?_append_left hi] at f1
            rw [List.getElem?_append_left (by omega)] at f2
            exact e4 i l' t' f1 f2
          · have : i = ls.length := by
              have := (List.getElem?_eq_some_iff.mp f1).1
              simp at this; omega
            subst this
            rw [List.getElem?_append_right (by omega)] at f1
            rw [e3, List.getElem?_append_right (by omega)] at f2
            simp at f1 f2
            subst f1 f2
            exact g1
      · rintro ys m' ⟨us, rs, ls, e1, e2, rfl, e3, e4, e5, e6, v⟩
        have hr : rs = [] := by cases rs with | nil => rfl | cons t l => simp at e2
        subst hr
        rw [List.append_nil] at e1
        subst e1
        refine ⟨rfl, ?_⟩
        have hjs2 := jg_sum g ls ts 0 e5 hg
        have hsq := seq_tx ls m'
        have hjs := join_jg g ls
        have hsz : ((ls.map tx).map (·.length)).sum + (ls.map tx).length * (tx (44 :: bl g)).length ≤ 16777216 := by
          have e : (ls.map tx).map (·.length) = ls.map (·.length) := by rw [List.map_map]; exact List.map_congr_left fun l _ => tx_len l
          rw [e, List.length_map, tx_len, show (44 :: bl g).length = g + 1 by simp [bl]]
          have : ls.length * (g + 1) ≤ ls.length * 3 := Nat.mul_le_mul_left _ (by omega)
          omega
        have a2 := UR.g_add (a := cd s ++ [40]) (b := jg g ls) (by simp; omega) m'
        have a3 := ad (cd s ++ [40] ++ jg g ls) ")" (l := [41]) (by decide +kernel) (by simp; omega) m'
        have ec : cd s ++ [40] ++ jg g ls ++ [41] = callT (cd s) g ls := by simp [callT]
        rw [ec] at a3
        have hcl : (callT (cd s) g ls).length = (cd s).length + (jg g ls).length + 2 := by simp [callT]; omega
        obtain ⟨bb, m4, v4, hb1, hb2, he⟩ := en m' (h.ev v) 3 (callT (cd s) g ls) (by omega) (some (.str (tx (bl g)))) none none
        rw [show ((3 : Nat) : Int) = 3 from rfl] at he
        have vv := v.trans v4
        have hpl := par_len bb (callT (cd s) g ls)
        have hcs : Sg (2 * n + 1) 3 (callT (cd s) g ls) (.list (.word s :: ts)) := .call _ s g ls ts (lwB_ok (wl_lw s hs)) (by omega) e3 e4
        have hps : Sg (2 * (n + 1)) 3 (par bb (callT (cd s) g ls)) (.list (.word s :: ts)) := by
          cases bb with
          | true => exact .brk (2 * n + 1) _ _ (hcs.lowTo (Nat.zero_le _) (Nat.le_refl _))
          | false => exact hcs.mono
        have fin : PT ds b m (n + 1) k (.list (.word s :: ts)) (.str (tx (par bb (callT (cd s) g ls)))) m4 := ⟨_, rfl, hps.lowTo hk3 (Nat.le_refl _), by simp only [T.n, T.ns]; omega, vv, fun hb => by
          have hb3 := hb2 (.inl hb)
          rw [decide_eq_false (show ¬ 3 < k by omega)] at hb3
          rw [prt_call n ts k hsl, hb3, e6 hb, gf hb]; rfl⟩
        have lv := leave_same (d := .str (tx (par bb (callT (cd s) g ls)))) vv.len
        generalize par bb (callT (cd s) g ls) = PP at *
        generalize callT (cd s) g ls = TT at *
        generalize cd s ++ [40] ++ jg g ls = Y2 at *
        generalize cd s ++ [40] = Y1 at *
        generalize ls.map tx = PTX at *
        generalize (ls.map fun l => D.str (tx l)) = LL at *
        generalize tx (jg g ls) = J at *
        generalize tx (44 :: bl g) = CO at *
        simp -dsimp -implicitDefEqProofs [hsq, hsz, hjs, a2, a3, he]
        subst Q0
        simp -dsimp -implicitDefEqProofs [lv]
        exact ⟨_, _, rfl, fin⟩
/-! ### fuel does not matter -/
theorem prt_fuel : ∀ (n : Nat) (t : T) (k : Nat), t.dp < n → Dt t → prt (n + 1) t k = prt n t k := by
  intro n
  induction n with
  | zero => intro t k h; omega
  | succ n ih =>
    intro t k hd ht
    cases ht with
    | word s hs => rfl
    | num i hi => rfl
    | op w t1 t2 hw h1 h2 =>
      obtain ⟨o, c, q1, q2, q3, q4⟩ := ops_lv w hw
      simp only [T.dp, T.dps] at hd
      rw [prt_op (n + 1) t1 t2 k q1, prt_op n t1 t2 k q1, ih t1 o (by omega) h1, ih t2 (o + 1) (by omega) h2]
    | call s ts hs hall =>
      have hsl := wl_lv s hs
      simp only [T.dp, T.dps] at hd
      rw [prt_call (n + 1) ts k hsl, prt_call n ts k hsl]
      congr 1
      exact List.map_congr_left fun t ht => ih t 0 (by have := mem_dp ht; omega) (hall t ht)
theorem prt_add (n : Nat) (t : T) (k : Nat) (h : t.dp < n) (ht : Dt t) : ∀ e, prt (n + e) t k = prt n t k
  | 0 => rfl
  | e + 1 => by rw [← Nat.add_assoc, prt_fuel (n + e) t k (by omega) ht, prt_add n t k h ht e]
end K53

set_option maxRecDepth 100000
namespace K53
open PySem PySem.Spec PyProof.Rows L2 FL U63 UR
variable {cl : Nat → Addr}

/-! ### is_sums, and the law's own -/
theorem fns10 (n : Nat) : G.fns cl (n + 1) 10 = runDef 2 1 (G.b10 cl (G.fns cl n)) := rfl
theorem fns11 (n : Nat) : G.fns cl (n + 1) 11 = runDef 2 1 (G.b11 cl (G.fns cl n)) := rfl
theorem fns21 (n : Nat) : G.fns cl (n + 1) 21 = runDef 4 1 (G.b21 cl (G.fns cl n)) := rfl
theorem txtL_tx (l : List Nat) : txtL (tx l) = l.map fun c => D.str (tx [c]) := by
  unfold txtL; rw [tx_list]; rfl
theorem alls {α : Type} (l : List α) (p : α → Bool) (m : Me) : gAll [.lst (l.map fun x => D.bl (p x))] m = .ok (.bl (l.all p)) m := by
  have h1 : ∀ l : List α, blsD (l.map fun x => D.bl (p x)) = some (l.map p) := fun l => by
    induction l with
    | nil => rfl
    | cons a l ih => simp [blsD, ih]
  unfold gAll
  have e : lstV m (.lst (l.map fun x => D.bl (p x))) = some (l.map fun x => D.bl (p x)) := rfl
  simp only [e, Option.bind_some, h1]
  simp [List.all_map]
  try rfl
theorem not_all {α : Type} (p : α → Bool) (l : List α) : (l.filter fun c => !(p c)).isEmpty = l.all p := by
  induction l with
  | nil => rfl
  | cons a l ih =>
    rw [List.filter_cons, List.all_cons]
    cases p a <;> simp [ih]
def iswL : List Nat → Bool
  | [] => false
  | c :: r => decide (c ∈ LTR) && (c :: r).all fun x => decide (x ∈ WCH)
def BW : List String := ["a", "b", "if?", "x1", "f", "c", "g!", "+", "-", "*", "<", "=", "a-b", "_", "..."]
theorem bw_ok : ∀ s ∈ BW, cd s ≠ [] ∧ (cd s).length ≤ 3 ∧ ASC (cd s) := by decide +kernel
theorem letters_ok (n : Nat) {l : List Nat} (h0 : l ≠ []) (hl : l.length ≤ 3) (m : Me) : G.fns cl (n + 1) 10 [.str (tx l)] m = .ok (.bl (iswL l)) m := by
  rw [fns10]
  refine has_eq (has_def' [some (.str (tx l)), none] ?_)
  unfold G.b10
  obtain ⟨c, r, e⟩ := cons_of h0
  have gx : gIx (.str (tx l)) (.int 0) m = .ok (.str (tx [c])) m := g_ix (by omega) (i := 0) (c := c) (by rw [e]; rfl) m
  have gd := inL false c m
  have hxl : (tx l).length < 1000000 := by rw [tx_len]; omega
  have htl := txtL_tx l
  have hin := fun c m => g_inS false c WCH m
  have ga := alls l (fun x => decide (x ∈ WCH)) m
  have ei : iswL l = (decide (c ∈ LTR) && l.all fun x => decide (x ∈ WCH)) := by rw [e]; rfl
  rw [ei]
  generalize hQ0 : (kD _ _ : Fl → Prop) = Q0
  by_cases hc : c ∈ LTR
  · rw [decide_eq_true hc] at gd hQ0
    simp only [Bool.true_and] at hQ0
    generalize (l.all fun x => decide (x ∈ WCH)) = bb at *
    simp -dsimp -implicitDefEqProofs [gx, gd, iTxt, hxl, htl]
    refine comp_all (fun x => D.bl (decide (x ∈ WCH))) (fun x hx => ⟨_, rfl, rfl, ?_⟩) ?_
    · have := hin x m
      simp -dsimp -implicitDefEqProofs [ad1, ad2, this]
    subst Q0
    simp -dsimp -implicitDefEqProofs [ga, leave_same]
  · rw [decide_eq_false hc] at gd hQ0
    simp only [Bool.false_and] at hQ0
    subst Q0
    simp -dsimp -implicitDefEqProofs [gx, gd, leave_same]
mutual
def Okw : T → Prop
  | .word s => s ∈ BW
  | .num _ => True
  | .list ts => Okws ts
def Okws : List T → Prop
  | [] => True
  | t :: ts => Okw t ∧ Okws ts
end
theorem okws_iff {ts : List T} : Okws ts ↔ ∀ t ∈ ts, Okw t := by
  induction ts with
  | nil => simp [Okws]
  | cons a l ih => simp [Okws, ih]
def smF : Nat → T → Bool
  | 0, _ => false
  | _ + 1, .word s => iswL (cd s)
  | _ + 1, .num _ => true
  | n + 1, .list ts => if (lvT (.list ts)).isSome then (ts.drop 1).all (smF n) else (match ts with | [] => false | t :: _ => decide (tg t = "word")) && ts.all (smF n)
theorem smF_op (n : Nat) {ts : List T} {o : Nat} (h : lvT (.list ts) = some o) : smF (n + 1) (.list ts) = (ts.drop 1).all (smF n) := by
  simp only [smF, h, Option.isSome_some, if_true]
theorem smF_nil (n : Nat) : smF (n + 1) (.list []) = false := rfl
theorem smF_cons (n : Nat) {t : T} {ts : List T} (h : lvT (.list (t :: ts)) = none) : smF (n + 1) (.list (t :: ts)) = (decide (tg t = "word") && (t :: ts).all (smF n)) := by
  simp only [smF, h, Option.isSome_none, Bool.false_eq_true, if_false]
theorem lvT_some {ts : List T} {o : Nat} (h : lvT (.list ts) = some o) : ∃ w t1 t2, ts = [.word w, t1, t2] ∧ lvW w = some o := by
  unfold lvT at h
  split at h
  · rename_i s a b e
    injection e with e; subst e; exact ⟨s, a, b, rfl, h⟩
  · simp at h
theorem ne_tnil {ts : List T} (h : ∀ t ∈ ts, t.dp ≤ 20) (m : Me) : gNe (.tup (T.ds ts)) (.tup []) m = .ok (.bl (!ts.isEmpty)) m := by
  have h1 : nbL (T.ds ts) = true := nbL_iff.mpr fun x hx => by rw [ds_map] at hx; obtain ⟨t, _, rfl⟩ := List.mem_map.mp hx; exact d_nb t
  have h2 : dpL (T.ds ts) ≤ 50 := dpL_le.mpr fun x hx => by rw [ds_map] at hx; obtain ⟨t, ht, rfl⟩ := List.mem_map.mp hx; have := d_dp t; have := h t ht; omega
  rw [gNe_nb m (by simpa [nb] using h1) (by simp [nb, nbL]) (by simp only [dpD]; omega) (by simp [dpD, dpL])]
  cases ts with
  | nil => rw [show T.ds [] = [] from rfl, eqc_self]; rfl
  | cons t l => rw [eqc_ne (by simp [T.ds])]; rfl
theorem issums_ok : ∀ (n : Nat) (t : T) (m : Me), t.dp < n → n ≤ 20 → Okw t → t.n ≤ 900 → ∀ N, G.fns cl (N + n + 1) 11 [t.d] m = .ok (.bl (smF n t)) m := by
  intro n
  induction n with
  | zero => intro t m h; omega
  | succ n ih =>
    intro t m hd h20 ho hn N
    rw [show N + (n + 1) + 1 = (N + n + 1) + 1 by omega, fns11]
    refine has_eq (has_def' [some t.d, none] ?_)
    unfold G.b11
    have hx0 := tg_ix t m
    have hlv := level_ok (cl := cl) (N + n) t hn m
    generalize hQ0 : (kD _ _ : Fl → Prop) = Q0
    cases t with
    | word s =>
      simp only [tg] at hx0
      have hx1 := wd_ix s m
      obtain ⟨b1, b2, b3⟩ := bw_ok s ho
      have hl := letters_ok (cl := cl) (N + n) b1 b2 m
      rw [ofs_tx] at hx1
      simp only [smF] at hQ0
      generalize (T.word s).d = td at *
      subst Q0
      simp -dsimp -implicitDefEqProofs [hx0, hx1, hl, leave_same]
    | num i =>
      simp only [tg] at hx0
      simp only [smF] at hQ0
      generalize (T.num i).d = td at *
      subst Q0
      simp -dsimp -implicitDefEqProofs [hx0, leave_same]
    | list ts =>
      simp only [tg] at hx0
      have hx1 := ls_ix ts m
      simp only [T.dp] at hd
      simp only [T.n] at hn
      have hoo : ∀ t ∈ ts, Okw t := okws_iff.mp ho
      have hih := fun t (ht : t ∈ ts) => ih t m (by have := mem_dp ht; omega) (by omega) (hoo t ht) (by have := mem_n ht; omega) N
      have hne := ne_tnil (ts := ts) (fun t ht => by have := mem_dp ht; omega) m
      cases hl : lvT (.list ts) with
      | some o =>
        rw [hl] at hlv
        simp only [optD] at hlv
        obtain ⟨w, t1, t2, rfl, hw⟩ := lvT_some hl
        rw [smF_op n hl] at hQ0
        have hds : T.ds [.word w, t1, t2] = (T.word w).d :: [t1, t2].map T.d := rfl
        rw [hds] at hx1
        have ga := alls [t1, t2] (smF n) m
        have hnn : gNotN (.int (o : Int)) .non m = .ok (.bl true) m := by simp [gNotN]
        generalize (T.list [.word w, t1, t2]).d = td at *
        generalize (T.word w).d = wd at *
        simp -dsimp -implicitDefEqProofs [hx0, hx1, hlv, hnn]
        refine comp_all (xs := [t1, t2]) (fun t => D.bl (smF n t)) (fun t ht => ⟨_, rfl, rfl, ?_⟩) ?_
        · have := hih t (by simp at ht ⊢; rcases ht with rfl | rfl <;> simp)
          simp -dsimp -implicitDefEqProofs [this]
        simp only [List.drop_succ_cons, List.drop_zero] at hQ0
        generalize [t1, t2].map (fun t => D.bl (smF n t)) = LL at *
        subst Q0
        simp -dsimp -implicitDefEqProofs [ga, leave_same]
      | none =>
        rw [hl] at hlv
        simp only [optD] at hlv
        have hnn : gNotN .non .non m = .ok (.bl false) m := by simp [gNotN]
        cases ts with
        | nil =>
          rw [smF_nil] at hQ0
          generalize (T.list []).d = td at *
          generalize T.ds [] = X at *
          subst Q0
          simp -dsimp -implicitDefEqProofs [hx0, hx1, hlv, hnn, hne, leave_same]
        | cons t ts =>
          rw [smF_cons n hl] at hQ0
          have hx2 := tg_ix t m
          have hds : T.ds (t :: ts) = t.d :: ts.map T.d := by rw [ds_map]; rfl
          have hds2 : t.d :: ts.map T.d = (t :: ts).map T.d := rfl
          rw [hds] at hx1 hne
          have ga := alls (t :: ts) (smF n) m
          simp only [List.isEmpty_cons, Bool.not_false] at hne
          have hx3 : gIx (.tup (t.d :: ts.map T.d)) (.int 0) m = .ok t.d m := by simp
          rw [hds2] at hx1 hne hx3
          generalize hTS : t :: ts = TS at *
          generalize (T.list TS).d = td at *
          generalize tg t = tt at *
          generalize t.d = d0 at *
          by_cases hw : tt = "word"
          · subst hw
            rw [decide_eq_true rfl] at hQ0
            simp only [Bool.true_and] at hQ0
            simp -dsimp -implicitDefEqProofs [hx0, hx1, hlv, hnn, hne, hx2, hx3]
            refine comp_all (xs := TS) (fun t => D.bl (smF n t)) (fun t ht => ⟨_, rfl, rfl, ?_⟩) ?_
            · have := hih t ht
              simp -dsimp -implicitDefEqProofs [this]
            generalize TS.map (fun t => D.bl (smF n t)) = LL at *
            subst Q0
            simp -dsimp -implicitDefEqProofs [ga, leave_same]
          · rw [decide_eq_false hw] at hQ0
            simp only [Bool.false_and] at hQ0
            subst Q0
            simp -dsimp -implicitDefEqProofs [hx0, hx1, hlv, hnn, hne, hx2, hx3, hw, leave_same]
theorem lsums_ok : ∀ (n : Nat) (t : T) (m : Me), t.dp < n → n ≤ 20 → Okw t → t.n ≤ 900 → ∀ N, G.fns cl (N + n + 1) 21 [t.d] m = .ok (.bl (smF n t)) m := by
  intro n
  induction n with
  | zero => intro t m h; omega
  | succ n ih =>
    intro t m hd h20 ho hn N
    rw [show N + (n + 1) + 1 = (N + n + 1) + 1 by omega, fns21]
    refine has_eq (has_def' [some t.d, none, none, none] ?_)
    unfold G.b21
    have hx0 := tg_ix t m
    generalize hQ0 : (kD _ _ : Fl → Prop) = Q0
    cases t with
    | word s =>
      simp only [tg] at hx0
      have hx1 := wd_ix s m
      obtain ⟨b1, b2, b3⟩ := bw_ok s ho
      rw [ofs_tx] at hx1
      simp only [smF] at hQ0
      generalize cd s = l at *
      obtain ⟨c, r, e⟩ := cons_of b1
      have gx : gIx (.str (tx l)) (.int 0) m = .ok (.str (tx [c])) m := g_ix (by omega) (i := 0) (c := c) (by rw [e]; rfl) m
      have gd := inL false c m
      have hxl : (tx l).length < 1000000 := by rw [tx_len]; omega
      have htl := txtL_tx l
      have ei : iswL l = (decide (c ∈ LTR) && l.all fun x => decide (x ∈ WCH)) := by rw [e]; rfl
      have hin : ∀ (c : Nat) m, gInS true (.str (tx [c])) (.str (Str.ofString "abcdefghijklmnopqrstuvwxyz0123456789?!")) m = .ok (.bl (!decide (c ∈ WCH))) m := fun c m => by
        rw [ofs_tx, show cd "abcdefghijklmnopqrstuvwxyz0123456789?!" = WCH by decide +kernel]; exact g_inS true c WCH m
      have hnl : gEq (.lst ((l.filter fun c => !decide (c ∈ WCH)).map fun c => D.str (tx [c]))) (.lst []) m = .ok (.bl (l.all fun x => decide (x ∈ WCH))) m := by
        rw [gEq_lnil m (nbL_iff.mpr fun x hx => by
          obtain ⟨c, hc, rfl⟩ := List.mem_map.mp hx
          have := b3 c (List.mem_filter.mp hc).1
          simp [nb, strOk_tx (one_asc this)]) (dpL_le.mpr fun x hx => by obtain ⟨c, _, rfl⟩ := List.mem_map.mp hx; simp [dpD])]
        rw [List.isEmpty_map, not_all]
      rw [ei] at hQ0
      generalize (T.word s).d = td at *
      by_cases hc : c ∈ LTR
      · rw [decide_eq_true hc] at gd hQ0
        simp only [Bool.true_and] at hQ0
        generalize (l.all fun x => decide (x ∈ WCH)) = bb at *
        simp -dsimp -implicitDefEqProofs [hx0, hx1, gx, gd, iTxt, hxl, htl]
        refine comp_map (fun c => !decide (c ∈ WCH)) (fun c => D.str (tx [c])) (fun c hc => ⟨_, rfl, ?_, fun _ => by simp⟩) ?_
        · exact has_eq (by simp -dsimp -implicitDefEqProofs [hin])
        generalize (l.filter fun c => !decide (c ∈ WCH)).map (fun c => D.str (tx [c])) = LL at *
        subst Q0
        simp -dsimp -implicitDefEqProofs [hnl, leave_same]
      · rw [decide_eq_false hc] at gd hQ0
        simp only [Bool.false_and] at hQ0
        subst Q0
        simp -dsimp -implicitDefEqProofs [hx0, hx1, gx, gd, leave_same]
    | num i =>
      simp only [tg] at hx0
      simp only [smF] at hQ0
      generalize (T.num i).d = td at *
      subst Q0
      simp -dsimp -implicitDefEqProofs [hx0, leave_same]
    | list ts =>
      simp only [tg] at hx0
      have hx1 := ls_ix ts m
      simp only [T.dp] at hd
      simp only [T.n] at hn
      have hoo : ∀ t ∈ ts, Okw t := okws_iff.mp ho
      have hih := fun t (ht : t ∈ ts) => ih t m (by have := mem_dp ht; omega) (by omega) (hoo t ht) (by have := mem_n ht; omega) N
      have hne := ne_tnil (ts := ts) (fun t ht => by have := mem_dp ht; omega) m
      have hlen := ds_len ts
      have hll := len_ns ts
      have hgl : ∀ m, gLen [.tup (T.ds ts)] m = .ok (.int (ts.length : Nat)) m := fun m => by rw [FL.gLen_tup, ds_len]
      -- the last row, where no sign stands first
      have tail : lvT (.list ts) = none → FHas Q0 ((sSeq (sRet (mAndV (FL.m2 gNe (mVar 1) (mTup mNil)) (mAndV (FL.m2 gEq (FL.m2 gIx (FL.m2 gIx (mVar 1) (mC (.int 0))) (mC (.int 0))) (mC (.str ("word" : Str)))) (FL.m2 gEq (mComp (iSeq (mVar 1)) [2] (tgN 2) (mNot (mB (mCall (G.fns cl (N + n + 1) 21) (mCons (mVar 2) mNil)))) (mVar 2)) (mLst mNil))))) sNext) [some (T.list ts).d, some (.tup (T.ds ts)), none, none] m) := fun hl => by
        cases ts with
        | nil =>
          rw [smF_nil] at hQ0
          generalize T.ds [] = X at *
          subst Q0
          simp -dsimp -implicitDefEqProofs [hne, leave_same]
        | cons t ts =>
          rw [smF_cons n hl] at hQ0
          have hx2 := tg_ix t m
          have hds : T.ds (t :: ts) = (t :: ts).map T.d := by rw [ds_map]
          simp only [List.isEmpty_cons, Bool.not_false] at hne
          have hx3 : gIx (.tup (T.ds (t :: ts))) (.int 0) m = .ok t.d m := by simp [T.ds]
          rw [hds] at hne hx3 ⊢
          have hnl : gEq (.lst (((t :: ts).filter fun t => !(smF n t)).map T.d)) (.lst []) m = .ok (.bl ((t :: ts).all (smF n))) m := by
            rw [gEq_lnil m (nbL_iff.mpr fun x hx => by
              obtain ⟨c, hc, rfl⟩ := List.mem_map.mp hx
              exact d_nb c) (dpL_le.mpr fun x hx => by
              obtain ⟨c, hc, rfl⟩ := List.mem_map.mp hx
              have := d_dp c; have := mem_dp (List.mem_filter.mp hc).1; omega)]
            rw [List.isEmpty_map, not_all]
          generalize hTS : t :: ts = TS at *
          generalize (T.list TS).d = td at *
          generalize tg t = tt at *
          generalize t.d = d0 at *
          by_cases hw : tt = "word"
          · subst hw
            rw [decide_eq_true rfl] at hQ0
            simp only [Bool.true_and] at hQ0
            simp -dsimp -implicitDefEqProofs [hne, hx2, hx3]
            refine comp_map (xs := TS) (fun t => !(smF n t)) T.d (fun t ht => ⟨_, rfl, ?_, fun _ => by simp⟩) ?_
            · have := hih t ht
              exact has_eq (by simp -dsimp -implicitDefEqProofs [this])
            generalize (TS.filter fun t => !(smF n t)).map T.d = LL at *
            subst Q0
            simp -dsimp -implicitDefEqProofs [hnl, leave_same]
          · rw [decide_eq_false hw] at hQ0
            simp only [Bool.false_and] at hQ0
            subst Q0
            simp -dsimp -implicitDefEqProofs [hne, hx2, hx3, hw, leave_same]
      by_cases h3 : ts.length = 3
      · obtain ⟨t0, t1, t2, rfl⟩ : ∃ t1 t2 t3, ts = [t1, t2, t3] := by
          match ts, h3 with
          | [a, b, c], _ => exact ⟨a, b, c, rfl⟩
        have hx2 := tg_ix t0 m
        have j0 : ∀ m, gIx (.tup (T.ds [t0, t1, t2])) (.int 0) m = .ok t0.d m := fun m => by simp [T.ds]
        have j1 : ∀ m, gIx (.tup (T.ds [t0, t1, t2])) (.int 1) m = .ok t1.d m := fun m => by simp [T.ds]
        have j2 : ∀ m, gIx (.tup (T.ds [t0, t1, t2])) (.int 2) m = .ok t2.d m := fun m => by simp [T.ds]
        have hl3 : (([t0, t1, t2] : List T).length : Int) = 3 := rfl
        rw [hl3] at hgl
        by_cases hw : ∃ w, t0 = .word w
        · obtain ⟨w, rfl⟩ := hw
          have hx3 := wd_ix w m
          have hlw : lvT (.list [.word w, t1, t2]) = lvW w := rfl
          have hlv := law_level (cl := cl) (N + n) w m
          simp only [tg] at hx2
          cases hl : lvW w with
          | some o =>
            rw [hl] at hlv
            simp only [Option.getD_some] at hlv
            have ho3 : (o : Int) < 3 := by
              unfold lvW at hl
              split at hl
              · simp at hl; omega
              · split at hl
                · simp at hl; omega
                · split at hl
                  · simp at hl; omega
                  · simp at hl
            rw [smF_op n (hlw.trans hl)] at hQ0
            have i1 := hih t1 (by simp)
            have i2 := hih t2 (by simp)
            clear tail
            have ea : ([.word w, t1, t2] : List T).drop 1 = [t1, t2] := rfl
            rw [ea] at hQ0
            have eb : [t1, t2].all (smF n) = (smF n t1 && smF n t2) := by simp
            rw [eb] at hQ0
            generalize T.ds [.word w, t1, t2] = TD at *
            generalize (T.list [.word w, t1, t2]).d = td at *
            generalize (T.word w).d = wd at *
            generalize t1.d = d1 at *
            generalize t2.d = d2 at *
            generalize smF n t1 = s1 at *
            generalize smF n t2 = s2 at *
            subst Q0
            cases s1 <;> simp -dsimp -implicitDefEqProofs [hx0, hx1, hgl, j0, j1, j2, hx2, hx3, hlv, ho3, i1, i2, leave_same]
          | none =>
            have tl := tail (hlw.trans hl)
            rw [hl] at hlv
            simp only [Option.getD_none] at hlv
            rw [show ((3 : Nat) : Int) = 3 from rfl] at hlv
            clear tail
            generalize hR : (sSeq (sRet (mAndV (FL.m2 gNe (mVar 1) (mTup mNil)) _)) sNext) = R at *
            generalize T.ds [.word w, t1, t2] = TD at *
            generalize (T.list [.word w, t1, t2]).d = td at *
            generalize (T.word w).d = wd at *
            simp -dsimp -implicitDefEqProofs [hx0, hx1, hgl, j0, hx2, hx3, hlv]
            exact tl
        · have hnw : tg t0 ≠ "word" := by
            cases t0 with
            | word w => exact absurd ⟨w, rfl⟩ hw
            | num i => simp [tg]
            | list l => simp [tg]
          have tl := tail (by
            unfold lvT
            split
            · rename_i s a b e
              injection e with e
              exact absurd ⟨s, (List.cons.inj e).1⟩ hw
            · rfl)
          clear tail
          generalize hR : (sSeq (sRet (mAndV (FL.m2 gNe (mVar 1) (mTup mNil)) _)) sNext) = R at *
          generalize T.ds [t0, t1, t2] = TD at *
          generalize (T.list [t0, t1, t2]).d = td at *
          generalize tg t0 = tt at *
          generalize t0.d = d0 at *
          simp -dsimp -implicitDefEqProofs [hx0, hx1, hgl, j0, hx2, hnw]
          exact tl
      · have tl := tail (by
          unfold lvT
          split
          · rename_i s a b e
            injection e with e; subst e; simp at h3
          · rfl)
        have h3' : ¬ (ts.length : Int) = 3 := by omega
        clear tail
        generalize hR : (sSeq (sRet (mAndV (FL.m2 gNe (mVar 1) (mTup mNil)) _)) sNext) = R at *
        generalize T.ds ts = TD at *
        generalize (T.list ts).d = td at *
        simp -dsimp -implicitDefEqProofs [hx0, hx1, hgl, h3, h3']
        exact tl
end K53

set_option maxRecDepth 100000
namespace K53
open PySem PySem.Spec PyProof.Rows L2 FL U63 UR
variable {cl : Nat → Addr} {ds : List Int} {b : Bool}

/-! ### what is drawn -/
theorem fns18 (n : Nat) : G.fns cl (n + 1) 18 = runDef 5 2 (G.b18 cl (G.fns cl n)) := rfl
theorem fns22 (n : Nat) : G.fns cl (n + 1) 22 = runDef 3 2 (G.b22 cl (G.fns cl n)) := rfl
def gB : Nat → Nat
  | 0 => 1
  | d + 1 => 3 * gB d + 2
theorem gB_pos (d : Nat) : 1 ≤ gB d := by cases d <;> simp [gB]
structure DT (dep : Nat) (t : T) : Prop where
  w : Dt t
  dp : t.dp ≤ dep
  n : t.n ≤ gB dep
def PG (ds : List Int) (b : Bool) (m : Me) (dep : Nat) (d : D) (m' : Me) : Prop := ∃ t : T, d = t.d ∧ DT dep t ∧ Ev 0 ds (exM b) m m'
theorem dps_le' {ts : List T} {d : Nat} (h : ∀ t ∈ ts, t.dp ≤ d) : T.dps ts ≤ d := by
  induction ts with
  | nil => simp [T.dps]
  | cons t l ih => simp only [T.dps]; have := h t List.mem_cons_self; have := ih fun t ht => h t (List.mem_cons_of_mem _ ht); omega
theorem ns_le {ts : List T} {b : Nat} (h : ∀ t ∈ ts, t.n ≤ b) : T.ns ts ≤ ts.length * b := by
  induction ts with
  | nil => simp [T.ns]
  | cons a l ih => have h1 := h a (by simp); have := ih fun t ht => h t (by simp [ht]); simp only [T.ns, List.length_cons, Nat.succ_mul]; omega
theorem word_pick {d : D} (hd : d ∈ [D.str (Str.ofString "a"), .str (Str.ofString "b"), .str (Str.ofString "if?"), .str (Str.ofString "x1"), .str (Str.ofString "f")]) : ∃ s ∈ WL, d = .str (Str.ofString s) := by
  simp only [List.mem_cons, List.not_mem_nil, or_false] at hd
  rcases hd with rfl | rfl | rfl | rfl | rfl <;> exact ⟨_, by decide, rfl⟩
theorem num_pick {d : D} (hd : d ∈ [D.int 0, .int 1, .int 42, .int (-1), .int (-30)]) : ∃ i ∈ NL, d = .int i := by
  simp only [List.mem_cons, List.not_mem_nil, or_false] at hd
  rcases hd with rfl | rfl | rfl | rfl | rfl <;> exact ⟨_, by decide, rfl⟩
theorem head_pick {d : D} (hd : d ∈ [D.str (Str.ofString "f"), .str (Str.ofString "g!")]) : ∃ s ∈ WL, d = .str (Str.ofString s) := by
  simp only [List.mem_cons, List.not_mem_nil, or_false] at hd
  rcases hd with rfl | rfl <;> exact ⟨_, by decide, rfl⟩
theorem op_pick {d : D} (hd : d ∈ [D.str (Str.ofString "+"), .str (Str.ofString "-"), .str (Str.ofString "*"), .str (Str.ofString "<"), .str (Str.ofString "="), .str (Str.ofString "*"), .str (Str.ofString "+")]) : ∃ s ∈ OPS, d = .str (Str.ofString s) := by
  simp only [List.mem_cons, List.not_mem_nil, or_false] at hd
  rcases hd with rfl | rfl | rfl | rfl | rfl | rfl | rfl <;> exact ⟨_, by decide, rfl⟩
theorem sum_has : ∀ (dep n : Nat) (m : Me), Wt 0 ds (exM b) m → RHas (OkR (PG ds b m dep)) (G.fns cl (n + dep + 3) 18 [.ref 0, .int (dep : Nat)] m) := by
  intro dep
  induction dep with
  | zero =>
    intro n m h
    rw [show n + 0 + 3 = (n + 2) + 1 by omega, fns18]
    refine has_def' [some (.ref 0), some (.int ((0 : Nat) : Int)), none, none, none] ?_
    unfold G.b18
    generalize hQ0 : (kD _ _ : Fl → Prop) = Q0
    simp -dsimp -implicitDefEqProofs
    refine (nxt (n + 1) h (by decide)).ok fun d m1 ⟨v, hv, hd, v1⟩ => ?_
    subst hd
    have h1 := h.ev v1
    by_cases hz : v = 0
    · subst hz
      simp -dsimp -implicitDefEqProofs
      refine (pik n h1 (by simp)).ok fun d m2 ⟨hd, v2⟩ => ?_
      obtain ⟨s, hs, hd⟩ := word_pick hd
      subst hd
      have lv := leave_same (d := .tup [.str (Str.ofString "word"), .str (Str.ofString s)]) (v1.trans v2).len
      have fin : PG ds b m 0 (.tup [.str (Str.ofString "word"), .str (Str.ofString s)]) m2 := ⟨.word s, rfl, ⟨.word s hs, by simp [T.dp], by simp [T.n, gB]⟩, v1.trans v2⟩
      simp -dsimp -implicitDefEqProofs
      subst Q0
      simp -dsimp -implicitDefEqProofs [lv]
      exact ⟨_, _, rfl, fin⟩
    · by_cases hz1 : v = 1
      · subst hz1
        simp -dsimp -implicitDefEqProofs
        refine (pik n h1 (by simp)).ok fun d m2 ⟨hd, v2⟩ => ?_
        obtain ⟨i, hi, hd⟩ := num_pick hd
        subst hd
        have lv := leave_same (d := .tup [.str (Str.ofString "num"), .int i]) (v1.trans v2).len
        have fin : PG ds b m 0 (.tup [.str (Str.ofString "num"), .int i]) m2 := ⟨.num i, rfl, ⟨.num i hi, by simp [T.dp], by simp [T.n, gB]⟩, v1.trans v2⟩
        simp -dsimp -implicitDefEqProofs
        subst Q0
        simp -dsimp -implicitDefEqProofs [lv]
        exact ⟨_, _, rfl, fin⟩
      · have hv2 : v = 2 := by omega
        subst hv2
        have lv := leave_same (d := .tup [.str (Str.ofString "word"), .str (Str.ofString "c")]) v1.len
        have fin : PG ds b m 0 (.tup [.str (Str.ofString "word"), .str (Str.ofString "c")]) m1 := ⟨.word "c", rfl, ⟨.word "c" (by decide), by simp [T.dp], by simp [T.n, gB]⟩, v1⟩
        simp -dsimp -implicitDefEqProofs
        subst Q0
        simp -dsimp -implicitDefEqProofs [lv]
        exact ⟨_, _, rfl, fin⟩
  | succ dep ih =>
    intro n m h
    rw [show n + (dep + 1) + 3 = (n + dep + 3) + 1 by omega, fns18]
    refine has_def' [some (.ref 0), some (.int ((dep + 1 : Nat) : Int)), none, none, none] ?_
    unfold G.b18
    generalize hQ0 : (kD _ _ : Fl → Prop) = Q0
    have z0 : gGt (.int ((dep + 1 : Nat) : Int)) (.int 0) m = .ok (.bl true) m := by
      have : (0 : Int) < ((dep + 1 : Nat) : Int) := by omega
      simp only [gGt_int, decide_eq_true this]
    have z1 : ∀ m, gSub (.int ((dep + 1 : Nat) : Int)) (.int 1) m = .ok (.int (dep : Int)) m := fun m => by
      have : ((dep + 1 : Nat) : Int) - 1 = (dep : Int) := by omega
      simp [this]
    have hgb := gB_pos dep
    generalize hdi : ((dep + 1 : Nat) : Int) = di at *
    simp -dsimp -implicitDefEqProofs [z0]
    refine (nxt (n + dep + 2) h (by decide)).ok fun d m1 ⟨v, hv, hd, v1⟩ => ?_
    subst hd
    have h1 := h.ev v1
    by_cases hz : v = 0
    · subst hz
      simp -dsimp -implicitDefEqProofs
      refine (pik (n + dep + 1) h1 (by simp)).ok fun d m2 ⟨hd, v2⟩ => ?_
      obtain ⟨s, hs, hd⟩ := word_pick hd
      subst hd
      have lv := leave_same (d := .tup [.str (Str.ofString "word"), .str (Str.ofString s)]) (v1.trans v2).len
      have fin : PG ds b m (dep + 1) (.tup [.str (Str.ofString "word"), .str (Str.ofString s)]) m2 := ⟨.word s, rfl, ⟨.word s hs, by simp [T.dp], by simp only [T.n, gB]; omega⟩, v1.trans v2⟩
      simp -dsimp -implicitDefEqProofs
      subst Q0
      simp -dsimp -implicitDefEqProofs [lv]
      exact ⟨_, _, rfl, fin⟩
    · by_cases hz1 : v = 1
      · subst hz1
        simp -dsimp -implicitDefEqProofs
        refine (pik (n + dep + 1) h1 (by simp)).ok fun d m2 ⟨hd, v2⟩ => ?_
        obtain ⟨i, hi, hd⟩ := num_pick hd
        subst hd
        have lv := leave_same (d := .tup [.str (Str.ofString "num"), .int i]) (v1.trans v2).len
        have fin : PG ds b m (dep + 1) (.tup [.str (Str.ofString "num"), .int i]) m2 := ⟨.num i, rfl, ⟨.num i hi, by simp [T.dp], by simp only [T.n, gB]; omega⟩, v1.trans v2⟩
        simp -dsimp -implicitDefEqProofs
        subst Q0
        simp -dsimp -implicitDefEqProofs [lv]
        exact ⟨_, _, rfl, fin⟩
      · by_cases hv2 : v = 2
        · subst hv2
          have lv := leave_same (d := .tup [.str (Str.ofString "word"), .str (Str.ofString "c")]) v1.len
          have fin : PG ds b m (dep + 1) (.tup [.str (Str.ofString "word"), .str (Str.ofString "c")]) m1 := ⟨.word "c", rfl, ⟨.word "c" (by decide), by simp [T.dp], by simp only [T.n, gB]; omega⟩, v1⟩
          simp -dsimp -implicitDefEqProofs
          subst Q0
          simp -dsimp -implicitDefEqProofs [lv]
          exact ⟨_, _, rfl, fin⟩
        · have z2 : ¬ ((v : Int) < 2) := by omega
          have z3 : ¬ (v < 2) := by omega
          by_cases hv3 : v = 3
          · subst hv3
            simp -dsimp -implicitDefEqProofs
            refine (pik (n + dep + 1) h1 (by simp)).ok fun d m2 ⟨hd, v2⟩ => ?_
            obtain ⟨s, hs, hd⟩ := head_pick hd
            subst hd
            have h2 := h1.ev v2
            simp -dsimp -implicitDefEqProofs
            refine (nxt (n + dep + 2) h2 (by decide)).ok fun d m3 ⟨u, hu, hd, v3⟩ => ?_
            subst hd
            have h3 := h2.ev v3
            have y1 : (u : Int) ≤ 1000000 ∧ (-1000000 : Int) ≤ (u : Int) := by omega
            simp -dsimp -implicitDefEqProofs [y1]
            refine comp_has (fun r ys m' => ∃ ts : List T, ys = T.ds ts ∧ ts.length + r.length = u ∧ (∀ t ∈ ts, DT dep t) ∧ Ev 0 ds (exM b) m m') ?_ ?_ ⟨[], rfl, by simp [rngL], by simp, (v1.trans v2).trans v3⟩
            · rintro d r ys m' ⟨ts, rfl, hl, ht, hD⟩
              refine ⟨rfl, _, rfl, ?_⟩
              simp -dsimp -implicitDefEqProofs [z1]
              refine (ih n m' (h.ev hD)).ok fun d m3 ⟨t, hd, g1, g2⟩ => ?_
              subst hd
              simp -dsimp -implicitDefEqProofs
              exact ⟨ts ++ [t], by simp [ds_map], by simp at hl ⊢; omega, fun x hx => by
                rcases List.mem_append.mp hx with hx | hx
                · exact ht x hx
                · rw [List.mem_singleton.mp hx]; exact g1, hD.trans g2⟩
            · rintro ys m' ⟨ts, rfl, hl, ht, hD⟩
              refine ⟨rfl, ?_⟩
              have hlen : ts.length ≤ 3 := by simp at hl; omega
              have hns := ns_le fun t h => (ht t h).n
              have hns2 : T.ns ts ≤ 3 * gB dep := Nat.le_trans hns (Nat.mul_le_mul_right _ hlen)
              have hds := ds_len ts
              have ha : gAdd (.tup [.tup [.str (Str.ofString "word"), .str (Str.ofString s)]]) (.tup (T.ds ts)) m' = .ok (.tup (T.ds (.word s :: ts))) m' := by
                rw [gAdd_tup, if_pos (by simp; omega)]; rfl
              have fin : PG ds b m (dep + 1) (.tup [.str (Str.ofString "list"), .tup (T.ds (.word s :: ts))]) m' := ⟨.list (.word s :: ts), rfl, ⟨.call s ts hs fun t h => (ht t h).w, by
                simp only [T.dp, T.dps]; have := dps_le' (ts := ts) (d := dep) fun t h => (ht t h).dp; omega, by simp only [T.n, T.ns, gB]; omega⟩, hD⟩
              have lv := leave_same (d := .tup [.str (Str.ofString "list"), .tup (T.ds (.word s :: ts))]) hD.len
              generalize T.ds (.word s :: ts) = tsd2 at *
              generalize T.ds ts = tsd at *
              simp -dsimp -implicitDefEqProofs [gTuple, ha, -gAdd_tup]
              subst Q0
              simp -dsimp -implicitDefEqProofs [lv]
              exact ⟨_, _, rfl, fin⟩
          · have z4 : ¬ ((v : Int) = 2) := by omega
            have z5 : ¬ ((v : Int) = 3) := by omega
            simp -dsimp -implicitDefEqProofs [hv2, hv3, z2, z3, z4, z5, z1]
            refine (ih n m1 h1).ok fun d m2 ⟨t1, hd, g1, v2⟩ => ?_
            subst hd
            have h2 := h1.ev v2
            simp -dsimp -implicitDefEqProofs
            refine (pik (n + dep + 1) h2 (by simp)).ok fun d m3 ⟨hd, v3⟩ => ?_
            obtain ⟨s, hs, hd⟩ := op_pick hd
            subst hd
            have h3 := h2.ev v3
            simp -dsimp -implicitDefEqProofs [z1]
            refine (ih n m3 h3).ok fun d m4 ⟨t2, hd, g2, v4⟩ => ?_
            subst hd
            have vv := ((v1.trans v2).trans v3).trans v4
            have q1 := g1.n; have q2 := g2.n; have q3 := g1.dp; have q4 := g2.dp
            have fin : PG ds b m (dep + 1) (.tup [.str (Str.ofString "list"), .tup [.tup [.str (Str.ofString "word"), .str (Str.ofString s)], t1.d, t2.d]]) m4 := ⟨.list [.word s, t1, t2], rfl, ⟨.op s t1 t2 hs g1.w g2.w, by
              simp only [T.dp, T.dps]; omega, by simp only [T.n, T.ns, gB]; omega⟩, vv⟩
            have lv := leave_same (d := .tup [.str (Str.ofString "list"), .tup [.tup [.str (Str.ofString "word"), .str (Str.ofString s)], t1.d, t2.d]]) vv.len
            generalize t1.d = d1 at *
            generalize t2.d = d2 at *
            simp -dsimp -implicitDefEqProofs
            subst Q0
            simp -dsimp -implicitDefEqProofs [lv]
            exact ⟨_, _, rfl, fin⟩
theorem wl_bw : ∀ s ∈ WL, s ∈ BW := by decide
theorem ops_bw : ∀ s ∈ OPS, s ∈ BW := by decide
theorem dt_okw {t : T} (h : Dt t) : Okw t := by
  induction h with
  | word s hs => exact wl_bw s hs
  | num i _ => trivial
  | call s ts hs _ ih =>
    refine okws_iff.mpr fun t ht => ?_
    rcases List.mem_cons.mp ht with rfl | ht
    · exact wl_bw s hs
    · exact ih t ht
  | op w t1 t2 hw _ _ i1 i2 =>
    refine okws_iff.mpr fun t ht => ?_
    simp only [List.mem_cons, List.not_mem_nil, or_false] at ht
    rcases ht with rfl | rfl | rfl
    · exact ops_bw w hw
    · exact i1
    · exact i2
structure BT (t u : T) : Prop where
  w : Okw u
  dp : u.dp ≤ t.dp + 1
  n : u.n ≤ 2 * t.n + 1
def PB (ds : List Int) (b : Bool) (m : Me) (t : T) (d : D) (m' : Me) : Prop := ∃ u : T, d = u.d ∧ BT t u ∧ Ev 0 ds (exM b) m m'
theorem bent_pick {t : T} (ht : Okw t) {d : D} (hd : d ∈ [.tup [.str (Str.ofString "list"), .tup []], .tup [.str (Str.ofString "word"), .str (Str.ofString "+")], .tup [.str (Str.ofString "word"), .str (Str.ofString "a-b")],
    .tup [.str (Str.ofString "list"), .tup [.tup [.str (Str.ofString "num"), .int 1]]], .tup [.str (Str.ofString "list"), .tup [.tup [.str (Str.ofString "word"), .str (Str.ofString "+")], .tup [.str (Str.ofString "num"), .int 1]]],
    .tup [.str (Str.ofString "list"), .tup [t.d, t.d]], .tup [.str (Str.ofString "word"), .str (Str.ofString "_")], .tup [.str (Str.ofString "word"), .str (Str.ofString "...")], .tup [.str (Str.ofString "num"), .int 0], .tup [.str (Str.ofString "word"), .str (Str.ofString "f")]]) : ∃ u : T, d = u.d ∧ BT t u := by
  have hp := n_pos t
  have wd : ∀ s, s ∈ BW → BT t (.word s) := fun s h => ⟨h, by simp [T.dp], by simp [T.n]⟩
  simp only [List.mem_cons, List.not_mem_nil, or_false] at hd
  rcases hd with rfl | rfl | rfl | rfl | rfl | rfl | rfl | rfl | rfl | rfl
  · exact ⟨.list [], rfl, ⟨trivial, by simp [T.dp, T.dps], by simp [T.n, T.ns]⟩⟩
  · exact ⟨.word "+", rfl, wd _ (by decide)⟩
  · exact ⟨.word "a-b", rfl, wd _ (by decide)⟩
  · exact ⟨.list [.num 1], rfl, ⟨⟨trivial, trivial⟩, by simp [T.dp, T.dps], by simp [T.n, T.ns]; omega⟩⟩
  · exact ⟨.list [.word "+", .num 1], rfl, ⟨⟨by show "+" ∈ BW; decide, trivial, trivial⟩, by simp [T.dp, T.dps], by simp [T.n, T.ns]; omega⟩⟩
  · exact ⟨.list [t, t], rfl, ⟨⟨ht, ht, trivial⟩, by simp [T.dp, T.dps], by simp [T.n, T.ns]; omega⟩⟩
  · exact ⟨.word "_", rfl, wd _ (by decide)⟩
  · exact ⟨.word "...", rfl, wd _ (by decide)⟩
  · exact ⟨.num 0, rfl, ⟨trivial, by simp [T.dp], by simp [T.n]⟩⟩
  · exact ⟨.word "f", rfl, wd _ (by decide)⟩
theorem bent_has : ∀ (n : Nat) (t : T) (N : Nat) (m : Me), t.dp < n → n ≤ 20 → t.n ≤ 900 → Okw t → Wt 0 ds (exM b) m → RHas (OkR (PB ds b m t)) (G.fns cl (N + n + 2) 22 [.ref 0, t.d] m) := by
  intro n
  induction n with
  | zero => intro t N m h; omega
  | succ n ih =>
    intro t N m hk h20 hn ho h
    rw [show N + (n + 1) + 2 = (N + n + 2) + 1 by omega, fns22]
    refine has_def' [some (.ref 0), some t.d, none] ?_
    unfold G.b22
    generalize hQ0 : (kD _ _ : Fl → Prop) = Q0
    have hx0 := tg_ix t m
    have fin2 : ∀ d m2, Ev 0 ds (exM b) m m2 → (∃ u : T, d = u.d ∧ BT t u) → RHas (OkR (PB ds b m t)) (leave m d m2) := fun d m2 v ⟨u, hd, hu⟩ => by
      rw [leave_same v.len]
      exact ⟨_, _, rfl, u, hd, hu, v⟩
    have bp := fun d => bent_pick (t := t) ho (d := d)
    by_cases hl : tg t = "list"
    · obtain ⟨ts, rfl⟩ : ∃ ts, t = .list ts := by cases t <;> simp [tg] at hl; exact ⟨_, rfl⟩
      have hx1 := fun m => ls_ix ts m
      simp only [tg] at hx0
      simp only [T.dp] at hk
      have hn2 := hn
      simp only [T.n] at hn2
      have hne := ne_tnil (ts := ts) (fun t ht => by have := mem_dp ht; omega) m
      have hoo := okws_iff.mp (show Okws ts from ho)
      have hll := len_ns ts
      by_cases h0 : ts = []
      · subst h0
        simp only [List.isEmpty_nil, Bool.not_true] at hne
        generalize T.ds [] = X at *
        generalize (T.list []).d = td at *
        simp -dsimp -implicitDefEqProofs [hx0, hx1, hne]
        refine (pik (N + n) h (by simp)).ok fun d m2 ⟨hd, v2⟩ => ?_
        have := fin2 d m2 v2 (bp d hd)
        subst Q0
        simpa -dsimp -implicitDefEqProofs using this
      · have hie : ts.isEmpty = false := by cases ts <;> simp at h0 ⊢
        rw [hie, Bool.not_false] at hne
        have hgl : ∀ m, gLen [.tup (T.ds ts)] m = .ok (.int (ts.length : Nat)) m := fun m => by rw [FL.gLen_tup, ds_len]
        have hpos : 0 < ts.length := List.length_pos_iff.mpr h0
        have s1 : ∀ (v : Nat) m, gSl (.tup (T.ds ts)) none (some (v : Int)) m = .ok (.tup (T.ds (ts.take v))) m := fun v m => by
          unfold gSl view; simp only [cut_take]; rw [ds_map, ds_map, List.map_take]
        have s2 : ∀ (v : Nat) m, gSl (.tup (T.ds ts)) (some ((v : Int) + 1)) none m = .ok (.tup (T.ds (ts.drop (v + 1)))) m := fun v m => by
          rw [show (v : Int) + 1 = ((v + 1 : Nat) : Int) by omega]
          unfold gSl view; simp only [cut_drop]; rw [ds_map, ds_map, List.map_drop]
        have s3 : ∀ (v : Nat) (hv : v < ts.length) m, gIx (.tup (T.ds ts)) (.int (v : Int)) m = .ok (ts[v]).d m := fun v hv m => gIx_tget m (ds_get (List.getElem?_eq_getElem hv))
        have hkk : T.dps ts < n := by omega
        have hih := fun (v : Nat) (hv : v < ts.length) m' h' => ih (ts[v]) N m' (by have := mem_dp (List.getElem_mem hv); omega) (by omega) (by have := mem_n (List.getElem_mem hv); omega) (hoo _ (List.getElem_mem hv)) h'
        have res : ∀ (v : Nat) (hv : v < ts.length) (u : T), BT ts[v] u → (∃ w : T, D.tup [.str (Str.ofString "list"), .tup (T.ds (ts.take v) ++ u.d :: T.ds (ts.drop (v + 1)))] = w.d ∧ BT (.list ts) w) := fun v hv u hu => by
          have hsp : ts = ts.take v ++ ts[v] :: ts.drop (v + 1) := by
            rw [List.getElem_cons_drop, List.take_append_drop]
          refine ⟨.list (ts.take v ++ u :: ts.drop (v + 1)), by simp [T.d, kw, ds_map], okws_iff.mpr fun x hx => ?_, ?_, ?_⟩
          · rcases List.mem_append.mp hx with hx | hx
            · exact hoo x (List.mem_of_mem_take hx)
            · rcases List.mem_cons.mp hx with rfl | hx
              · exact hu.w
              · exact hoo x (List.mem_of_mem_drop hx)
          · simp only [T.dp]
            have : T.dps (ts.take v ++ u :: ts.drop (v + 1)) ≤ T.dps ts + 1 := dps_le' fun x hx => by
              rcases List.mem_append.mp hx with hx | hx
              · have := mem_dp (List.mem_of_mem_take hx); omega
              · rcases List.mem_cons.mp hx with rfl | hx
                · have := hu.dp; have := mem_dp (List.getElem_mem hv); omega
                · have := mem_dp (List.mem_of_mem_drop hx); omega
            omega
          · have e1 : T.ns ts = T.ns (ts.take v) + (ts[v].n + T.ns (ts.drop (v + 1))) := by
              conv => lhs; rw [hsp]
              rw [ns_app]; rfl
            have e2 : T.ns (ts.take v ++ u :: ts.drop (v + 1)) = T.ns (ts.take v) + (u.n + T.ns (ts.drop (v + 1))) := by rw [ns_app]; rfl
            have := hu.n
            simp only [T.n]; omega
        have hdl : (T.ds ts).length = ts.length := ds_len ts
        have la : ∀ (v : Nat) (d : D) m, gAdd (.tup (T.ds (ts.take v))) (.tup [d]) m = .ok (.tup (T.ds (ts.take v) ++ [d])) m := fun v d m => by
          rw [gAdd_tup, if_pos (by rw [ds_len, List.length_take]; simp; omega)]
        have lb : ∀ (v : Nat) (d : D) m, gAdd (.tup (T.ds (ts.take v) ++ [d])) (.tup (T.ds (ts.drop (v + 1)))) m = .ok (.tup (T.ds (ts.take v) ++ d :: T.ds (ts.drop (v + 1)))) m := fun v d m => by
          rw [gAdd_tup, if_pos (by rw [List.length_append, ds_len, ds_len, List.length_take, List.length_drop]; simp; omega)]
          simp
        generalize hTD : T.ds ts = TD at *
        generalize htd : (T.list ts).d = td at *
        simp -dsimp -implicitDefEqProofs [hx0, hx1, hne]
        refine (nxt (N + n + 1) h (by decide)).ok fun d m1 ⟨v, hv, hd, v1⟩ => ?_
        subst hd
        have h1 := h.ev v1
        by_cases hz : 0 < v
        · have hz' : (0 : Int) < (v : Int) := by omega
          simp -dsimp -implicitDefEqProofs [hz, hz', hx1, hgl]
          refine (nxt (N + n + 1) h1 (by omega)).ok fun d m2 ⟨a, ha, hd, v2⟩ => ?_
          subst hd
          have ha' : a < ts.length := by omega
          have h2 := h1.ev v2
          have s1 := s1 a
          have s2 := s2 a
          have s3 := s3 a ha'
          have la := la a
          have lb := lb a
          have res := res a ha'
          have hih := hih a ha' m2 h2
          generalize T.ds (ts.take a) = A1 at *
          generalize T.ds (ts.drop (a + 1)) = A2 at *
          generalize ts[a] = ta at *
          simp -dsimp -implicitDefEqProofs [hx1, s1, s3]
          refine hih.ok fun d m3 ⟨u, hd, hu, v3⟩ => ?_
          subst hd
          have := fin2 _ m3 ((v1.trans v2).trans v3) (res u hu)
          simp -dsimp -implicitDefEqProofs [hx1, s2, la, lb, -gAdd_tup]
          subst Q0
          simpa -dsimp -implicitDefEqProofs using this
        · have hz' : ¬ (0 : Int) < (v : Int) := by omega
          simp -dsimp -implicitDefEqProofs [hz, hz']
          refine (pik (N + n) h1 (by simp)).ok fun d m2 ⟨hd, v2⟩ => ?_
          have := fin2 d m2 (v1.trans v2) (bp d hd)
          subst Q0
          simpa -dsimp -implicitDefEqProofs using this
    · generalize tg t = tt at *
      generalize t.d = td at *
      simp -dsimp -implicitDefEqProofs [hx0, hl]
      refine (pik (N + n) h (by simp)).ok fun d m2 ⟨hd, v2⟩ => ?_
      have := fin2 d m2 v2 (bp d hd)
      subst Q0
      simpa -dsimp -implicitDefEqProofs using this
end K53

set_option maxRecDepth 100000
namespace K53
open PySem PySem.Spec PyProof.Rows L2 FL U63 UR
variable {cl : Nat → Addr} {ds : List Int}

mutual
theorem d_al : ∀ t : T, t.n ≤ 10000 → al t.d = true
  | .word s, _ => by simp [T.d, kw, al, alL, strOk_ofs]
  | .num i, _ => by simp [T.d, kw, al, alL, strOk_ofs]
  | .list ts, h => by
    simp only [T.n] at h
    have h1 := ds_al ts (by omega)
    have h2 := len_ns ts
    simp only [T.d, kw, al, alL, strOk_ofs, h1, ds_len, Bool.true_and, Bool.and_true, List.length_cons, List.length_nil, Bool.and_eq_true, decide_eq_true_eq]
    omega
theorem ds_al : ∀ ts : List T, T.ns ts ≤ 10000 → alL (T.ds ts) = true
  | [], _ => rfl
  | t :: ts, h => by
    simp only [T.ns] at h
    simp only [T.ds, alL, d_al t (by omega), ds_al ts (show T.ns ts ≤ 10000 by omega), Bool.and_self]
end
theorem fns23 (n : Nat) : G.fns cl (n + 1) 23 = runDef 6 1 (G.b23 cl (G.fns cl n)) := rfl
theorem alike (d : D) (h : al d = true) (hd : dpD d < 229) (m : Me) : G.fns cl 229 17 [d, d] m = .ok (.bl true) m := alike_has (A := fun n => G.fns cl n 17) (fun n => rfl) 229 d h hd m
theorem alike_t (t : T) (h1 : t.n ≤ 10000) (h2 : t.dp ≤ 100) (m : Me) : G.fns cl 229 17 [t.d, t.d] m = .ok (.bl true) m := alike t.d (d_al t h1) (by have := d_dp t; omega) m
theorem alike_x {l : List Nat} (h : ASC l) (m : Me) : G.fns cl 229 17 [.str (tx l), .str (tx l)] m = .ok (.bl true) m := alike _ (by simp [al, strOk_tx h]) (by simp [dpD]) m
theorem alike_b (b : Bool) (m : Me) : G.fns cl 229 17 [.bl b, .bl b] m = .ok (.bl true) m := alike _ rfl (by simp [dpD]) m
/-! ### the two fixed texts -/
theorem lvm : (45 : Nat) ∈ LV 1 := by decide
theorem dg1 : DgN 1 [49] := dgB_ok (by decide +kernel)
theorem sg_a (h : Nat) : Sg h 1 [97] (.word "a") := by
  have := (sg_word h (show "a" ∈ WL by decide)).lowTo (k := 1) (by omega) (by omega)
  rwa [show cd "a" = [97] by decide +kernel] at this
theorem sg_1 : Sg 0 0 [97, 45, 49] (.list [.word "-", .word "a", .num 1]) := by
  have h1 : Sg 0 2 [49] (.num 1) := (Sg.num 0 1 [49] dg1).lowTo (by omega) (by omega)
  exact (Sg.op 0 1 45 "-" 0 0 _ _ _ _ (by omega) lvm (by decide +kernel) (by omega) (by omega) (sg_a 0) h1).lowTo (by omega) (by omega)
theorem sg_2 : Sg 0 0 [97, 32, 45, 32, 45, 49] (.list [.word "-", .word "a", .num (-1)]) := by
  have h1 : Sg 0 2 [45, 49] (.num (-1)) := (Sg.neg 0 1 [49] dg1 (by decide)).lowTo (by omega) (by omega)
  exact (Sg.op 0 1 45 "-" 1 1 _ _ _ _ (by omega) lvm (by decide +kernel) (by omega) (by omega) (sg_a 0) h1).lowTo (by omega) (by omega)
def F1 : T := .list [.word "-", .word "a", .num 1]
def F2 : T := .list [.word "-", .word "a", .num (-1)]
theorem f1_ok (m : Me) (hf : FlatM m) : G.fns cl 229 8 [.str (Str.ofString "a-1")] m = .ok F1.d m := by
  have := sums_ok (cl := cl) sg_1 219 0 0 (by omega) (by omega) (by decide +kernel) (by decide +kernel) (sg_asc sg_1) (by decide) m hf
  rw [show bl 0 ++ ([97, 45, 49] ++ bl 0) = cd "a-1" by decide +kernel, ← ofs_tx] at this
  exact this
theorem f2_ok (m : Me) (hf : FlatM m) : G.fns cl 229 8 [.str (Str.ofString "a - -1")] m = .ok F2.d m := by
  have := sums_ok (cl := cl) sg_2 219 0 0 (by omega) (by omega) (by decide +kernel) (by decide +kernel) (sg_asc sg_2) (by decide) m hf
  rw [show bl 0 ++ ([97, 32, 45, 32, 45, 49] ++ bl 0) = cd "a - -1" by decide +kernel, ← ofs_tx] at this
  exact this
theorem pad1 {d : D} (hd : d ∈ [D.str (Str.ofString ""), .str (Str.ofString " ")]) : ∃ s, s ≤ 2 ∧ d = .str (tx (bl s)) := by
  simp only [List.mem_cons, List.not_mem_nil, or_false] at hd
  rcases hd with rfl | rfl
  · exact ⟨0, by omega, by congr 1⟩
  · exact ⟨1, by omega, by congr 1⟩
theorem pad2 {d : D} (hd : d ∈ [D.str (Str.ofString ""), .str (Str.ofString "  ")]) : ∃ s, s ≤ 2 ∧ d = .str (tx (bl s)) := by
  simp only [List.mem_cons, List.not_mem_nil, or_false] at hd
  rcases hd with rfl | rfl
  · exact ⟨0, by omega, by congr 1⟩
  · exact ⟨2, by omega, by congr 1⟩
def IL (ns ds : List Int) (r : List D) (ρ : En) (m' : Me) : Prop := ∃ (b : Bool) (x2 x3 x4 x5 : Option D), ρ = [some (.scr ns), some (.ref 0), x2, x3, x4, x5] ∧ Wt 0 ds (exM b) m'
def IB (ns ds : List Int) (t : T) (x2 : Option D) (r : List D) (ρ : En) (m' : Me) : Prop := ∃ (u : T) (x5 : Option D), ρ = [some (.scr ns), some (.ref 0), x2, some t.d, some u.d, x5] ∧ Okw u ∧ u.dp ≤ 5 ∧ u.n ≤ 400 ∧ Wt 0 ds (exM true) m'
theorem holds (ns : List Int) (h : ns.length ≤ 63) : ∃ m', G.fns cl 230 23 [.scr ns] [] = .ok (.bl true) m' := by
  obtain ⟨ds, e1⟩ := draws_ok (G.fns cl 228) h (many := 800) (by decide) (by decide) []
  rw [← fns14] at e1
  suffices H : RHas (OkR fun d _ => d = .bl true) (G.fns cl 230 23 [.scr ns] []) by
    obtain ⟨d, m, e, rfl⟩ := H.ex; exact ⟨m, e⟩
  rw [fns23]
  refine has_def' [some (.scr ns), none, none, none, none, none] ?_
  unfold G.b23
  have hw0 : Wt 0 ds (exM false) [FL.WX ds 0 (exM false)] := ⟨⟨0, Int.le_refl _, rfl⟩, FlatM.one fun n => clo_wx (exM_ok false) n, exM_ok false⟩
  have ew : FL.WX ds 0 (exM false) = .dK [((.inr (Str.ofString "draws") : Key), .lst (ds.map .int)), (.inr (Str.ofString "at"), .int 0), (.inr (Str.ofString "more"), .bl false)] := rfl
  simp -dsimp -implicitDefEqProofs [e1, keyD, setK]
  rw [← ew]
  refine for_has (IL ns ds) ?step ?done ⟨false, none, none, none, none, rfl, hw0⟩
  case step =>
    rintro d r ρ m ⟨b, x2, x3, x4, x5, rfl, W⟩
    refine ⟨rfl, _, rfl, ?_⟩
    generalize hQ0 : (kL _ _ : Fl → Prop) = Q0
    simp -dsimp -implicitDefEqProofs []
    refine (sum_has (cl := cl) 4 222 m W).ok fun d1 m1 ⟨t, hd, g1, v1⟩ => ?_
    subst hd
    have h161 : gB 4 = 161 := rfl
    have hdp := g1.dp
    have hn := g1.n
    rw [h161] at hn
    have ht := g1.w
    have W1 := W.ev v1
    obtain ⟨m2, p2, W2, l2⟩ := more_put W1 false
    have pr := fun m => sums_print (cl := cl) 227 t m (by omega) ht (by omega)
    have e227 : prt 227 t 0 = prt 5 t 0 := prt_add 5 t 0 (by omega) ht 222
    rw [e227] at pr
    have sp := prt_sg 5 t 0 (by omega) ht (by omega)
    have ax := fun m => alike_x (cl := cl) (sg_asc sp) m
    have at0 := fun m => alike_t (cl := cl) t (by omega) (by omega) m
    have bk := fun m hf => back_ok (cl := cl) 5 t m hf (by omega) (by omega) ht (by omega) 189
    have tf := text_has (cl := cl) (ds := ds) (b := false) 222 5 t 0 m2 (by omega) ht (by omega) (by omega) W2
    rw [show ((0 : Nat) : Int) = 0 from rfl] at tf
    have tt := fun m3 (W3 : Wt 0 ds (exM true) m3) => text_has (cl := cl) (ds := ds) (b := true) 222 5 t 0 m3 (by omega) ht (by omega) (by omega) W3
    simp only [show ((0 : Nat) : Int) = 0 from rfl] at tt
    have rd := fun (l : List Nat) (hs : Sg 10 0 l t) (hl : l.length + 5 ≤ 20 * t.n) (s g : Nat) (h1 : s ≤ 2) (h2 : g ≤ 2) m hf => sums_ok (cl := cl) hs 159 s g (by omega) (by omega) (by omega) (by omega) (sg_asc hs) (by omega) m hf
    have okt : Okw t := dt_okw ht
    have bt := fun m3 (W3 : Wt 0 ds (exM true) m3) => bent_has (cl := cl) (ds := ds) (b := true) 5 t 222 m3 (by omega) (by omega) (by omega) okt W3
    have is1 := fun (u : T) (h1 : Okw u) (h2 : u.dp ≤ 5) (h3 : u.n ≤ 400) m => issums_ok (cl := cl) 6 u m (by omega) (by omega) h1 (by omega) 222
    have is2 := fun (u : T) (h1 : Okw u) (h2 : u.dp ≤ 5) (h3 : u.n ≤ 400) m => lsums_ok (cl := cl) 6 u m (by omega) (by omega) h1 (by omega) 222
    have iB0 : ∀ (x5 : Option D) m (W3 : Wt 0 ds (exM true) m), IB ns ds t (some d) (rngL 0 4) [some (.scr ns), some (.ref 0), some d, some t.d, some t.d, x5] m := fun x5 m W3 => ⟨t, x5, rfl, okt, by omega, by omega, W3⟩
    generalize hP : prt 5 t 0 = P at *
    generalize htd : t.d = td at *
    simp -dsimp -implicitDefEqProofs [p2, pr]
    refine tf.ok fun dd m3 ⟨l, hdd, s3, n3, v3, q3⟩ => ?_
    subst hdd
    have q3 := (q3 rfl).trans hP
    subst q3
    have W3 := W2.ev v3
    have bk3 := bk m3 W3.f
    obtain ⟨m4, p4, W4, l4⟩ := more_put W3 true
    simp -dsimp -implicitDefEqProofs [ax, pr, bk3, at0, p4]
    refine (pik 227 W4 (by simp)).ok fun dd m5 ⟨hdd, v5⟩ => ?_
    obtain ⟨s, hs, hdd⟩ := pad1 hdd
    subst hdd
    have W5 := W4.ev v5
    simp -dsimp -implicitDefEqProofs []
    refine (tt m5 W5).ok fun dd m6 ⟨l, hdd, s6, n6, v6, _⟩ => ?_
    subst hdd
    have W6 := W5.ev v6
    have rdl := rd l s6 n6
    have ga := fun m => UR.g_add (a := bl s) (b := l) (by simp [bl]; omega) m
    simp -dsimp -implicitDefEqProofs [ga]
    refine (pik 227 W6 (by simp)).ok fun dd m7 ⟨hdd, v7⟩ => ?_
    obtain ⟨g, hg, hdd⟩ := pad2 hdd
    subst hdd
    have W7 := W6.ev v7
    have rdl := rdl s g hs hg m7 W7.f
    have gb := UR.g_add (a := bl s ++ l) (b := bl g) (by simp [bl]; omega) m7
    rw [List.append_assoc] at gb
    generalize bl s ++ (l ++ bl g) = TT at *
    generalize bl s ++ l = TU at *
    simp -dsimp -implicitDefEqProofs [gb, rdl, at0]
    subst htd
    refine for_has (IB ns ds t (some d)) ?st2 ?dn2 (iB0 _ m7 W7)
    case st2 =>
      rintro d' r' ρ m ⟨u, x5, rfl, o1, o2, o3, W8⟩
      refine ⟨rfl, _, rfl, ?_⟩
      have j1 := is1 u o1 o2 o3 m
      have j2 := is2 u o1 o2 o3 m
      have ab := alike_b (cl := cl) (smF 6 u) m
      have bt := bt m W8
      generalize hQ1 : (kL _ _ : Fl → Prop) = Q1
      generalize hud : u.d = ud at *
      generalize htd : t.d = td at *
      simp -dsimp -implicitDefEqProofs [j1, j2, ab]
      refine bt.ok fun dd m9 ⟨u2, hdd, g2, v9⟩ => ?_
      subst hdd
      simp -dsimp -implicitDefEqProofs []
      subst Q1
      subst htd
      simp -dsimp -implicitDefEqProofs []
      exact ⟨u2, _, rfl, g2.w, by have := g2.dp; omega, by have := g2.n; omega, W8.ev v9⟩
    case dn2 =>
      rintro ρ m ⟨u, x5, rfl, o1, o2, o3, W8⟩
      refine ⟨rfl, ?_⟩
      subst Q0
      simp -dsimp -implicitDefEqProofs []
      exact ⟨true, _, _, _, _, rfl, W8⟩
  case done =>
    rintro ρ m ⟨b, x2, x3, x4, x5, rfl, W⟩
    refine ⟨rfl, ?_⟩
    have a1 := f1_ok (cl := cl) m W.f
    have a2 := f2_ok (cl := cl) m W.f
    have b1 := alike_t (cl := cl) F1 (by decide +kernel) (by decide +kernel) m
    have b2 := alike_t (cl := cl) F2 (by decide +kernel) (by decide +kernel) m
    have d1 : F1.d = .tup [.str (Str.ofString "list"), .tup [.tup [.str (Str.ofString "word"), .str (Str.ofString "-")], .tup [.str (Str.ofString "word"), .str (Str.ofString "a")], .tup [.str (Str.ofString "num"), .int 1]]] := rfl
    have d2 : F2.d = .tup [.str (Str.ofString "list"), .tup [.tup [.str (Str.ofString "word"), .str (Str.ofString "-")], .tup [.str (Str.ofString "word"), .str (Str.ofString "a")], .tup [.str (Str.ofString "num"), .int (-1)]]] := rfl
    generalize F1.d = D1 at *
    generalize F2.d = D2 at *
    simp -dsimp -implicitDefEqProofs [a1, a2, ← d1, ← d2, b1, b2]
    rw [leave0 fun n => rfl]
    exact ⟨_, _, rfl, rfl⟩
end K53
theorem Law.holds (cl : Nat → PySem.Addr) (ns : List Int) (h : ns.length ≤ 63) : ∃ m', G.fns cl 230 23 [.scr ns] [] = .ok (.bl true) m' := K53.holds ns h

open PySem PySem.W PyProof.Rows
set_option maxRecDepth 100000 in
set_option maxHeartbeats 0 in
theorem PySem.Challenge.cw_namestay_k53_sums_in_signs_holds : PySem.Challenge.rw_namestay_k53_sums_in_signs.Holds := by
  w_on; o_law; k_head; (case hw => w_witness2)
  k_fill
  refine FL.walk_fnC (l := PySem.Challenge.rw_namestay_k53_sums_in_signs) (x := "script") rfl rfl (fun w h Y => PySem.W.kIn_of Y) ?F
  case F =>
    intro w mg fa h KX GN hmg
    refine' G.all_mk KX GN hmg ?aC0 ?pg0 ?hd0 ?po0 ?sa0 ?mk0 ?kc0 ?nA0_at ?nA0_text ?A0 ?i0 ?l0 ?c0 ?k0 ?A1 ?i1 ?l1 ?c1 ?k1 ?A2 ?i2 ?l2 ?c2 ?k2 ?A3 ?i3 ?l3 ?c3 ?k3 ?A4 ?i4 ?l4 ?c4 ?k4 ?A5 ?i5 ?l5 ?c5 ?k5 ?A6 ?i6 ?l6 ?c6 ?k6 ?A7 ?i7 ?l7 ?c7 ?k7 ?A8 ?l8 ?c8 ?k8 ?A9 ?l9 ?c9 ?k9 ?A10 ?l10 ?c10 ?k10 ?A11 ?l11 ?c11 ?k11 ?A12 ?l12 ?c12 ?k12 ?A13 ?l13 ?c13 ?k13 ?A14 ?l14 ?c14 ?k14 ?A15 ?l15 ?c15 ?k15 ?A16 ?l16 ?c16 ?k16 ?A17 ?l17 ?c17 ?k17 ?A18 ?l18 ?c18 ?k18 ?A19 ?l19 ?c19 ?k19 ?A20 ?l20 ?c20 ?k20 ?A21 ?l21 ?c21 ?k21 ?A22 ?l22 ?c22 ?k22 ?A23 ?l23 ?c23 ?k23 ?z_len ?z_int ?z_tuple ?z_range ?z_all ?z_str ?z_abs ?z_isinstance ?z_bool ?c_LEVELS ?d_LEVELS ?e_LEVELS ?d0_LEVELS ?e0_LEVELS ?d1_LEVELS ?e1_LEVELS ?d2_LEVELS ?e2_LEVELS ?c_DIGITS ?c_LETTERS (fun cl ns h => Law.holds cl ns h)
    (case aC0 => k_is)
    (case pg0 => k_is)
    (case hd0 => k_is)
    (case po0 => k_is)
    (case sa0 => k_is)
    (case mk0 => k_is)
    (case kc0 => k_is)
    (case nA0_at => k_is)
    (case nA0_text => k_is)
    (case A0 => k_is)
    (case i0 => k_is)
    (case l0 => k_is)
    (case c0 => k_is)
    (case k0 => k_is)
    (case A1 => k_is)
    (case i1 => k_is)
    (case l1 => k_is)
    (case c1 => k_is)
    (case k1 => k_is)
    (case A2 => k_is)
    (case i2 => k_is)
    (case l2 => k_is)
    (case c2 => k_is)
    (case k2 => k_is)
    (case A3 => k_is)
    (case i3 => k_is)
    (case l3 => k_is)
    (case c3 => k_is)
    (case k3 => k_is)
    (case A4 => k_is)
    (case i4 => k_is)
    (case l4 => k_is)
    (case c4 => k_is)
    (case k4 => k_is)
    (case A5 => k_is)
    (case i5 => k_is)
    (case l5 => k_is)
    (case c5 => k_is)
    (case k5 => k_is)
    (case A6 => k_is)
    (case i6 => k_is)
    (case l6 => k_is)
    (case c6 => k_is)
    (case k6 => k_is)
    (case A7 => k_is)
    (case i7 => k_is)
    (case l7 => k_is)
    (case c7 => k_is)
    (case k7 => k_is)
    (case A8 => k_is)
    (case l8 => k_is)
    (case c8 => k_is)
    (case k8 => k_is)
    (case A9 => k_is)
    (case l9 => k_is)
    (case c9 => k_is)
    (case k9 => k_is)
    (case A10 => k_is)
    (case l10 => k_is)
    (case c10 => k_is)
    (case k10 => k_is)
    (case A11 => k_is)
    (case l11 => k_is)
    (case c11 => k_is)
    (case k11 => k_is)
    (case A12 => k_is)
    (case l12 => k_is)
    (case c12 => k_is)
    (case k12 => k_is)
    (case A13 => k_is)
    (case l13 => k_is)
    (case c13 => k_is)
    (case k13 => k_is)
    (case A14 => k_is)
    (case l14 => k_is)
    (case c14 => k_is)
    (case k14 => k_is)
    (case A15 => k_is)
    (case l15 => k_is)
    (case c15 => k_is)
    (case k15 => k_is)
    (case A16 => k_is)
    (case l16 => k_is)
    (case c16 => k_is)
    (case k16 => k_is)
    (case A17 => k_is)
    (case l17 => k_is)
    (case c17 => k_is)
    (case k17 => k_is)
    (case A18 => k_is)
    (case l18 => k_is)
    (case c18 => k_is)
    (case k18 => k_is)
    (case A19 => k_is)
    (case l19 => k_is)
    (case c19 => k_is)
    (case k19 => k_is)
    (case A20 => k_is)
    (case l20 => k_is)
    (case c20 => k_is)
    (case k20 => k_is)
    (case A21 => k_is)
    (case l21 => k_is)
    (case c21 => k_is)
    (case k21 => k_is)
    (case A22 => k_is)
    (case l22 => k_is)
    (case c22 => k_is)
    (case k22 => k_is)
    (case A23 => k_is)
    (case l23 => k_is)
    (case c23 => k_is)
    (case k23 => k_is)
    (case z_len => k_is)
    (case z_int => k_is)
    (case z_tuple => k_is)
    (case z_range => k_is)
    (case z_all => k_is)
    (case z_str => k_is)
    (case z_abs => k_is)
    (case z_isinstance => k_is)
    (case z_bool => k_is)
    (case c_LEVELS => k_is)
    (case d_LEVELS => k_is)
    (case e_LEVELS => exact ⟨rfl, rfl, by decide, rfl, ⟨rfl, rfl⟩⟩)
    (case d0_LEVELS => k_is)
    (case e0_LEVELS => exact ⟨rfl, rfl, by decide, by decide +kernel, ⟨rfl, rfl⟩⟩)
    (case d1_LEVELS => k_is)
    (case e1_LEVELS => exact ⟨rfl, rfl, by decide, by decide +kernel, ⟨rfl, rfl⟩⟩)
    (case d2_LEVELS => k_is)
    (case e2_LEVELS => exact ⟨rfl, rfl, by decide, by decide +kernel, ⟨rfl, rfl⟩⟩)
    (case c_DIGITS => k_is)
    (case c_LETTERS => k_is)
