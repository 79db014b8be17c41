import PyProof.Rows.All
import Wide.All
import OpenK.AllK
import Wide.FinOn
import HandS.ForMost
import HandS.Wide
import HandS.EndBits
import HandS.IsInst
import HandS.Exc
import HandS.TryOnly
import HandS.ExcOwn
import HandS.TupAny
import HandS.More
import HandS.Remove
import HandS.Set
import HandS.SetFor
import HandS.Strs
import KE.SortData
import HandS.Conv
import PyProof.MaxThree
import KE.GoesMore
import HandS.DictTup
import HandS.ListItems
import HandS.SetKeys
import HandS.TupSets
import HandS.Sort
import HandS.TupMul
import HandS.Iter
import HandS.CallLocal
import HandS.SortOrd
import KE.DataMinMax
import HandS.ExcInit
import HandS.ExcField
import HandS.ExcIs
import HandS.WordsExc
import HandS.CallSlots
import KE.KExcIs
import PySem.Challenge.RW_namestay_k18_words_with_marks
set_option Elab.async false
set_option linter.all false
set_option maxRecDepth 100000
set_option maxRecDepth 100000
/-! FL: a functional layer over the hand layer: what code computes, as a Lean function over plain data and a plain store. -/
namespace FL
open PySem L2

/-- plain data; ref i: the i-th thing of the store -/
inductive D where
  | non | bl (b : Bool) | int (i : Int) | str (x : Str)
  | tup (xs : List D) | lst (xs : List D) | dct (kvs : List (Key × D)) | ref (i : Nat)
  | scr (ns : List Int)
  /-- the def of that name -/
  | fn (x : Str)

/-- a thing of the store, which may change -/
inductive Cell where
  | lst (xs : List D) | dK (kvs : List (Key × D)) | dT (kvs : List (List Key × D)) | ins (C : Addr) (fs : List (Str × D))
  /-- a dict that is only read from now on -/
  | dL (kvs : List (Key × D))

abbrev Me := List Cell
abbrev En := List (Option D)

/-- where the store's things lie (l), and addresses that no value has (h) -/
structure Mu where
  l : List Addr
  h : List Addr
def Mu.add (μ : Mu) (p : Addr) : Mu := ⟨μ.l ++ [p], μ.h⟩

/-- what may be shared as a value -/
def IsDat : HO → Prop
  | .lst _ => True
  | .tup _ => True
  | _ => False
/-- how a dict that stood as a value stands later: as it was, or locked for good -/
def Dk (h : List Addr) (H' : Hp) (a : Addr) (kvs : List (Key × V)) : Prop := H' a = some (.dK kvs) ∨ (a ∉ h ∧ ∃ o, H' a = some (.frz o (.dK kvs)))
/-- what a thing of the store is -/
def MutL : HO → Prop
  | .frz _ (.dK _) => True
  | u => Mut (some u)

/-- a plain object: no dict on it, no slots -/
def PlO (o : Obj) : Prop := o.dict = none ∧ o.slots = #[]
/-- a tuple on which no dict hangs -/
def TupN (K : PySem.W.Frag) (H : Hp) (a : Addr) (xs : List V) : Prop := (∃ o : Obj, H a = some (.frz o (.tup xs)) ∧ PlO o) ∨
  ∃ (o : Obj) (its : Array Value) (n : Nat), K.lookup a = some o ∧ o.cls = .type "tuple" ∧ o.data = .seq its n ∧ its.size ≤ sizeLine ∧ Vals xs its.toList ∧ PlO o
theorem TupN.sq {K : PySem.W.Frag} {H : Hp} {a : Addr} {xs : List V} (h : TupN K H a xs) : SqT K H a xs := by
  rcases h with ⟨o, h, _⟩ | ⟨o, its, n, h1, h2, h3, h4, h5, _⟩
  · exact .inl (.inr ⟨o, h⟩)
  · exact .inr ⟨o, its, n, h1, h2, h3, h4, h5⟩
section
variable (K : PySem.W.Frag) (H : Hp) (μ : Mu)
mutual
def RV : D → V → Prop
  | .non, v => v = .non
  | .bl b, v => v = .bl b
  | .int i, v => v = .int i
  | .str x, v => v = .str x
  | .tup ds, v => ∃ a vs, v = .ref a ∧ TupN K H a vs ∧ vs.length ≤ sizeLine ∧ RVs ds vs
  | .lst ds, v => ∃ a vs, v = .ref a ∧ (a ∉ μ.l ∧ a ∉ μ.h) ∧ H a = some (.lst vs) ∧ vs.length ≤ sizeLine ∧ RVs ds vs
  | .dct kvs, v => ∃ a ps, v = .ref a ∧ (a ∉ μ.l ∧ a ∉ μ.h) ∧ Rd H a (.dK ps) ∧ RVk kvs ps
  | .ref i, v => ∃ a, v = .ref a ∧ μ.l[i]? = some a
  | .fn x, v => ∃ a, v = .ref a ∧ PySem.W.nsIn K mainGlobals x = some (some (Value.ref a))
  | .scr ns, v => ∃ a, v = .ref a ∧ (((a ∉ μ.l ∧ a ∉ μ.h) ∧ Rd H a (.lst (ns.map V.int))) ∨ SqL K (fun _ => none) a (ns.map V.int))
def RVs : List D → List V → Prop
  | [], vs => vs = []
  | d :: ds, vs => ∃ v r, vs = v :: r ∧ RV d v ∧ RVs ds r
def RVk : List (Key × D) → List (Key × V) → Prop
  | [], ps => ps = []
  | p :: r, ps => ∃ v q, ps = (p.1, v) :: q ∧ RVp p v ∧ RVk r q
def RVp : Key × D → V → Prop
  | (_, d), v => RV d v
end
def RC : Cell → Addr → Prop
  | .lst ds, a => ∃ vs, H a = some (.lst vs) ∧ vs.length ≤ sizeLine ∧ RVs K H μ ds vs
  | .dK kvs, a => ∃ ps, H a = some (.dK ps) ∧ RVk K H μ kvs ps
  | .dT kvs, a => ∃ ps, H a = some (.dT ps) ∧ Paired (fun (p : List Key × D) (q : List Key × V) => p.1 = q.1 ∧ RV K H μ p.2 q.2) kvs ps
  | .ins C fs, a => ∃ dx fs', H a = some (.ins C dx fs') ∧ Paired (fun (p : Str × D) (q : Str × V) => p.1 = q.1 ∧ RV K H μ p.2 q.2) fs fs'
  | .dL kvs, a => ∃ ps o, H a = some (.frz o (.dK ps)) ∧ RVk K H μ kvs ps
/-- the heap holds the store -/
structure RH (m : Me) : Prop where
  len : μ.l.length = m.length
  nd : μ.l.Nodup
  at' : ∀ (i : Nat) (c : Cell), m[i]? = some c → ∃ a, μ.l[i]? = some a ∧ RC K H μ c a
  hid : ∀ a, a ∈ μ.h → H a ≠ none
  sep : ∀ a, a ∈ μ.l → a ∉ μ.h
/-- the slots hold the names' values -/
def RS (ρ : En) (σ : St) : Prop := ρ.length = σ.length ∧ ∀ (i : Nat) (d : D), ρ[i]? = some (some d) → ∃ v, σ[i]? = some (some v) ∧ RV K H μ d v
end

/-- the heap went on: what stood as a value stands -/
structure Ext (K : PySem.W.Frag) (H : Hp) (μ : Mu) (H' : Hp) (μ' : Mu) : Prop where
  pre : ∃ l, μ'.l = μ.l ++ l
  hid : μ'.h = μ.h
  tup : ∀ a xs, TupN K H a xs → TupN K H' a xs
  dat : ∀ a u, a ∉ μ.l → IsDat u → H a = some u → H' a = some u ∧ a ∉ μ'.l
  frz : ∀ a o u, a ∉ μ.l → H a = some (.frz o u) → H' a = some (.frz o u) ∧ a ∉ μ'.l
  dct : ∀ a kvs, a ∉ μ.l → H a = some (.dK kvs) → Dk μ.h H' a kvs ∧ a ∉ μ'.l
  fz : ∀ a o u, H a = some (.frz o u) → H' a = some (.frz o u)
  xd : ∀ a fs, H a = some (.xd fs) → H' a = some (.xd fs)

section
variable {K : PySem.W.Frag} {H H' H'' : Hp} {μ μ' μ'' : Mu}
theorem Ext.refl : Ext K H μ H μ := ⟨⟨[], by simp⟩, rfl, fun _ _ h => h, fun _ _ n _ h => ⟨h, n⟩, fun _ _ _ n h => ⟨h, n⟩, fun _ _ n h => ⟨.inl h, n⟩, fun _ _ _ h => h, fun _ _ h => h⟩
theorem Ext.trans (a : Ext K H μ H' μ') (b : Ext K H' μ' H'' μ'') : Ext K H μ H'' μ'' := by
  refine ⟨?_, b.hid.trans a.hid, fun x xs h => b.tup x xs (a.tup x xs h), fun x u n d h => ?_, fun x o u n h => ?_, fun x kvs n h => ?_, fun x o u h => b.fz x o u (a.fz x o u h), fun x fs h => b.xd x fs (a.xd x fs h)⟩
  · obtain ⟨l, e⟩ := a.pre
    obtain ⟨l', e'⟩ := b.pre
    exact ⟨l ++ l', by rw [e', e]; simp⟩
  · obtain ⟨h1, n1⟩ := a.dat x u n d h
    exact b.dat x u n1 d h1
  · obtain ⟨h1, n1⟩ := a.frz x o u n h
    exact b.frz x o u n1 h1
  · obtain ⟨h1 | ⟨nh, o, h1⟩, n1⟩ := a.dct x kvs n h
    · obtain ⟨h2, n2⟩ := b.dct x kvs n1 h1
      rw [a.hid] at h2
      exact ⟨h2, n2⟩
    · obtain ⟨h2, n2⟩ := b.frz x o _ n1 h1
      exact ⟨.inr ⟨nh, o, h2⟩, n2⟩
theorem Ext.get (e : Ext K H μ H' μ') {i : Nat} {a : Addr} (h : μ.l[i]? = some a) : μ'.l[i]? = some a := by
  obtain ⟨l, e⟩ := e.pre
  rw [e, List.getElem?_append_left (List.getElem?_eq_some_iff.mp h).1]; exact h
theorem Ext.rd (e : Ext K H μ H' μ') {a : Addr} (n : a ∉ μ.l ∧ a ∉ μ.h) {u : HO} (d : IsDat u) (h : Rd H a u) : Rd H' a u ∧ (a ∉ μ'.l ∧ a ∉ μ'.h) := by
  rcases h with h | ⟨o, h⟩
  · obtain ⟨h1, n1⟩ := e.dat a u n.1 d h
    exact ⟨.inl h1, n1, by rw [e.hid]; exact n.2⟩
  · obtain ⟨h1, n1⟩ := e.frz a o u n.1 h
    exact ⟨.inr ⟨o, h1⟩, n1, by rw [e.hid]; exact n.2⟩
theorem Dk.rd {h : List Addr} {a : Addr} {kvs : List (Key × V)} (q : Dk h H' a kvs) : Rd H' a (.dK kvs) := by
  rcases q with q | ⟨_, o, q⟩
  · exact .inl q
  · exact .inr ⟨o, q⟩
theorem Ext.rdK (e : Ext K H μ H' μ') {a : Addr} (n : a ∉ μ.l ∧ a ∉ μ.h) {kvs : List (Key × V)} (h : Rd H a (.dK kvs)) : Rd H' a (.dK kvs) ∧ (a ∉ μ'.l ∧ a ∉ μ'.h) := by
  rcases h with h | ⟨o, h⟩
  · obtain ⟨h1, n1⟩ := e.dct a kvs n.1 h
    exact ⟨h1.rd, n1, by rw [e.hid]; exact n.2⟩
  · obtain ⟨h1, n1⟩ := e.frz a o _ n.1 h
    exact ⟨.inr ⟨o, h1⟩, n1, by rw [e.hid]; exact n.2⟩
/-- what stood as a value stands, in another heap and beside other addresses -/
structure Tr (K : PySem.W.Frag) (H : Hp) (μ : Mu) (H' : Hp) (μ' : Mu) : Prop where
  get : ∀ (i : Nat) (a : Addr), μ.l[i]? = some a → μ'.l[i]? = some a
  tup : ∀ a xs, TupN K H a xs → TupN K H' a xs
  dat : ∀ a u, a ∉ μ.l ∧ a ∉ μ.h → IsDat u → H a = some u → H' a = some u ∧ (a ∉ μ'.l ∧ a ∉ μ'.h)
  frz : ∀ a o u, a ∉ μ.l ∧ a ∉ μ.h → H a = some (.frz o u) → H' a = some (.frz o u) ∧ (a ∉ μ'.l ∧ a ∉ μ'.h)
  dct : ∀ a kvs, a ∉ μ.l ∧ a ∉ μ.h → H a = some (.dK kvs) → Rd H' a (.dK kvs) ∧ (a ∉ μ'.l ∧ a ∉ μ'.h)
  fz : ∀ a o u, H a = some (.frz o u) → H' a = some (.frz o u)
theorem Tr.rdK (x : Tr K H μ H' μ') {a : Addr} {kvs : List (Key × V)} (n : a ∉ μ.l ∧ a ∉ μ.h) (h : Rd H a (.dK kvs)) : Rd H' a (.dK kvs) ∧ (a ∉ μ'.l ∧ a ∉ μ'.h) := by
  rcases h with h | ⟨o, h⟩
  · exact x.dct a kvs n h
  · obtain ⟨h1, n1⟩ := x.frz a o _ n h
    exact ⟨.inr ⟨o, h1⟩, n1⟩
theorem Tr.rd (x : Tr K H μ H' μ') {a : Addr} {u : HO} (n : a ∉ μ.l ∧ a ∉ μ.h) (d : IsDat u) (h : Rd H a u) : Rd H' a u ∧ (a ∉ μ'.l ∧ a ∉ μ'.h) := by
  rcases h with h | ⟨o, h⟩
  · obtain ⟨h1, n1⟩ := x.dat a u n d h
    exact ⟨.inl h1, n1⟩
  · obtain ⟨h1, n1⟩ := x.frz a o u n h
    exact ⟨.inr ⟨o, h1⟩, n1⟩
theorem Tr.trans (x : Tr K H μ H' μ') (y : Tr K H' μ' H'' μ'') : Tr K H μ H'' μ'' := ⟨fun i a h => y.get i a (x.get i a h), fun a xs h => y.tup a xs (x.tup a xs h), fun a u n d h =>
  let ⟨h1, n1⟩ := x.dat a u n d h
  y.dat a u n1 d h1, fun a o u n h =>
  let ⟨h1, n1⟩ := x.frz a o u n h
  y.frz a o u n1 h1, fun a kvs n h =>
  let ⟨h1, n1⟩ := x.dct a kvs n h
  y.rdK n1 h1, fun a o u h => y.fz a o u (x.fz a o u h)⟩
theorem Ext.tr (e : Ext K H μ H' μ') : Tr K H μ H' μ' := ⟨fun _ _ h => e.get h, e.tup, fun a u n d h => let ⟨h1, n1⟩ := e.dat a u n.1 d h; ⟨h1, n1, by rw [e.hid]; exact n.2⟩, fun a o u n h => let ⟨h1, n1⟩ := e.frz a o u n.1 h; ⟨h1, n1, by rw [e.hid]; exact n.2⟩, fun a kvs n h => e.rdK n (.inl h), e.fz⟩
mutual
theorem RV.map (e : Tr K H μ H' μ') : ∀ (d : D) (v : V), RV K H μ d v → RV K H' μ' d v
  | .non, _, h => by simpa [RV] using h
  | .bl _, _, h => by simpa [RV] using h
  | .int _, _, h => by simpa [RV] using h
  | .str _, _, h => by simpa [RV] using h
  | .tup ds, v, h => by
    simp only [RV] at h ⊢
    obtain ⟨a, vs, rfl, hs, hz, hr⟩ := h
    exact ⟨a, vs, rfl, e.tup a vs hs, hz, RVs.map e ds vs hr⟩
  | .lst ds, v, h => by
    simp only [RV] at h ⊢
    obtain ⟨a, vs, rfl, hn, hs, hz, hr⟩ := h
    obtain ⟨h1, n1⟩ := e.dat a (.lst vs) hn trivial hs
    exact ⟨a, vs, rfl, n1, h1, hz, RVs.map e ds vs hr⟩
  | .dct kvs, v, h => by
    simp only [RV] at h ⊢
    obtain ⟨a, vs, rfl, hn, hs, hr⟩ := h
    obtain ⟨h1, n1⟩ := e.rdK hn hs
    exact ⟨a, vs, rfl, n1, h1, RVk.map e kvs vs hr⟩
  | .ref i, v, h => by
    simp only [RV] at h ⊢
    obtain ⟨a, rfl, hs⟩ := h
    exact ⟨a, rfl, e.get i a hs⟩
  | .fn a, v, h => by simpa [RV] using h
  | .scr ns, v, h => by
    simp only [RV] at h ⊢
    obtain ⟨a, rfl, ⟨hn, hs⟩ | hs⟩ := h
    · obtain ⟨h1, n1⟩ := e.rd hn (u := .lst (ns.map V.int)) trivial hs
      exact ⟨a, rfl, .inl ⟨n1, h1⟩⟩
    · exact ⟨a, rfl, .inr hs⟩
theorem RVs.map (e : Tr K H μ H' μ') : ∀ (ds : List D) (vs : List V), RVs K H μ ds vs → RVs K H' μ' ds vs
  | [], vs, h => by simpa [RVs] using h
  | d :: ds, vs, h => by
    simp only [RVs] at h ⊢
    obtain ⟨v, r, rfl, h1, h2⟩ := h
    exact ⟨v, r, rfl, RV.map e d v h1, RVs.map e ds r h2⟩
theorem RVk.map (e : Tr K H μ H' μ') : ∀ (ds : List (Key × D)) (vs : List (Key × V)), RVk K H μ ds vs → RVk K H' μ' ds vs
  | [], vs, h => by simpa [RVk] using h
  | p :: ds, vs, h => by
    simp only [RVk] at h ⊢
    obtain ⟨v, r, rfl, h1, h2⟩ := h
    exact ⟨v, r, rfl, RVp.map e p v h1, RVk.map e ds r h2⟩
theorem RVp.map (e : Tr K H μ H' μ') : ∀ (p : Key × D) (v : V), RVp K H μ p v → RVp K H' μ' p v
  | (_, d), v, h => by
    simp only [RVp] at h ⊢
    exact RV.map e d v h
end
theorem RV.ext (e : Ext K H μ H' μ') (d : D) (v : V) (h : RV K H μ d v) : RV K H' μ' d v := RV.map e.tr d v h
theorem RVs.ext (e : Ext K H μ H' μ') (d : List D) (v : List V) (h : RVs K H μ d v) : RVs K H' μ' d v := RVs.map e.tr d v h
theorem RVk.ext (e : Ext K H μ H' μ') (d : List (Key × D)) (v : List (Key × V)) (h : RVk K H μ d v) : RVk K H' μ' d v := RVk.map e.tr d v h
theorem RS.map {ρ : En} {σ : St} (h : RS K H μ ρ σ) (e : Tr K H μ H' μ') : RS K H' μ' ρ σ := ⟨h.1, fun i d q => by
  obtain ⟨v, h1, h2⟩ := h.2 i d q
  exact ⟨v, h1, RV.map e d v h2⟩⟩
theorem RS.ext {ρ : En} {σ : St} (h : RS K H μ ρ σ) (e : Ext K H μ H' μ') : RS K H' μ' ρ σ := h.map e.tr
theorem RS.set {ρ : En} {σ : St} {d : D} {v : V} (h : RS K H μ ρ σ) (r : RV K H μ d v) (i : Nat) : RS K H μ (ρ.set i (some d)) (σ.set i (some v)) := by
  refine ⟨by rw [List.length_set, List.length_set]; exact h.1, fun j e q => ?_⟩
  by_cases hj : i = j
  · subst hj
    by_cases hl : i < ρ.length
    · rw [List.getElem?_set_self hl] at q
      cases q
      exact ⟨v, List.getElem?_set_self (by rw [← h.1]; exact hl), r⟩
    · rw [List.getElem?_eq_none (by rw [List.length_set]; omega)] at q
      cases q
  · rw [List.getElem?_set_ne hj] at q ⊢
    exact h.2 j e q
theorem RVs.length : ∀ {ds : List D} {vs : List V}, RVs K H μ ds vs → ds.length = vs.length
  | [], vs, h => by simp only [RVs] at h; subst h; rfl
  | d :: ds, vs, h => by
    simp only [RVs] at h
    obtain ⟨v, r, rfl, _, h2⟩ := h
    simp [RVs.length h2]
theorem RVs.get : ∀ {ds : List D} {vs : List V} {i : Nat} {d : D}, RVs K H μ ds vs → ds[i]? = some d → ∃ v, vs[i]? = some v ∧ RV K H μ d v
  | [], _, _, _, _, e => by simp at e
  | d :: ds, vs, 0, x, h, e => by
    simp only [RVs] at h
    obtain ⟨v, r, rfl, h1, _⟩ := h
    simp at e; subst e
    exact ⟨v, rfl, h1⟩
  | d :: ds, vs, i + 1, x, h, e => by
    simp only [RVs] at h
    obtain ⟨v, r, rfl, _, h2⟩ := h
    obtain ⟨u, q1, q2⟩ := RVs.get (i := i) h2 (by simpa using e)
    exact ⟨u, by simpa using q1, q2⟩
theorem RVs.get' : ∀ {ds : List D} {vs : List V} {i : Nat} {v : V}, RVs K H μ ds vs → vs[i]? = some v → ∃ d, ds[i]? = some d ∧ RV K H μ d v := by
  intro ds vs i v h e
  have hl := h.length
  have hi : i < ds.length := by rw [hl]; exact (List.getElem?_eq_some_iff.mp e).1
  obtain ⟨u, q1, q2⟩ := h.get (List.getElem?_eq_getElem hi)
  rw [e] at q1; cases q1
  exact ⟨_, List.getElem?_eq_getElem hi, q2⟩
theorem RVs.append : ∀ {ds es : List D} {vs us : List V}, RVs K H μ ds vs → RVs K H μ es us → RVs K H μ (ds ++ es) (vs ++ us)
  | [], _, vs, _, h, g => by simp only [RVs] at h; subst h; simpa using g
  | d :: ds, es, vs, us, h, g => by
    simp only [RVs] at h
    obtain ⟨v, r, rfl, h1, h2⟩ := h
    simp only [List.cons_append, RVs]
    exact ⟨v, r ++ us, rfl, h1, RVs.append h2 g⟩
theorem RVs.take : ∀ {ds : List D} {vs : List V} (n : Nat), RVs K H μ ds vs → RVs K H μ (ds.take n) (vs.take n)
  | ds, vs, 0, _ => by simp [RVs]
  | [], vs, n + 1, h => by simp only [RVs] at h; subst h; simp [RVs]
  | d :: ds, vs, n + 1, h => by
    simp only [RVs] at h
    obtain ⟨v, r, rfl, h1, h2⟩ := h
    simp only [List.take_succ_cons, RVs]
    exact ⟨v, _, rfl, h1, RVs.take n h2⟩
theorem RVs.drop : ∀ {ds : List D} {vs : List V} (n : Nat), RVs K H μ ds vs → RVs K H μ (ds.drop n) (vs.drop n)
  | ds, vs, 0, h => by simpa using h
  | [], vs, n + 1, h => by simp only [RVs] at h; subst h; simp [RVs]
  | d :: ds, vs, n + 1, h => by
    simp only [RVs] at h
    obtain ⟨v, r, rfl, h1, h2⟩ := h
    simpa using RVs.drop n h2
theorem RVs.one {d : D} {v : V} (h : RV K H μ d v) : RVs K H μ [d] [v] := by simp only [RVs]; exact ⟨v, [], rfl, h, rfl⟩
theorem RC.map {c : Cell} {a : Addr} (h : RC K H μ c a) (e : Tr K H μ H' μ') (s : H' a = H a) : RC K H' μ' c a := by
  cases c with
  | lst ds => obtain ⟨vs, h1, h2, h3⟩ := h; exact ⟨vs, s.trans h1, h2, RVs.map e _ _ h3⟩
  | dK kvs => obtain ⟨vs, h1, h2⟩ := h; exact ⟨vs, s.trans h1, RVk.map e _ _ h2⟩
  | dT kvs => obtain ⟨vs, h1, h2⟩ := h; exact ⟨vs, s.trans h1, L2.Paired.mapP h2 fun p q z => ⟨z.1, RV.map e _ _ z.2⟩⟩
  | ins C fs => obtain ⟨dx, vs, h1, h2⟩ := h; exact ⟨dx, vs, s.trans h1, L2.Paired.mapP h2 fun p q z => ⟨z.1, RV.map e _ _ z.2⟩⟩
  | dL kvs => obtain ⟨vs, o, h1, h2⟩ := h; exact ⟨vs, o, s.trans h1, RVk.map e _ _ h2⟩
theorem RC.ext {c : Cell} {a : Addr} (h : RC K H μ c a) (e : Ext K H μ H' μ') (s : H' a = H a) : RC K H' μ' c a := h.map e.tr s
theorem RC.some {c : Cell} {a : Addr} (h : RC K H μ c a) : ∃ o, H a = some o ∧ MutL o := by
  cases c with
  | lst ds => obtain ⟨vs, h1, _⟩ := h; exact ⟨_, h1, trivial⟩
  | dK kvs => obtain ⟨vs, h1, _⟩ := h; exact ⟨_, h1, trivial⟩
  | dT kvs => obtain ⟨vs, h1, _⟩ := h; exact ⟨_, h1, trivial⟩
  | ins C fs => obtain ⟨dx, vs, h1, _⟩ := h; exact ⟨_, h1, trivial⟩
  | dL kvs => obtain ⟨vs, o, h1, _⟩ := h; exact ⟨_, h1, trivial⟩
theorem upd_some {H : Hp} {p a : Addr} {o : HO} (h : H a ≠ none) : upd H p o a ≠ none := by
  unfold upd; split
  · exact fun z => nomatch z
  · exact h
theorem RH.mem {m : Me} (h : RH K H μ m) {a : Addr} (ha : a ∈ μ.l) : ∃ o, H a = some o ∧ MutL o := by
  obtain ⟨i, hi, rfl⟩ := List.getElem_of_mem ha
  have hm : i < m.length := by rw [← h.len]; exact hi
  obtain ⟨a', e, c⟩ := h.at' i _ (List.getElem?_eq_getElem hm)
  rw [List.getElem?_eq_getElem hi] at e; cases e
  exact c.some
/-- a new object that is a value -/
theorem Ext.new {m : Me} (h : RH K H μ m) {p : Addr} {o : HO} (n : H p = none) : Ext K H μ (upd H p o) μ := by
  have key : ∀ {a u}, H a = some u → upd H p o a = some u := fun {a u} q => by rw [upd_ne (ne_of_none q n)]; exact q
  refine ⟨⟨[], by simp⟩, rfl, fun a xs q => ?_, fun a u na _ q => ⟨key q, na⟩, fun a o u na q => ⟨key q, na⟩, fun a kvs na q => ⟨.inl (key q), na⟩, fun a o u q => key q, fun a fs q => key q⟩
  rcases q with ⟨o', q, hd⟩ | q
  · exact .inl ⟨o', key q, hd⟩
  · exact .inr q
theorem RH.new {m : Me} (h : RH K H μ m) {p : Addr} {o : HO} (n : H p = none) : RH K (upd H p o) μ m := by
  refine ⟨h.len, h.nd, fun i c q => ?_, fun a z => upd_some (h.hid a z), h.sep⟩
  obtain ⟨a, e, r⟩ := h.at' i c q
  obtain ⟨u, hu, _⟩ := r.some
  exact ⟨a, e, r.ext (Ext.new h n) (upd_ne (ne_of_none hu n))⟩
theorem RH.notin {m : Me} (h : RH K H μ m) {p : Addr} (n : H p = none) : p ∉ μ.l := fun hp => by
  obtain ⟨o, e, _⟩ := h.mem hp
  rw [n] at e; cases e
/-- a new thing of the store -/
theorem Ext.cell {m : Me} (h : RH K H μ m) {p : Addr} {o : HO} (n : H p = none) : Ext K H μ (upd H p o) (μ.add p) := by
  have key : ∀ {a u}, H a = some u → upd H p o a = some u := fun {a u} q => by rw [upd_ne (ne_of_none q n)]; exact q
  have nin : ∀ {a u}, a ∉ μ.l → H a = some u → a ∉ (μ.add p).l := fun {a u} na q z => by
    rcases List.mem_append.mp z with z | z
    · exact na z
    · exact ne_of_none q n (by simpa using z)
  refine ⟨⟨[p], rfl⟩, rfl, fun a xs q => ?_, fun a u na _ q => ⟨key q, nin na q⟩, fun a o u na q => ⟨key q, nin na q⟩, fun a kvs na q => ⟨.inl (key q), nin na q⟩, fun a o u q => key q, fun a fs q => key q⟩
  rcases q with ⟨o', q, hd⟩ | q
  · exact .inl ⟨o', key q, hd⟩
  · exact .inr q
theorem RH.cell {m : Me} (h : RH K H μ m) {p : Addr} {o : HO} {c : Cell} (n : H p = none) (r : RC K (upd H p o) (μ.add p) c p) : RH K (upd H p o) (μ.add p) (m ++ [c]) := by
  refine ⟨by simp [Mu.add, h.len], ?_, fun i c' q => ?_, fun a z => upd_some (h.hid a z), fun a z y => by
    rcases List.mem_append.mp z with z | z
    · exact h.sep a z y
    · rw [List.mem_singleton.mp z] at y; exact h.hid p y n⟩
  · refine List.nodup_append.mpr ⟨h.nd, by simp, fun a ha b hb z => ?_⟩
    have : b = p := by simpa using hb
    subst this; subst z
    exact h.notin n ha
  · by_cases hi : i < m.length
    · rw [List.getElem?_append_left hi] at q
      obtain ⟨a, e, rc⟩ := h.at' i c' q
      obtain ⟨u, hu, _⟩ := rc.some
      exact ⟨a, (Ext.cell (o := o) h n).get e, rc.ext (Ext.cell h n) (upd_ne (ne_of_none hu n))⟩
    · have hi' : i = m.length := by
        have := (List.getElem?_eq_some_iff.mp q).1
        simp at this; omega
      subst hi'
      simp at q; subst q
      exact ⟨p, by simp [Mu.add, ← h.len], r⟩
/-- a thing of the store changes -/
theorem Ext.wr {m : Me} (h : RH K H μ m) {i : Nat} {a : Addr} {o : HO} (e : μ.l[i]? = some a) (nf : ∀ o u, H a ≠ some (.frz o u) := by intro o u z; simp_all) : Ext K H μ (upd H a o) μ := by
  have ha : a ∈ μ.l := List.mem_of_getElem? e
  obtain ⟨u0, hu0, mu⟩ := h.mem ha
  have kp : ∀ {b : Addr} {u : HO}, b ∉ μ.l → H b = some u → upd H a o b = some u := fun {b u} nb q => by
    rw [upd_ne (fun z : b = a => nb (by rw [z]; exact ha))]; exact q
  refine ⟨⟨[], by simp⟩, rfl, fun b xs q => ?_, fun b u nb _ q => ⟨kp nb q, nb⟩, fun b o u nb q => ⟨kp nb q, nb⟩, fun b kvs nb q => ⟨.inl (kp nb q), nb⟩, fun b o u q => by rw [upd_ne (fun z : b = a => nf o u (by rw [← z]; exact q))]; exact q, fun b fs q => by rw [upd_ne (ne_of q hu0 fun z => by subst z; exact mu)]; exact q⟩
  rcases q with ⟨o', q, hd⟩ | q
  · exact .inl ⟨o', by rw [upd_ne (ne_of q hu0 fun z => by subst z; exact mu)]; exact q, hd⟩
  · exact .inr q
theorem RH.wr {m : Me} (h : RH K H μ m) {i : Nat} {a : Addr} {o : HO} {c : Cell} (e : μ.l[i]? = some a) (r : RC K (upd H a o) μ c a) (nf : ∀ o u, H a ≠ some (.frz o u) := by intro o u z; simp_all) : RH K (upd H a o) μ (m.set i c) := by
  refine ⟨by rw [List.length_set]; exact h.len, h.nd, fun j c' q => ?_, fun a z => upd_some (h.hid a z), h.sep⟩
  by_cases hj : i = j
  · subst hj
    have hi : i < m.length := by rw [← h.len]; exact (List.getElem?_eq_some_iff.mp e).1
    rw [List.getElem?_set_self hi] at q; cases q
    exact ⟨a, e, r⟩
  · rw [List.getElem?_set_ne hj] at q
    obtain ⟨b, eb, rc⟩ := h.at' j c' q
    refine ⟨b, eb, rc.ext (Ext.wr h e nf) (upd_ne fun z => hj ?_)⟩
    subst z
    obtain ⟨h1, h1'⟩ := List.getElem?_eq_some_iff.mp e
    obtain ⟨h2, h2'⟩ := List.getElem?_eq_some_iff.mp eb
    exact (List.getElem_inj h.nd).mp (h1'.trans h2'.symm)
/-! ### hidden addresses -/
theorem Tr.unhide {l h h' : List Addr} (w : ∀ a, a ∈ h' → a ∈ h) : Tr K H ⟨l, h⟩ H ⟨l, h'⟩ := ⟨fun _ _ q => q, fun _ _ q => q, fun a u n _ q => ⟨q, n.1, fun z => n.2 (w a z)⟩, fun a o u n q => ⟨q, n.1, fun z => n.2 (w a z)⟩, fun a kvs n q => ⟨.inl q, n.1, fun z => n.2 (w a z)⟩, fun _ _ _ q => q⟩
theorem RC.unhide {l h h' : List Addr} (w : ∀ a, a ∈ h' → a ∈ h) {c : Cell} {a : Addr} (q : RC K H ⟨l, h⟩ c a) : RC K H ⟨l, h'⟩ c a := q.map (.unhide w) rfl
theorem RH.unhide {l h h' : List Addr} (w : ∀ a, a ∈ h' → a ∈ h) {m : Me} (q : RH K H ⟨l, h⟩ m) : RH K H ⟨l, h'⟩ m :=
  ⟨q.len, q.nd, fun i c e => by obtain ⟨a, h1, h2⟩ := q.at' i c e; exact ⟨a, h1, h2.unhide w⟩, fun a z => q.hid a (w a z), fun a z y => q.sep a z (w a y)⟩
/-- a new object beside which the values stand -/
theorem Tr.hide {m : Me} (h : RH K H μ m) {p : Addr} {o : HO} (n : H p = none) : Tr K H μ (upd H p o) ⟨μ.l, p :: μ.h⟩ := by
  have nh : ∀ {a u}, a ∉ μ.h → H a = some u → a ∉ p :: μ.h := fun {a u} na q z => by
    rcases List.mem_cons.mp z with z | z
    · rw [z, n] at q; cases q
    · exact na z
  refine ⟨fun _ _ q => q, (Ext.new h n).tup, fun a u na d q => ?_, fun a o' u na q => ?_, fun a kvs na q => ?_, (Ext.new h n).fz⟩
  · obtain ⟨h1, n1⟩ := (Ext.new (o := o) h n).dat a u na.1 d q
    exact ⟨h1, n1, nh na.2 q⟩
  · obtain ⟨h1, n1⟩ := (Ext.new (o := o) h n).frz a o' u na.1 q
    exact ⟨h1, n1, nh na.2 q⟩
  · obtain ⟨h1, n1⟩ := (Ext.new (o := o) h n).dct a kvs na.1 q
    exact ⟨h1.rd, n1, nh na.2 q⟩
theorem RH.hide {m : Me} (h : RH K H μ m) {p : Addr} {o : HO} (n : H p = none) : RH K (upd H p o) ⟨μ.l, p :: μ.h⟩ m := by
  refine ⟨h.len, h.nd, fun i c q => ?_, fun a z => ?_, fun a z y => by
    rcases List.mem_cons.mp y with y | y
    · rw [y] at z; exact h.notin n z
    · exact h.sep a z y⟩
  · obtain ⟨a, e, r⟩ := h.at' i c q
    obtain ⟨u, hu, _⟩ := r.some
    exact ⟨a, e, r.map (Tr.hide h n) (upd_ne (ne_of_none hu n))⟩
  · rcases List.mem_cons.mp z with z | z
    · subst z; rw [upd_same]; exact fun w => nomatch w
    · exact upd_some (h.hid a z)
/-- a list that stands beside the values grows -/
theorem Tr.grow {p : Addr} {xs ys : List V} (hp : p ∈ μ.h) (e : H p = some (.lst xs)) : Tr K H μ (upd H p (.lst ys)) μ := by
  have kp : ∀ {a : Addr} {u : HO}, a ∉ μ.h → H a = some u → upd H p (.lst ys) a = some u := fun {a u} n q => by
    rw [upd_ne (fun z : a = p => n (by rw [z]; exact hp))]; exact q
  refine ⟨fun _ _ q => q, fun a vs q => ?_, fun a u n _ q => ⟨kp n.2 q, n⟩, fun a o u n q => ⟨kp n.2 q, n⟩, fun a kvs n q => ⟨.inl (kp n.2 q), n⟩, fun a o u q => by rw [upd_ne (ne_of q e fun z => nomatch z)]; exact q⟩
  rcases q with ⟨o', q, hd⟩ | q
  · exact .inl ⟨o', by rw [upd_ne (ne_of q e fun z => nomatch z)]; exact q, hd⟩
  · exact .inr q
theorem RH.grow {m : Me} (h : RH K H μ m) {p : Addr} {xs ys : List V} (hp : p ∈ μ.h) (hl : p ∉ μ.l) (e : H p = some (.lst xs)) : RH K (upd H p (.lst ys)) μ m := by
  refine ⟨h.len, h.nd, fun i c q => ?_, fun a z => upd_some (h.hid a z), h.sep⟩
  obtain ⟨a, e', r⟩ := h.at' i c q
  exact ⟨a, e', r.map (Tr.grow hp e) (upd_ne fun z => hl (by rw [← z]; exact List.mem_of_getElem? e'))⟩
theorem Ext.reh {l l' h k : List Addr} (x : Ext K H ⟨l, h⟩ H' ⟨l', h⟩) (w : ∀ a, a ∈ k → a ∈ h) : Ext K H ⟨l, k⟩ H' ⟨l', k⟩ := ⟨x.pre, rfl, x.tup, x.dat, x.frz, fun a kvs n q => let ⟨h1, n1⟩ := x.dct a kvs n q; ⟨h1.imp id fun z => ⟨fun y => z.1 (w a y), z.2⟩, n1⟩, x.fz, x.xd⟩
/-- .. as seen from where it did not stand -/
theorem Ext.grow {H0 : Hp} {μ0 : Mu} {p : Addr} {xs ys : List V} (x : Ext K H0 μ0 H μ) (n : H0 p = none) (e : H p = some (.lst xs)) : Ext K H0 μ0 (upd H p (.lst ys)) μ := by
  refine ⟨x.pre, x.hid, fun a vs q => ?_, fun a u na d q => ?_, fun a o u na q => ?_, fun a kvs na q => ?_, fun a o u q => by rw [upd_ne (ne_of_none q n)]; exact x.fz a o u q, fun a fs q => by rw [upd_ne (ne_of_none q n)]; exact x.xd a fs q⟩
  · rcases x.tup a vs q with ⟨o', q, hd⟩ | q
    · exact .inl ⟨o', by rw [upd_ne (ne_of q e fun z => nomatch z)]; exact q, hd⟩
    · exact .inr q
  · obtain ⟨h1, h2⟩ := x.dat a u na d q
    exact ⟨by rw [upd_ne (ne_of_none q n)]; exact h1, h2⟩
  · obtain ⟨h1, h2⟩ := x.frz a o u na q
    exact ⟨by rw [upd_ne (ne_of_none q n)]; exact h1, h2⟩
  · obtain ⟨h1, h2⟩ := x.dct a kvs na q
    refine ⟨?_, h2⟩
    unfold Dk
    rw [upd_ne (ne_of_none q n)]; exact h1
end

/-! ### new tuples, their object known -/
section
variable {X : Cx} {es : List Expr} {t : TA} {pos : Pos}
def tTupN (t : TA) : TE := fun σ H Q => t σ H fun xs H1 => xs.length ≤ sizeLine ∧ ∀ p (o : Obj), PlO o → H1 p = none → Q (.ref p) (upd H1 p (.frz o (.tup xs)))
theorem pe_tupN {x1} (h : PA X es t) : PE X (.Tuple es x1 pos) (tTupN t) := by
  refine ⟨fun pins s σ H Q I hq => ?_⟩
  refine wpAny_Tuple_spliced (thn (h.run pos pins s σ H _ I hq) fun us s1 ⟨xs, H1, I1, r, z, q⟩ => ⟨by rw [← r.length]; exact z, ?_⟩)
  have hf : H1 s1.heap.objs.size = none := I1.hok.fresh (Nat.le_refl _)
  refine ⟨.ref s1.heap.objs.size, upd H1 s1.heap.objs.size (.frz { cls := .type "tuple", data := .seq us.toArray } (.tup xs)), I1.laid (t' := s1.toks) (fun b u e => Heap.get?_push_of_some _ e) (Nat.le_refl _) ?ok, rfl, q _ _ ⟨rfl, rfl⟩ hf⟩
  case ok => exact ⟨Heap.get?_push_size _ rfl, z, us, r, ⟨_, Heap.get?_push_size _ rfl, rfl, _, rfl⟩⟩
def rTupOfN (K : PySem.W.Frag) : List V → Hp → VK → Prop := fun xs H Q => ∃ p ys, xs = [.ref p] ∧ ((SqL K H p ys ∧ ∀ l (o : Obj), PlO o → H l = none → Q (.ref l) (upd H l (.frz o (.tup ys)))) ∨ (SqT K H p ys ∧ Q (.ref p) H))
theorem call_tuple_ofN : CallR X (.type "tuple") (rTupOfN X.K) := by
  intro pins s σ H xs us Q I r h
  obtain ⟨p, ys, rfl, h⟩ := h
  obtain ⟨u, rfl, rx⟩ := vals1 r
  cases rx
  rcases h with ⟨hq, q⟩ | ⟨hq, q⟩
  · obtain ⟨its, r', pl, hz⟩ := I.list hq
    have hlen := r'.length
    refine call_tuple_list pl.isList (fun h' kp => ?_) (by simp only [List.size_toArray] <;> omega)
    have I1 : Inv X pins σ H { s with heap := h' } := I.kept (t' := s.toks) kp
    have I2 : Inv X pins σ (upd H h'.objs.size (.frz { cls := .type "tuple", data := .seq its.toArray } (.tup ys))) { s with heap := h'.push { cls := .type "tuple", data := .seq its.toArray } } :=
      I1.laid (t' := s.toks) (fun b o e => Heap.get?_push_of_some _ e) (Nat.le_refl _) (show ObjOk X.prog X.w _ _ _ (.frz _ (.tup ys)) from ⟨Heap.get?_push_size _ rfl, hz, its, r', PyProof.Rows.IsTup.new _ _⟩)
    exact ⟨.ref h'.objs.size, _, I2, rfl, q _ _ ⟨rfl, rfl⟩ (I1.hok.fresh (Nat.le_refl _))⟩
  · obtain ⟨its, r', pl, hz⟩ := I.tuple hq
    exact call_tuple_same pl ⟨.ref p, H, I, rfl, q⟩
def rCatN (K : PySem.W.Frag) : R2 := fun x y H Q => ∃ a b xs ys, x = .ref a ∧ y = .ref b ∧ SqT K H a xs ∧ SqT K H b ys ∧ xs ≠ [] ∧ xs.length + ys.length ≤ sizeLine ∧
  (ys = [] → Q (.ref a) H) ∧ (ys ≠ [] → ∀ p (o : Obj), PlO o → H p = none → Q (.ref p) (upd H p (.frz o (.tup (xs ++ ys)))))
theorem op_catN : OpR X (binaryOp .Add) (rCatN X.K) := by
  intro pins s σ H x y v u Q I rx ry h
  obtain ⟨a, b, xs, ys, rfl, rfl, ha, hb, hx, hz, q1, q2⟩ := h
  cases rx
  cases ry
  obtain ⟨its, r1, p1, _⟩ := I.tuple ha
  obtain ⟨its2, r2, p2, _⟩ := I.tuple hb
  refine HT.cat_tup p1 p2 (fun z => hx (r1.nil_iff.mp z)) (fun z => ⟨.ref a, H, I, rfl, q1 (r2.nil_iff.mp z)⟩) (fun z => ?_) (by rw [← r1.length, ← r2.length]; exact hz)
  refine ⟨.ref s.heap.objs.size, _, I.laid (t' := s.toks) (o := .frz { cls := .type "tuple", data := .seq (its ++ its2).toArray } (.tup (xs ++ ys))) (fun b ob q => Heap.get?_push_of_some _ q) (Nat.le_refl _) ?ok, rfl, q2 (fun w => z (r2.nil_iff.mpr w)) _ _ ⟨rfl, rfl⟩ (I.hok.fresh (Nat.le_refl _))⟩
  case ok => exact ⟨Heap.get?_push_size _ rfl, by rw [List.length_append]; exact hz, _, r1.append r2, PyProof.Rows.IsTup.new _ _⟩
def rSlN (K : PySem.W.Frag) : V → Option Int → Option Int → Hp → VK → Prop := fun x lo hi H Q => ∃ a xs, x = .ref a ∧ SqT K H a xs ∧
  (HT.sIx xs.length 0 lo = 0 ∧ HT.sIx xs.length xs.length hi = xs.length → Q (.ref a) H) ∧ (¬ (HT.sIx xs.length 0 lo = 0 ∧ HT.sIx xs.length xs.length hi = xs.length) → ∀ p (o : Obj), PlO o → H p = none → Q (.ref p) (upd H p (.frz o (.tup (cutV xs lo hi)))))
theorem sl_tupN : SlR X (rSlN X.K) := by
  intro pins s σ H x v vl vu lo hi sl Q I rx hs pl pu h
  obtain ⟨a, xs, rfl, hx, q1, q2⟩ := h
  cases rx
  obtain ⟨its, r, ht, hz⟩ := I.tuple hx
  have hlen : its.toArray.size = xs.length := by rw [List.size_toArray]; exact r.length.symm
  refine ⟨"tuple", _, PyProof.Rows.slot_tuple_getitem.lookup, ht.typeIs, ?_⟩
  by_cases hw : HT.sIx xs.length 0 lo = 0 ∧ HT.sIx xs.length xs.length hi = xs.length
  · exact getItem_tuple_whole ht hs pl pu (by rw [hlen]; exact hw) ⟨.ref a, H, I, rfl, q1 hw⟩
  · refine HT.getItem_tuple_cut ht hs pl pu (by rw [hlen]; exact hw) ?_ (by rw [hlen]; exact hz)
    rw [hlen]
    refine ⟨.ref s.heap.objs.size, _, I.laid (t' := s.toks) (o := .frz { cls := .type "tuple", data := .seq ((its.drop (HT.sIx xs.length 0 lo)).take (HT.sIx xs.length xs.length hi - HT.sIx xs.length 0 lo)).toArray } (.tup (cutV xs lo hi))) (fun b ob q => Heap.get?_push_of_some _ q) (Nat.le_refl _) ?ok, rfl, q2 hw _ _ ⟨rfl, rfl⟩ (I.hok.fresh (Nat.le_refl _))⟩
    case ok => exact ⟨Heap.get?_push_size _ rfl, Nat.le_trans (cutV_length xs lo hi) hz, _, (r.drop (HT.sIx xs.length 0 lo)).take (HT.sIx xs.length xs.length hi - HT.sIx xs.length 0 lo), PyProof.Rows.IsTup.new _ _⟩
end
end FL

set_option maxRecDepth 100000
namespace FL
open PySem L2

/-! ### results -/
structure Exn where
  cls : Value
  fs : List (Str × D)
inductive Res (α : Type) where
  | no | exc (x : Exn) (m : Me) | ok (a : α) (m : Me)
def Res.bind {α β : Type} (r : Res α) (f : α → Me → Res β) : Res β := match r with
  | .no => .no
  | .exc x m => .exc x m
  | .ok a m => f a m
@[simp] theorem Res.bind_ok {α β : Type} {a : α} {m : Me} {f : α → Me → Res β} : (Res.ok a m).bind f = f a m := rfl
@[simp] theorem Res.bind_no {α β : Type} {f : α → Me → Res β} : (Res.no : Res α).bind f = .no := rfl
@[simp] theorem Res.bind_exc {α β : Type} {x : Exn} {m : Me} {f : α → Me → Res β} : (Res.exc x m : Res α).bind f = .exc x m := rfl
/-- what a block comes to -/
inductive Fl where
  | no | exc (x : Exn) (ρ : En) (m : Me) | nx (ρ : En) (m : Me) | rt (d : D) (m : Me) | bk (ρ : En) (m : Me) | ct (ρ : En) (m : Me)

abbrev ME := En → Me → Res D
abbrev MT := En → Me → Res Bool
abbrev MA := En → Me → Res (List D)
abbrev MS := En → Me → Fl

section
variable (K : PySem.W.Frag)
/-- an exception as it is told -/
def RX (H : Hp) (μ : Mu) (x : Exn) (c : Value) (d : Option Addr) : Prop :=
  c = x.cls ∧ match d with
    | none => x.fs = []
    | some a => ∃ fs', H a = some (.xd fs') ∧ Paired (fun (p : Str × D) (q : Str × V) => p.1 = q.1 ∧ RV K H μ p.2 q.2) x.fs fs'
/-- what is wanted holds of a result -/
def Ok {α β : Type} (Ex : XK) (H : Hp) (μ : Mu) (R : Hp → Mu → α → β → Prop) (Q : β → Hp → Prop) : Res α → Prop
  | .no => False
  | .exc x m' => ∀ H' μ' c d, Ext K H μ H' μ' → RH K H' μ' m' → RX K H' μ' x c d → Ex c d H'
  | .ok a m' => ∀ v H' μ', Ext K H μ H' μ' → RH K H' μ' m' → R H' μ' a v → Q v H'
def OkS (W : WX) (H : Hp) (μ : Mu) (D : Ends) : Fl → Prop
  | .no => False
  | .exc x ρ m' => ∀ σ' H' μ' c d, Ext K H μ H' μ' → RH K H' μ' m' → RS K H' μ' ρ σ' → RX K H' μ' x c d → W c d σ' H'
  | .nx ρ m' => ∀ σ' H' μ', Ext K H μ H' μ' → RH K H' μ' m' → RS K H' μ' ρ σ' → D.nx σ' H'
  | .bk ρ m' => ∀ σ' H' μ', Ext K H μ H' μ' → RH K H' μ' m' → RS K H' μ' ρ σ' → D.bk σ' H'
  | .ct ρ m' => ∀ σ' H' μ', Ext K H μ H' μ' → RH K H' μ' m' → RS K H' μ' ρ σ' → D.ct σ' H'
  | .rt d m' => ∀ v H' μ', Ext K H μ H' μ' → RH K H' μ' m' → RV K H' μ' d v → D.rt v H'
abbrev RVv : Hp → Mu → D → V → Prop := fun H μ d v => RV K H μ d v
abbrev RVB : Hp → Mu → Bool → Bool → Prop := fun _ _ a b => a = b
abbrev RVn (n : Nat) : Hp → Mu → List D → List V → Prop := fun H μ ds vs => RVs K H μ ds vs ∧ ds.length = n
/-- the wish of a function's result -/
def tR {α β : Type} (W : WX) (R : Hp → Mu → α → β → Prop) (f : En → Me → Res α) : St → Hp → (β → Hp → Prop) → Prop :=
  fun σ H Q => ∃ μ ρ m, RH K H μ m ∧ RS K H μ ρ σ ∧ Ok K (fun c d H' => W c d σ H') H μ R Q (f ρ m)
def tS (W : WX) (f : MS) : TS := fun D σ H => ∃ μ ρ m, RH K H μ m ∧ RS K H μ ρ σ ∧ OkS K W H μ D (f ρ m)
end
abbrev PD (X : Cx) (W : WX) (e : Expr) (f : ME) : Prop := PE X e (tR X.K W (RVv X.K) f)
abbrev PDT (X : Cx) (W : WX) (e : Expr) (f : MT) : Prop := PT X e (tR X.K W RVB f)
abbrev PDA (X : Cx) (W : WX) (n : Nat) (es : List Expr) (f : MA) : Prop := PA X es (tR X.K W (RVn X.K n) f)
abbrev PDS (X : Cx) (W : WX) (st : Stmt) (f : MS) : Prop := PS X st (tS X.K W f)
abbrev PDB (X : Cx) (W : WX) (sts : List Stmt) (f : MS) : Prop := PSs X sts (tS X.K W f)

section
variable {K : PySem.W.Frag} {H H' H1 : Hp} {μ μ' μ1 : Mu} {W : WX} {Ex : XK} {m : Me} {ρ : En} {σ : St}
theorem Ok.ext {α β : Type} {R : Hp → Mu → α → β → Prop} {Q : β → Hp → Prop} {r : Res α} (h : Ok K Ex H μ R Q r) (e : Ext K H μ H1 μ1) : Ok K Ex H1 μ1 R Q r := by
  cases r with
  | no => exact h
  | exc x m' => exact fun H' μ' c d e' => h H' μ' c d (e.trans e')
  | ok a m' => exact fun v H' μ' e' => h v H' μ' (e.trans e')
theorem OkS.ext {D : Ends} {r : Fl} (h : OkS K W H μ D r) (e : Ext K H μ H1 μ1) : OkS K W H1 μ1 D r := by
  cases r with
  | no => exact h
  | exc x ρ m' => exact fun σ' H' μ' c d e' => h σ' H' μ' c d (e.trans e')
  | nx ρ m' => exact fun σ' H' μ' e' => h σ' H' μ' (e.trans e')
  | bk ρ m' => exact fun σ' H' μ' e' => h σ' H' μ' (e.trans e')
  | ct ρ m' => exact fun σ' H' μ' e' => h σ' H' μ' (e.trans e')
  | rt d m' => exact fun v H' μ' e' => h v H' μ' (e.trans e')
theorem OkS.ends {D D' : Ends} {r : Fl} (h : OkS K W H μ D r) (n : ∀ ρ m, r ≠ .nx ρ m) (e1 : D'.rt = D.rt) (e2 : D'.bk = D.bk) (e3 : D'.ct = D.ct) : OkS K W H μ D' r := by
  cases r with
  | nx ρ m' => exact absurd rfl (n ρ m')
  | no => exact h
  | exc x ρ m' => exact h
  | bk ρ m' => simpa only [OkS, e2] using h
  | ct ρ m' => simpa only [OkS, e3] using h
  | rt d m' => simpa only [OkS, e1] using h
/-- one thing after another -/
theorem seqR {α β γ δ : Type} {R : Hp → Mu → α → β → Prop} {R' : Hp → Mu → γ → δ → Prop} {Q : δ → Hp → Prop} {Q1 : β → Hp → Prop} {f : En → Me → Res α} {g : α → Me → Res γ}
    (q : Ok K (fun c d H' => W c d σ H') H μ R' Q ((f ρ m).bind g)) (hH : RH K H μ m) (hS : RS K H μ ρ σ)
    (h : ∀ a m1 v H1 μ1, Ext K H μ H1 μ1 → RH K H1 μ1 m1 → R H1 μ1 a v → RS K H1 μ1 ρ σ → Ok K (fun c d H' => W c d σ H') H1 μ1 R' Q (g a m1) → Q1 v H1) : tR K W R f σ H Q1 := by
  refine ⟨μ, ρ, m, hH, hS, ?_⟩
  cases e : f ρ m with
  | no => rw [e] at q; exact q
  | exc x m' => rw [e] at q; exact q
  | ok a m1 => rw [e] at q; exact fun v H1 μ1 x hH1 r => h a m1 v H1 μ1 x hH1 r (hS.ext x) (q.ext x)
/-- .. in a statement -/
def bindS {α : Type} (r : Res α) (ρ : En) (g : α → Me → Fl) : Fl := match r with
  | .no => .no
  | .exc x m => .exc x ρ m
  | .ok a m => g a m
@[simp] theorem bindS_ok {α : Type} {a : α} {m : Me} {ρ : En} {g : α → Me → Fl} : bindS (.ok a m) ρ g = g a m := rfl
@[simp] theorem bindS_no {α : Type} {ρ : En} {g : α → Me → Fl} : bindS .no ρ g = .no := rfl
@[simp] theorem bindS_exc {α : Type} {x : Exn} {m : Me} {ρ : En} {g : α → Me → Fl} : bindS (.exc x m) ρ g = .exc x ρ m := rfl
theorem seqS {α β : Type} {R : Hp → Mu → α → β → Prop} {D : Ends} {Q1 : β → Hp → Prop} {f : En → Me → Res α} {g : α → Me → Fl}
    (q : OkS K W H μ D (bindS (f ρ m) ρ g)) (hH : RH K H μ m) (hS : RS K H μ ρ σ)
    (h : ∀ a m1 v H1 μ1, Ext K H μ H1 μ1 → RH K H1 μ1 m1 → R H1 μ1 a v → RS K H1 μ1 ρ σ → OkS K W H1 μ1 D (g a m1) → Q1 v H1) : tR K W R f σ H Q1 := by
  refine ⟨μ, ρ, m, hH, hS, ?_⟩
  cases e : f ρ m with
  | no => rw [e] at q; exact q
  | exc x m' => rw [e] at q; exact fun H' μ' c d x hH' r => q σ H' μ' c d x hH' (hS.ext x) r
  | ok a m1 => rw [e] at q; exact fun v H1 μ1 x hH1 r => h a m1 v H1 μ1 x hH1 r (hS.ext x) (q.ext x)
end

section
variable {X : Cx} {W : WX} {e a b : Expr} {es : List Expr} {pos : Pos} {f g fa fb : ME}
theorem _root_.L2.PE.imp {t t' : TE} (h : PE X e t) (w : ∀ σ H Q, t' σ H Q → t σ H Q) : PE X e t' := ⟨fun pins s σ H Q I q => h.run pins s σ H Q I (w σ H Q q)⟩
theorem _root_.L2.PT.imp {t t' : TT} (h : PT X e t) (w : ∀ σ H Q, t' σ H Q → t σ H Q) : PT X e t' := ⟨fun pins s σ H Q I q => h.run pins s σ H Q I (w σ H Q q)⟩
theorem _root_.L2.PA.imp {t t' : TA} (h : PA X es t) (w : ∀ σ H Q, t' σ H Q → t σ H Q) : PA X es t' := ⟨fun pos pins s σ H Q I q => h.run pos pins s σ H Q I (w σ H Q q)⟩
theorem _root_.L2.PS.imp {st : Stmt} {t t' : TS} (h : PS X st t) (w : ∀ D σ H, t' D σ H → t D σ H) : PS X st t' := ⟨fun pins s σ H D I q => h.run pins s σ H D I (w D σ H q)⟩
theorem _root_.L2.PSs.imp {st : List Stmt} {t t' : TS} (h : PSs X st t) (w : ∀ D σ H, t' D σ H → t D σ H) : PSs X st t' := ⟨fun pins s σ H D I q => h.run pins s σ H D I (w D σ H q)⟩

/-! ### names, constants -/
def mVar (i : Nat) : ME := fun ρ m => match ρ[i]? with
  | some (some d) => .ok d m
  | _ => .no
theorem pd_var (i : Nat) {x : Str} (hN : X.N[i]? = some x := by rfl) (hv : Vis X.env.scope x := by first | exact Or.inl rfl | exact Or.inr (Or.inl rfl) | exact Or.inr (Or.inr rfl)) (hd : (x == ("__debug__" : Str)) = false := by decide)
    (hcd : (x == ("__classdict__" : Str)) = false := by decide) : PD X W (.Name x pos) (mVar i) :=
  (pe_var (i := i) hN hv hd hcd).imp fun σ H Q ⟨μ, ρ, m, hH, hS, q⟩ => by
    unfold mVar at q
    cases e : ρ[i]? with
    | none => simp only [e] at q; exact q.elim
    | some o =>
      cases o with
      | none => simp only [e] at q; exact q.elim
      | some d =>
        simp only [e] at q
        obtain ⟨v, h1, h2⟩ := hS.2 i d e
        exact ⟨v, h1, q v H μ .refl hH h2⟩
def mC (d : D) : ME := fun _ m => .ok d m
theorem pd_const {v : V} {d : D} (h : PE X e (tC v)) (r : ∀ H μ, RV X.K H μ d v) : PD X W e (mC d) := h.imp fun σ H Q ⟨μ, ρ, m, hH, hS, q⟩ => q v H μ .refl hH (r H μ)
theorem pd_int {i j} : PD X W (.Constant (.int i) j pos) (mC (.int i)) := pd_const pe_int fun _ _ => by simp [RV]
theorem pd_bl {i j} : PD X W (.Constant (.bool i) j pos) (mC (.bl i)) := pd_const pe_bl fun _ _ => by simp [RV]
theorem pd_non {j} : PD X W (.Constant .none j pos) (mC .non) := pd_const pe_non fun _ _ => by simp [RV]
theorem pd_str {x j} : PD X W (.Constant (.str x) j pos) (mC (.str x)) := pd_const pe_str fun _ _ => by simp [RV]

/-! ### argument lists, displays -/
def mNil : MA := fun _ m => .ok [] m
def mCons (f : ME) (g : MA) : MA := fun ρ m => (f ρ m).bind fun d m => (g ρ m).bind fun ds m => .ok (d :: ds) m
theorem pda_nil : PDA X W 0 [] mNil := PA.imp pa_nil fun σ H Q ⟨μ, ρ, m, hH, hS, q⟩ => q [] H μ .refl hH ⟨by simp [RVs], rfl⟩
theorem pda_cons {n : Nat} {f : ME} {g : MA} (he : PD X W e f) (hr : PDA X W n es g) (hs : starEach (e :: es) X.env = (false, eval e X.env) :: starEach es X.env := by rfl) : PDA X W (n + 1) (e :: es) (mCons f g) :=
  PA.imp (pa_cons he hr hs) fun σ H Q ⟨μ, ρ, m, hH, hS, q⟩ => by
    refine seqR q hH hS fun d m1 v H1 μ1 e1 hH1 r1 hS1 q1 => ?_
    refine seqR q1 hH1 hS1 fun ds m2 vs H2 μ2 e2 hH2 r2 hS2 q2 => ?_
    exact q2 (v :: vs) H2 μ2 .refl hH2 ⟨by simp only [RVs]; exact ⟨v, vs, rfl, RV.ext e2 d v r1, r2.1⟩, by simp [r2.2]⟩
def mTup (f : MA) : ME := fun ρ m => (f ρ m).bind fun ds m => .ok (.tup ds) m
def mLst (f : MA) : ME := fun ρ m => (f ρ m).bind fun ds m => .ok (.lst ds) m
def mNew (f : MA) : ME := fun ρ m => (f ρ m).bind fun ds m => .ok (.ref m.length) (m ++ [.lst ds])
theorem le_line {n : Nat} (h : n ≤ 1000) : n ≤ sizeLine := Nat.le_of_lt (small1000 h)
theorem pd_tup {x1} {n : Nat} {f : MA} (h : PDA X W n es f) (hn : n ≤ 1000 := by decide) : PD X W (.Tuple es x1 pos) (mTup f) :=
  (pe_tupN h).imp fun σ H Q ⟨μ, ρ, m, hH, hS, q⟩ => by
    refine seqR q hH hS fun ds m1 vs H1 μ1 e1 hH1 r1 hS1 q1 => ?_
    have hl := r1.1.length
    have hz : vs.length ≤ sizeLine := by rw [← hl, r1.2]; exact le_line hn
    refine ⟨hz, fun p o hd hp => ?_⟩
    have ex := Ext.new (o := .frz o (.tup vs)) hH1 hp
    refine q1 _ _ μ1 ex (hH1.new hp) ?_
    simp only [RV]
    exact ⟨p, vs, rfl, .inl ⟨o, upd_same, hd⟩, hz, RVs.ext ex _ _ r1.1⟩
theorem pd_lst {n : Nat} {f : MA} (h : PDA X W n es f) (hn : n ≤ 1000 := by decide) : PD X W (.List es pos) (mLst f) :=
  (pe_lst h).imp fun σ H Q ⟨μ, ρ, m, hH, hS, q⟩ => by
    refine seqR q hH hS fun ds m1 vs H1 μ1 e1 hH1 r1 hS1 q1 => ?_
    have hl := r1.1.length
    have hz : vs.length ≤ sizeLine := by rw [← hl, r1.2]; exact le_line hn
    refine ⟨hz, fun p hp => ?_⟩
    have ex := Ext.new (o := .lst vs) hH1 hp
    refine q1 _ _ μ1 ex (hH1.new hp) ?_
    simp only [RV]
    exact ⟨p, vs, rfl, ⟨hH1.notin hp, fun z => hH1.hid _ z hp⟩, upd_same, hz, RVs.ext ex _ _ r1.1⟩
/-- a list that will change -/
theorem pd_new {n : Nat} {f : MA} (h : PDA X W n es f) (hn : n ≤ 1000 := by decide) : PD X W (.List es pos) (mNew f) :=
  (pe_lst h).imp fun σ H Q ⟨μ, ρ, m, hH, hS, q⟩ => by
    refine seqR q hH hS fun ds m1 vs H1 μ1 e1 hH1 r1 hS1 q1 => ?_
    have hl := r1.1.length
    have hz : vs.length ≤ sizeLine := by rw [← hl, r1.2]; exact le_line hn
    refine ⟨hz, fun p hp => ?_⟩
    have ex := Ext.cell (o := .lst vs) hH1 hp
    refine q1 _ _ (μ1.add p) ex (hH1.cell hp ⟨vs, upd_same, hz, RVs.ext ex _ _ r1.1⟩) ?_
    simp only [RV]
    exact ⟨p, rfl, by simp [Mu.add, ← hH1.len]⟩
/-- {} that will change -/
def mNewK : ME := fun _ m => .ok (.ref m.length) (m ++ [.dK []])
def mNewT : ME := fun _ m => .ok (.ref m.length) (m ++ [.dT []])
theorem pd_newK : PD X W (.Dict [] [] pos) mNewK := pe_dnewK.imp fun σ H Q ⟨μ, ρ, m, hH, hS, q⟩ p hp => by
  refine q _ _ (μ.add p) (Ext.cell hH hp) (hH.cell hp ⟨[], upd_same, by simp [RVk]⟩) ?_
  simp only [RV]
  exact ⟨p, rfl, by simp [Mu.add, ← hH.len]⟩
theorem pd_newT : PD X W (.Dict [] [] pos) mNewT := pe_dnewT.imp fun σ H Q ⟨μ, ρ, m, hH, hS, q⟩ p hp => by
  refine q _ _ (μ.add p) (Ext.cell hH hp) (hH.cell hp ⟨[], upd_same, .nil⟩) ?_
  simp only [RV]
  exact ⟨p, rfl, by simp [Mu.add, ← hH.len]⟩

/-! ### operators -/
def m1 (g : D → Me → Res D) (fa : ME) : ME := fun ρ m => (fa ρ m).bind g
def m2 (g : D → D → Me → Res D) (fa fb : ME) : ME := fun ρ m => (fa ρ m).bind fun d m => (fb ρ m).bind fun d' m => g d d' m
/-- a rule over values and a function over data -/
def G2 (K : PySem.W.Frag) (r : R2) (g : D → D → Me → Res D) : Prop := ∀ (Ex : XK) (H : Hp) (μ : Mu) (m : Me) (d d' : D) (x y : V) (Q : VK), RH K H μ m → RV K H μ d x → RV K H μ d' y → Ok K Ex H μ (RVv K) Q (g d d' m) → r x y H Q
def G1 (K : PySem.W.Frag) (r : V → Hp → VK → Prop) (g : D → Me → Res D) : Prop := ∀ (Ex : XK) (H : Hp) (μ : Mu) (m : Me) (d : D) (x : V) (Q : VK), RH K H μ m → RV K H μ d x → Ok K Ex H μ (RVv K) Q (g d m) → r x H Q
theorem seq2 {r : R2} {g : D → D → Me → Res D} (hg : G2 X.K r g) {σ : St} {H : Hp} {Q : VK} (h : tR X.K W (RVv X.K) (m2 g fa fb) σ H Q) : tOp r (tR X.K W (RVv X.K) fa) (tR X.K W (RVv X.K) fb) σ H Q := by
  obtain ⟨μ, ρ, m, hH, hS, q⟩ := h
  refine seqR q hH hS fun d m1 v H1 μ1 e1 hH1 r1 hS1 q1 => ?_
  refine seqR q1 hH1 hS1 fun d' m2 v' H2 μ2 e2 hH2 r2 hS2 q2 => ?_
  exact hg _ H2 μ2 m2 d d' v v' Q hH2 (RV.ext e2 d v r1) r2 q2
theorem pd_op {op : Operator} {r : R2} {g : D → D → Me → Res D} (ho : OpR X (binaryOp op) r) (hg : G2 X.K r g) (ha : PD X W a fa) (hb : PD X W b fb) : PD X W (.BinOp a op b pos) (m2 g fa fb) :=
  (pe_op ho ha hb).imp fun σ H Q h => seq2 hg h
theorem pd_un {op : UnaryOp} {r : V → Hp → VK → Prop} {g : D → Me → Res D} (ho : UnR X (unaryOp op) r) (hg : G1 X.K r g) (ha : PD X W a fa) : PD X W (.UnaryOp op a pos) (m1 g fa) :=
  (pe_un ho ha).imp fun σ H Q ⟨μ, ρ, m, hH, hS, q⟩ => seqR q hH hS fun d m1 v H1 μ1 e1 hH1 r1 hS1 q1 => hg _ H1 μ1 m1 d v Q hH1 r1 q1
theorem pd_cmp {op : CmpOp} {r : R2} {g : D → D → Me → Res D} (ho : OpR X (compareOp op) r) (hg : G2 X.K r g) (ha : PD X W a fa) (hb : PD X W b fb) (hm : behindInMarks op b = false) : PD X W (.Compare a [op] [b] pos) (m2 g fa fb) :=
  (pe_cmpR ho ha hb hm).imp fun σ H Q h => seq2 hg h
theorem pd_ix {r : R2} {g : D → D → Me → Res D} (ho : IxR X r) (hg : G2 X.K r g) (ha : PD X W a fa) (hb : PD X W b fb) (hs : PlainIx b := by exact fun _ _ => rfl) : PD X W (.Subscript a b pos) (m2 g fa fb) :=
  (pe_ix ho ha hb hs).imp fun σ H Q h => seq2 hg h

/-! ### tests -/
def asB (d : D) (m : Me) : Res Bool := match d with
  | .bl b => .ok b m
  | _ => .no
def mB (f : ME) : MT := fun ρ m => (f ρ m).bind asB
theorem okB {K : PySem.W.Frag} {Ex : XK} {H : Hp} {μ : Mu} {m : Me} {d : D} {v : V} {Q : Bool → Hp → Prop} (hH : RH K H μ m) (r : RV K H μ d v) (q : Ok K Ex H μ RVB Q (asB d m)) : ∃ c, v = .bl c ∧ Q c H := by
  cases d with
  | bl b => simp only [RV] at r; exact ⟨b, r, q b H μ .refl hH rfl⟩
  | _ => exact q.elim
/-- an expression that gives a truth, as a test -/
theorem pdt_val (h : PD X W e f) (he : ∀ whole, isTrue e X.env whole = (do let v ← whole; standAt e.pos; holding [v] (truthy v)) := by intro _; rfl) : PDT X W e (mB f) :=
  (pt_val h he).imp fun σ H Q ⟨μ, ρ, m, hH, hS, q⟩ => seqR q hH hS fun d m1 v H1 μ1 e1 hH1 r1 hS1 q1 => okB hH1 r1 q1
theorem pdt_cmp {op : CmpOp} {r : R2} {g : D → D → Me → Res D} (ho : OpR X (compareOp op) r) (hg : G2 X.K r g) (ha : PD X W a fa) (hb : PD X W b fb) (hm : behindInMarks op b = false) : PDT X W (.Compare a [op] [b] pos) (mB (m2 g fa fb)) :=
  (pt_cmpR ho ha hb hm).imp fun σ H Q ⟨μ, ρ, m, hH, hS, q⟩ => by
    refine seq2 hg ?_
    exact seqR q hH hS fun d m1 v H1 μ1 e1 hH1 r1 hS1 q1 => okB hH1 r1 q1
def mAnd (f g : MT) : MT := fun ρ m => (f ρ m).bind fun b m => if b = true then g ρ m else .ok false m
def mOr (f g : MT) : MT := fun ρ m => (f ρ m).bind fun b m => if b = true then .ok true m else g ρ m
def mNot (f : MT) : MT := fun ρ m => (f ρ m).bind fun b m => .ok (!b) m
abbrev PDW (X : Cx) (W : WX) (e : Expr) (f : MT) : Prop := PW X e (tR X.K W RVB f)
theorem _root_.L2.PW.imp {t t' : TT} (h : PW X e t) (w : ∀ σ H Q, t' σ H Q → t σ H Q) : PW X e t' := ⟨fun wh pins s σ H Q I q => h.run wh pins s σ H Q I (w σ H Q q)⟩
theorem pdw_and1 {f : MT} (h : PDT X W a f) : PDW X W (.BoolOp .And [a] pos) f := pw_and1 h
theorem pdw_or1 {f : MT} (h : PDT X W a f) : PDW X W (.BoolOp .Or [a] pos) f := pw_or1 h
theorem pdw_and {f g : MT} {rest : List Expr} (ha : PDT X W a f) (hb : PDW X W (.BoolOp .And (b :: rest) pos) g) : PDW X W (.BoolOp .And (a :: b :: rest) pos) (mAnd f g) :=
  PW.imp (pw_and ha hb) fun σ H Q ⟨μ, ρ, m, hH, hS, q⟩ => seqR q hH hS fun d m1 v H1 μ1 e1 hH1 r1 hS1 q1 => by
    subst r1
    cases d with
    | true => exact ⟨μ1, ρ, m1, hH1, hS1, q1⟩
    | false => exact q1 false H1 μ1 .refl hH1 rfl
theorem pdw_or {f g : MT} {rest : List Expr} (ha : PDT X W a f) (hb : PDW X W (.BoolOp .Or (b :: rest) pos) g) : PDW X W (.BoolOp .Or (a :: b :: rest) pos) (mOr f g) :=
  PW.imp (pw_or ha hb) fun σ H Q ⟨μ, ρ, m, hH, hS, q⟩ => seqR q hH hS fun d m1 v H1 μ1 e1 hH1 r1 hS1 q1 => by
    subst r1
    cases d with
    | false => exact ⟨μ1, ρ, m1, hH1, hS1, q1⟩
    | true => exact q1 true H1 μ1 .refl hH1 rfl
theorem pdt_w {f : MT} (h : PDW X W e f) : PDT X W e f := PW.pt h
theorem pdt_not {f : MT} (ha : PDT X W a f) : PDT X W (.UnaryOp .Not a pos) (mNot f) :=
  (pt_not ha).imp fun σ H Q ⟨μ, ρ, m, hH, hS, q⟩ => seqR q hH hS fun d m1 v H1 μ1 e1 hH1 r1 hS1 q1 => by subst r1; exact q1 (!d) H1 μ1 .refl hH1 rfl
/-- truths as values: and, or, not; the last part may be any value -/
def mAndV (f g : ME) : ME := fun ρ m => (f ρ m).bind fun d m => match d with
  | .bl true => g ρ m
  | .bl false => .ok (.bl false) m
  | _ => .no
def mOrV (f g : ME) : ME := fun ρ m => (f ρ m).bind fun d m => match d with
  | .bl true => .ok (.bl true) m
  | .bl false => g ρ m
  | _ => .no
def mNotV (f : ME) : ME := fun ρ m => (f ρ m).bind fun d m => match d with
  | .bl b => .ok (.bl (!b)) m
  | _ => .no
theorem pd_one {op} (h : PD X W a f) : PD X W (.BoolOp op [a] pos) f := pe_one h
theorem pd_and {rest : List Expr} (ha : PD X W a f) (hb : PD X W (.BoolOp .And (b :: rest) pos) g) : PD X W (.BoolOp .And (a :: b :: rest) pos) (mAndV f g) :=
  (pe_and ha hb).imp fun σ H Q ⟨μ, ρ, m, hH, hS, q⟩ => seqR q hH hS fun d m1 v H1 μ1 e1 hH1 r1 hS1 q1 => by
    cases d with
    | bl b =>
      simp only [RVv, RV] at r1
      cases b with
      | true => exact ⟨true, r1, by rw [if_pos rfl]; exact ⟨μ1, ρ, m1, hH1, hS1, q1⟩⟩
      | false => exact ⟨false, r1, by rw [if_neg Bool.false_ne_true]; exact q1 _ H1 μ1 .refl hH1 (by simp [RV])⟩
    | _ => exact q1.elim
theorem pd_or {rest : List Expr} (ha : PD X W a f) (hb : PD X W (.BoolOp .Or (b :: rest) pos) g) : PD X W (.BoolOp .Or (a :: b :: rest) pos) (mOrV f g) :=
  (pe_or ha hb).imp fun σ H Q ⟨μ, ρ, m, hH, hS, q⟩ => seqR q hH hS fun d m1 v H1 μ1 e1 hH1 r1 hS1 q1 => by
    cases d with
    | bl b =>
      simp only [RVv, RV] at r1
      cases b with
      | false => exact ⟨false, r1, by rw [if_neg Bool.false_ne_true]; exact ⟨μ1, ρ, m1, hH1, hS1, q1⟩⟩
      | true => exact ⟨true, r1, by rw [if_pos rfl]; exact q1 _ H1 μ1 .refl hH1 (by simp [RV])⟩
    | _ => exact q1.elim
theorem pd_not (ha : PD X W a f) : PD X W (.UnaryOp .Not a pos) (mNotV f) :=
  (pe_not ha).imp fun σ H Q ⟨μ, ρ, m, hH, hS, q⟩ => seqR q hH hS fun d m1 v H1 μ1 e1 hH1 r1 hS1 q1 => by
    cases d with
    | bl b => simp only [RVv, RV] at r1; exact ⟨b, r1, q1 _ H1 μ1 .refl hH1 (by simp [RV])⟩
    | _ => exact q1.elim
def mIf (c : MT) (f g : ME) : ME := fun ρ m => (c ρ m).bind fun b m => if b = true then f ρ m else g ρ m
theorem pd_if {c : Expr} {fc : MT} (hc : PDT X W c fc) (ha : PD X W a f) (hb : PD X W b g) : PD X W (.IfExp c a b pos) (mIf fc f g) :=
  (pe_ifExp hc ha hb).imp fun σ H Q ⟨μ, ρ, m, hH, hS, q⟩ => seqR q hH hS fun d m1 v H1 μ1 e1 hH1 r1 hS1 q1 => by
    subst r1
    cases d with
    | true => rw [if_pos rfl]; exact ⟨μ1, ρ, m1, hH1, hS1, q1⟩
    | false => rw [if_neg Bool.false_ne_true]; exact ⟨μ1, ρ, m1, hH1, hS1, q1⟩

/-! ### blocks -/
section
variable {st : Stmt} {sts rest : List Stmt} {f' g' : MS}
def sNext : MS := fun ρ m => .nx ρ m
def sSeq (f g : MS) : MS := fun ρ m => match f ρ m with
  | .nx ρ m => g ρ m
  | r => r
theorem pdb_nil : PDB X W [] sNext := PSs.imp pss_nil fun D σ H ⟨μ, ρ, m, hH, hS, q⟩ => q σ H μ .refl hH hS
theorem pdb_cons {f g : MS} (h1 : PDS X W st f) (h2 : PDB X W rest g) : PDB X W (st :: rest) (sSeq f g) :=
  PSs.imp (pss_cons h1 h2) fun D σ H ⟨μ, ρ, m, hH, hS, q⟩ => by
    refine ⟨μ, ρ, m, hH, hS, ?_⟩
    unfold sSeq at q
    cases e : f ρ m with
    | nx ρ1 m1 => rw [e] at q; exact fun σ' H' μ' e1 hH1 hS1 => ⟨μ', ρ1, m1, hH1, hS1, q.ext e1⟩
    | no => rw [e] at q; exact q
    | exc x ρ1 m1 => rw [e] at q; exact q
    | rt d m1 => rw [e] at q; exact q
    | bk ρ1 m1 => rw [e] at q; exact q
    | ct ρ1 m1 => rw [e] at q; exact q
theorem pdb_one {f : MS} (h : PDS X W st f) : PDB X W [st] (sSeq f sNext) := pdb_cons h pdb_nil
def sSet (i : Nat) (f : ME) : MS := fun ρ m => bindS (f ρ m) ρ fun d m => .nx (ρ.set i (some d)) m
theorem pds_set (i : Nat) {x : Str} {e : Expr} {f : ME} {pos' : Pos} (hN : X.N.Nodup) (he : PD X W e f) (hi : X.N[i]? = some x := by rfl) (hx : Loc X.env.scope x := by first | exact .inl rfl | exact .inr rfl) (hs : swapsWith e (some (.Name x pos')) pos.line X.env = pure false := by rfl)
    (hf : X.fn x = true ∨ X.env.scope.names.lookup x = some .local := by first | exact .inl rfl | exact .inr rfl | assumption) : PDS X W (.Assign [.Name x pos'] e pos) (sSet i f) :=
  PS.imp (ps_set hN hi hx he hs hf) fun D σ H ⟨μ, ρ, m, hH, hS, q⟩ => seqS q hH hS fun d m1 v H1 μ1 e1 hH1 r1 hS1 q1 => q1 _ H1 μ1 .refl hH1 (hS1.set r1 i)
def sRet (f : ME) : MS := fun ρ m => bindS (f ρ m) ρ fun d m => .rt d m
theorem pds_ret {f : ME} (he : PD X W e f) : PDS X W (.Return (some e) pos) (sRet f) :=
  PS.imp (ps_ret he) fun D σ H ⟨μ, ρ, m, hH, hS, q⟩ => seqS q hH hS fun d m1 v H1 μ1 e1 hH1 r1 hS1 q1 => q1 v H1 μ1 .refl hH1 r1
def sRetN : MS := fun _ m => .rt .non m
theorem pds_retN : PDS X W (.Return none pos) sRetN := PS.imp ps_retN fun D σ H ⟨μ, ρ, m, hH, hS, q⟩ => q _ H μ .refl hH (by simp [RV])
def sDo (f : ME) : MS := fun ρ m => bindS (f ρ m) ρ fun _ m => .nx ρ m
theorem pds_expr {f : ME} (he : PD X W e f) (hs : swapsWith e none pos.line X.env = pure false := by rfl) : PDS X W (.Expr e pos) (sDo f) :=
  PS.imp (ps_expr he hs) fun D σ H ⟨μ, ρ, m, hH, hS, q⟩ => seqS q hH hS fun d m1 v H1 μ1 e1 hH1 r1 hS1 q1 => q1 σ H1 μ1 .refl hH1 hS1
def sIf (c : MT) (f g : MS) : MS := fun ρ m => bindS (c ρ m) ρ fun b m => if b = true then f ρ m else g ρ m
theorem pds_if {c : Expr} {fc : MT} {body orelse : List Stmt} {f g : MS} (hc : PDT X W c fc) (h1 : PDB X W body f) (h2 : PDB X W orelse g) : PDS X W (.If c body orelse pos) (sIf fc f g) :=
  PS.imp (ps_if hc h1 h2) fun D σ H ⟨μ, ρ, m, hH, hS, q⟩ => seqS q hH hS fun d m1 v H1 μ1 e1 hH1 r1 hS1 q1 => by
    subst r1
    cases d with
    | true => rw [if_pos rfl]; exact ⟨μ1, ρ, m1, hH1, hS1, q1⟩
    | false => rw [if_neg Bool.false_ne_true]; exact ⟨μ1, ρ, m1, hH1, hS1, q1⟩
def sBk : MS := fun ρ m => .bk ρ m
def sCt : MS := fun ρ m => .ct ρ m
theorem pds_break : PDS X W (.Break pos) sBk := PS.imp ps_break fun D σ H ⟨μ, ρ, m, hH, hS, q⟩ => q σ H μ .refl hH hS
theorem pds_cont : PDS X W (.Continue pos) sCt := PS.imp ps_continue fun D σ H ⟨μ, ρ, m, hH, hS, q⟩ => q σ H μ .refl hH hS
theorem pds_pass : PDS X W (.Pass pos) sNext := PS.imp ps_pass fun D σ H ⟨μ, ρ, m, hH, hS, q⟩ => q σ H μ .refl hH hS
end
end
end FL

set_option maxRecDepth 100000
namespace FL
open PySem L2

/-! ### what is walked -/
/-- an iterator that gives these data as long as the heap goes on and the guard holds -/
def Goes1 (K : PySem.W.Frag) (J : It) (H0 : Hp) (μ0 : Mu) (ds : List D) (gd : Me → Bool) : Prop :=
  ∀ H μ m, Tr K H0 μ0 H μ → RH K H μ m → gd m = true →
    (∀ i d, ds[i]? = some d → J.go i H ∧ ∀ x H', J.yld i H x H' → Ext K H μ H' μ ∧ RH K H' μ m ∧ RV K H' μ d x) ∧ J.stop ds.length H
abbrev RIt (K : PySem.W.Frag) : Hp → Mu → List D × (Me → Bool) → It → Prop := fun H μ p J => p.1.length ≤ sizeLine ∧ Goes1 K J H μ p.1 p.2
abbrev MI := En → Me → Res (List D × (Me → Bool))
abbrev PDI (X : Cx) (W : WX) (tg e : Expr) (f : MI) : Prop := PI X tg e (tR X.K W (RIt X.K) f)
section
variable {X : Cx} {W : WX} {tg e a b : Expr} {es : List Expr} {p pos : Pos}
theorem _root_.L2.PI.imp {t t' : TI} (h : PI X tg e t) (w : ∀ σ H R, t' σ H R → t σ H R) : PI X tg e t' := ⟨fun pins s σ H R I q => h.run pins s σ H R I (w σ H R q)⟩
/-- a list or a tuple -/
theorem pi_seq {te : TE} (he : PE X e te) : PI X tg e (fun σ H R => te σ H fun x H1 => (∃ a, x = .ref a ∧ (∃ xs, SqL X.K H1 a xs) ∧ R (Itl X.K a) H1) ∨ ∃ a, x = .ref a ∧ (∃ xs, SqT X.K H1 a xs) ∧ R (Itt X.K a) H1) := by
  constructor
  intro pins s σ H R I h
  refine thn (he.run pins s σ H _ I h) ?_
  rintro v s1 ⟨x, H1, I1, r1, ⟨a, rfl, ⟨xs, hq⟩, q⟩ | ⟨a, rfl, ⟨xs, hq⟩, q⟩⟩
  all_goals cases r1
  · obtain ⟨its, _, pl, _⟩ := I1.list hq
    refine wpAny_pyIter_list pl.isList ⟨_, [s1.heap.objs.size], _, _, H1, rfl, ?_, turn_list a _, ?_, ?_, q⟩
    · exact I1.kept (t' := s1.toks) fun b o z => Heap.get?_push_of_some _ z
    · exact ⟨_, Heap.get?_push_size _ rfl, rfl, rfl⟩
    · intro b hb
      rw [List.mem_singleton.mp hb]
      exact I1.fpOk (Nat.le_refl _) (I1.hok.fresh (Nat.le_refl _))
  · obtain ⟨its, _, pl, _⟩ := I1.tuple hq
    refine wpAny_pyIter_tuple (show s1.heap.IsTuple a its.toArray from pl) ⟨_, [s1.heap.objs.size], _, _, H1, rfl, ?_, turn_tuple a _, ?_, ?_, q⟩
    · exact I1.kept (t' := s1.toks) fun b o z => Heap.get?_push_of_some _ z
    · exact ⟨_, Heap.get?_push_size _ rfl, rfl, rfl⟩
    · intro b hb
      rw [List.mem_singleton.mp hb]
      exact I1.fpOk (Nat.le_refl _) (I1.hok.fresh (Nat.le_refl _))
def gdY : Me → Bool := fun _ => true
noncomputable def gdL (i : Nat) (ds : List D) : Me → Bool := fun m => @decide (m[i]? = some (.lst ds)) (Classical.propDecidable _)
/-- the items of a sequence -/
noncomputable def asIt (d : D) (m : Me) : Res (List D × (Me → Bool)) := match d with
  | .tup ds => .ok (ds, gdY) m
  | .lst ds => .ok (ds, gdY) m
  | .ref i => match m[i]? with
    | some (.lst ds) => .ok (ds, gdL i ds) m
    | _ => .no
  | _ => .no
noncomputable def iSeq (f : ME) : MI := fun ρ m => (f ρ m).bind asIt
theorem SqL.ext {K : PySem.W.Frag} {H H' : Hp} {μ μ' : Mu} (x : Tr K H μ H' μ') {a : Addr} {vs : List V} (n : a ∉ μ.l ∧ a ∉ μ.h) (h : H a = some (.lst vs)) : SqL K H' a vs := .of (x.dat a (.lst vs) n trivial h).1
theorem goes_list {K : PySem.W.Frag} {H : Hp} {μ : Mu} {a : Addr} {vs : List V} {ds : List D} (n : a ∉ μ.l ∧ a ∉ μ.h) (h : H a = some (.lst vs)) (r : RVs K H μ ds vs) : Goes1 K (Itl K a) H μ ds gdY := by
  intro H1 μ1 m x hH _
  have hs := SqL.ext x n h
  have r1 := RVs.map x _ _ r
  refine ⟨fun i d e => ?_, vs, hs, by rw [r1.length]; exact Nat.le_refl _⟩
  obtain ⟨v, h1, h2⟩ := r1.get e
  refine ⟨⟨vs, v, hs, h1⟩, ?_⟩
  rintro y H' ⟨rfl, hy⟩
  have hy' := hy vs hs
  rw [h1] at hy'; cases hy'
  exact ⟨.refl, hH, h2⟩
theorem goes_tup {K : PySem.W.Frag} {H : Hp} {μ : Mu} {a : Addr} {vs : List V} {ds : List D} (h : TupN K H a vs) (r : RVs K H μ ds vs) : Goes1 K (Itt K a) H μ ds gdY := by
  intro H1 μ1 m x hH _
  have hs := (x.tup a vs h).sq
  have r1 := RVs.map x _ _ r
  refine ⟨fun i d e => ?_, vs, hs, by rw [r1.length]; exact Nat.le_refl _⟩
  obtain ⟨v, h1, h2⟩ := r1.get e
  refine ⟨⟨vs, v, hs, h1⟩, ?_⟩
  rintro y H' ⟨rfl, hy⟩
  have hy' := hy vs hs
  rw [h1] at hy'; cases hy'
  exact ⟨.refl, hH, h2⟩
theorem goes_cell {K : PySem.W.Frag} {H : Hp} {μ : Mu} {a : Addr} {i : Nat} {ds : List D} (ha : μ.l[i]? = some a) : Goes1 K (Itl K a) H μ ds (gdL i ds) := by
  intro H1 μ1 m x hH g
  have g' : m[i]? = some (.lst ds) := @of_decide_eq_true _ (Classical.propDecidable _) g
  obtain ⟨a', e, vs, h1, hz, r1⟩ := hH.at' i _ g'
  rw [x.get i a ha] at e; cases e
  have hs : SqL K H1 a vs := .of h1
  refine ⟨fun j d e => ?_, vs, hs, by rw [r1.length]; exact Nat.le_refl _⟩
  obtain ⟨v, h3, h2⟩ := r1.get e
  refine ⟨⟨vs, v, hs, h3⟩, ?_⟩
  rintro y H' ⟨rfl, hy⟩
  have hy' := hy vs hs
  rw [h3] at hy'; cases hy'
  exact ⟨.refl, hH, h2⟩
theorem pdi_seq {f : ME} (he : PD X W e f) : PDI X W tg e (iSeq f) :=
  PI.imp (pi_seq he) fun σ H R ⟨μ, ρ, m, hH, hS, q⟩ => seqR q hH hS fun d m1 v H1 μ1 e1 hH1 r1 hS1 q1 => by
    cases d with
    | tup ds =>
      simp only [RVv, RV] at r1
      obtain ⟨a, vs, rfl, hs, hz, hr⟩ := r1
      exact .inr ⟨a, rfl, ⟨vs, hs.sq⟩, q1 _ H1 μ1 .refl hH1 ⟨by rw [hr.length]; exact hz, goes_tup hs hr⟩⟩
    | lst ds =>
      simp only [RVv, RV] at r1
      obtain ⟨a, vs, rfl, hn, hs, hz, hr⟩ := r1
      exact .inl ⟨a, rfl, ⟨vs, .of hs⟩, q1 _ H1 μ1 .refl hH1 ⟨by rw [hr.length]; exact hz, goes_list hn hs hr⟩⟩
    | ref i =>
      simp only [RVv, RV] at r1
      obtain ⟨a, rfl, ha⟩ := r1
      unfold asIt at q1
      cases e : m1[i]? with
      | none => simp only [e] at q1; exact q1.elim
      | some c =>
        cases c with
        | lst ds =>
          simp only [e] at q1
          obtain ⟨a', e', vs, h1, hz, r2⟩ := hH1.at' i _ e
          rw [ha] at e'; cases e'
          exact .inl ⟨a, rfl, ⟨vs, .of h1⟩, q1 _ H1 μ1 .refl hH1 ⟨by rw [r2.length]; exact hz, goes_cell ha⟩⟩
        | _ => simp only [e] at q1; exact q1.elim
    | _ => exact q1.elim
/-- ranges of at most a million -/
def rngL (i : Int) (n : Nat) : List D := (List.range n).map fun (k : Nat) => .int (i + k)
theorem goes_rng {K : PySem.W.Frag} {H : Hp} {μ : Mu} {i : Int} {n : Nat} : Goes1 K (Itr i n) H μ (rngL i n) gdY := by
  intro H1 μ1 m x hH _
  refine ⟨fun j d e => ?_, by show n ≤ (rngL i n).length; simp [rngL]⟩
  have hj : j < n := by
    have := (List.getElem?_eq_some_iff.mp e).1
    simpa [rngL] using this
  refine ⟨hj, ?_⟩
  rintro y H' ⟨rfl, rfl⟩
  have : d = .int (i + j) := by
    simp [rngL, hj] at e
    exact e.symm
  subst this
  exact ⟨.refl, hH, by simp [RV]⟩
def iRange1 (f : MA) : MI := fun ρ m => (f ρ m).bind fun ds m => match ds with
  | [.int j] => if j ≤ 1000000 ∧ -1000000 ≤ j then .ok (rngL 0 j.toNat, gdY) m else .no
  | _ => .no
def iRange2 (f : MA) : MI := fun ρ m => (f ρ m).bind fun ds m => match ds with
  | [.int i, .int j] => if (j ≤ 1000000 ∧ -1000000 ≤ j) ∧ i ≤ 1000000 ∧ -1000000 ≤ i then .ok (rngL i (j - i).toNat, gdY) m else .no
  | _ => .no
theorem small62 {j : Int} (h : j ≤ 1000000 ∧ -1000000 ≤ j) : -(2 ^ 62) ≤ j ∧ j < 2 ^ 62 := by omega
theorem rng_len {i : Int} {n : Nat} (h : n ≤ 2000000) : (rngL i n).length ≤ sizeLine := by
  rw [sizeLine_eq]; simp [rngL]; omega
theorem ints1 {K : PySem.W.Frag} {H : Hp} {μ : Mu} {j : Int} {vs : List V} (r : RVs K H μ [.int j] vs) : vs = [.int j] := by
  simp only [RVs, RV] at r
  obtain ⟨v, r, rfl, rfl, rfl⟩ := r
  rfl
theorem ints2 {K : PySem.W.Frag} {H : Hp} {μ : Mu} {i j : Int} {vs : List V} (r : RVs K H μ [.int i, .int j] vs) : vs = [.int i, .int j] := by
  simp only [RVs, RV] at r
  obtain ⟨v, r, rfl, rfl, v', r', rfl, rfl, rfl⟩ := r
  rfl
theorem pdi_range1 {f : MA} (hg : Gl X "range") (hm : X.mg "range" = none) (ha : PDA X W 1 [a] f) (hs : starEach [a] X.env = [(false, eval a X.env)] := by rfl) : PDI X W tg (.Call (.Name "range" p) [a] [] pos) (iRange1 f) :=
  PI.imp (pi_range1 hg hm ha hs) fun σ H R ⟨μ, ρ, m, hH, hS, q⟩ => seqR q hH hS fun ds m1 vs H1 μ1 e1 hH1 r1 hS1 q1 => by
    split at q1
    · rename_i j
      split at q1
      · rename_i hj
        refine ⟨j, ints1 r1.1, (small62 hj).1, (small62 hj).2, q1 _ H1 μ1 .refl hH1 ⟨rng_len (by omega), goes_rng⟩⟩
      · exact q1.elim
    · exact q1.elim
theorem pdi_range2 {f : MA} (hg : Gl X "range") (hm : X.mg "range" = none) (ha : PDA X W 2 [a, b] f) (hs : starEach [a, b] X.env = [(false, eval a X.env), (false, eval b X.env)] := by rfl) (hs2 : starEach [b] X.env = [(false, eval b X.env)] := by rfl) :
    PDI X W tg (.Call (.Name "range" p) [a, b] [] pos) (iRange2 f) :=
  PI.imp (pi_range2 hg hm ha hs hs2) fun σ H R ⟨μ, ρ, m, hH, hS, q⟩ => seqR q hH hS fun ds m1 vs H1 μ1 e1 hH1 r1 hS1 q1 => by
    split at q1
    · rename_i i j
      split at q1
      · rename_i hj
        refine ⟨i, j, ints2 r1.1, ⟨(small62 hj.2).1, (small62 hj.2).2, (small62 hj.1).1, (small62 hj.1).2⟩, q1 _ H1 μ1 .refl hH1 ⟨rng_len (by omega), goes_rng⟩⟩
      · exact q1.elim
    · exact q1.elim
end

/-! ### targets -/
theorem wipe_get (vs : List Nat) : ∀ (σ : St) (j : Nat), (wipe σ vs)[j]? = if j ∈ vs then (σ[j]?).map fun _ => none else σ[j]? := by
  induction vs with
  | nil => intro σ j; simp [wipe]
  | cons v vs ih =>
    intro σ j
    unfold wipe
    by_cases hv : v = j
    · subst hv
      rw [List.getElem?_set]
      simp only [if_true, wipe_length, List.mem_cons, true_or]
      by_cases hl : v < σ.length
      · simp [hl]
      · simp [hl]
    · rw [List.getElem?_set_ne hv, ih]
      have : (j ∈ v :: vs) ↔ j ∈ vs := by
        rw [List.mem_cons]; constructor
        · rintro (h | h)
          · exact absurd h.symm hv
          · exact h
        · exact .inr
      simp only [this]
theorem wipe_ext {σ σ' : St} {vs : List Nat} (hl : σ.length = σ'.length) (h : ∀ j, j ∉ vs → σ[j]? = σ'[j]?) : wipe σ vs = wipe σ' vs := by
  apply List.ext_getElem?
  intro j
  rw [wipe_get, wipe_get]
  by_cases hj : j ∈ vs
  · simp only [hj, if_true]
    by_cases hl' : j < σ.length
    · rw [List.getElem?_eq_getElem hl', List.getElem?_eq_getElem (by omega)]; rfl
    · rw [List.getElem?_eq_none (by omega), List.getElem?_eq_none (by omega)]
  · simp only [hj, if_false]; exact h j hj
def wipeD (ρ : En) : List Nat → En
  | [] => ρ
  | v :: vs => (wipeD ρ vs).set v none
theorem RS.none {K : PySem.W.Frag} {H : Hp} {μ : Mu} {ρ : En} {σ : St} (h : RS K H μ ρ σ) (i : Nat) : RS K H μ (ρ.set i none) (σ.set i none) := by
  refine ⟨by rw [List.length_set, List.length_set]; exact h.1, fun j e q => ?_⟩
  by_cases hj : i = j
  · subst hj
    by_cases hl : i < ρ.length
    · rw [List.getElem?_set_self hl] at q; cases q
    · rw [List.getElem?_eq_none (by rw [List.length_set]; omega)] at q; cases q
  · rw [List.getElem?_set_ne hj] at q ⊢
    exact h.2 j e q
theorem RS.wipe {K : PySem.W.Frag} {H : Hp} {μ : Mu} {ρ : En} {σ : St} (h : RS K H μ ρ σ) : ∀ vs : List Nat, RS K H μ (wipeD ρ vs) (wipe σ vs)
  | [] => h
  | v :: vs => (RS.wipe h vs).none v
/-- a target's rule and what it does to the names -/
def TgOk (K : PySem.W.Frag) (t : TG) (is : List Nat) (gt : D → En → Option En) : Prop := ∀ (d : D) (v : V) (ρ ρ' : En) (σ : St) (H : Hp) (μ : Mu) (Q : St → Hp → Prop), RS K H μ ρ σ → RV K H μ d v → gt d ρ = some ρ' →
  (∀ σ', RS K H μ ρ' σ' → σ'.length = σ.length → (∀ j, j ∉ is → σ'[j]? = σ[j]?) → Q σ' H) → t v σ H Q
def TgsOk (K : PySem.W.Frag) (t : TGs) (is : List Nat) (gt : List D → En → Option En) : Prop := ∀ (d : List D) (v : List V) (ρ ρ' : En) (σ : St) (H : Hp) (μ : Mu) (Q : St → Hp → Prop), RS K H μ ρ σ → RVs K H μ d v → gt d ρ = some ρ' →
  (∀ σ', RS K H μ ρ' σ' → σ'.length = σ.length → (∀ j, j ∉ is → σ'[j]? = σ[j]?) → Q σ' H) → t v σ H Q
def tgN (i : Nat) (d : D) (ρ : En) : Option En := some (ρ.set i (some d))
def tgNil (ds : List D) (ρ : En) : Option En := match ds with
  | [] => some ρ
  | _ => none
def tgCons (g : D → En → Option En) (gs : List D → En → Option En) (ds : List D) (ρ : En) : Option En := match ds with
  | d :: r => (g d ρ).bind (gs r)
  | [] => none
def tgTup (n : Nat) (gs : List D → En → Option En) (d : D) (ρ : En) : Option En := match d with
  | .tup ds => if ds.length = n then gs ds ρ else none
  | _ => none
section
variable {K : PySem.W.Frag}
theorem tg_n {i : Nat} : TgOk K (gName i) [i] (tgN i) := fun d v ρ ρ' σ H μ Q hS r e h => by
  cases e
  exact h _ (hS.set r i) (List.length_set ..) fun j hj => List.getElem?_set_ne fun z => hj (by simp [z])
theorem tgs_nil : TgsOk K gNil [] tgNil := fun ds vs ρ ρ' σ H μ Q hS r e h => by
  cases ds with
  | cons => cases e
  | nil =>
    cases e
    simp only [RVs] at r
    exact ⟨r, h σ hS rfl fun _ _ => rfl⟩
theorem tgs_cons {t : TG} {ts : TGs} {is js : List Nat} {g : D → En → Option En} {gs : List D → En → Option En} (h1 : TgOk K t is g) (h2 : TgsOk K ts js gs) : TgsOk K (gCons t ts) (is ++ js) (tgCons g gs) := fun ds vs ρ ρ' σ H μ Q hS r e h => by
  cases ds with
  | nil => cases e
  | cons d ds =>
    simp only [RVs] at r
    obtain ⟨v, vr, rfl, r1, r2⟩ := r
    cases e1 : g d ρ with
    | none => simp [tgCons, e1] at e
    | some ρ1 =>
      simp only [tgCons, e1, Option.bind_some] at e
      refine ⟨v, vr, rfl, h1 d v ρ ρ1 σ H μ _ hS r1 e1 fun σ1 hS1 l1 s1 => ?_⟩
      refine h2 ds vr ρ1 ρ' σ1 H μ Q hS1 r2 e fun σ2 hS2 l2 s2 => h σ2 hS2 (l2.trans l1) fun j hj => ?_
      rw [s2 j fun z => hj (List.mem_append_right _ z), s1 j fun z => hj (List.mem_append_left _ z)]
theorem tg_tup {n : Nat} {ts : TGs} {is : List Nat} {gs : List D → En → Option En} (h : TgsOk K ts is gs) : TgOk K (gTup K n ts) is (tgTup n gs) := fun d v ρ ρ' σ H μ Q hS r e hq => by
  cases d with
  | tup ds =>
    simp only [RV] at r
    obtain ⟨a, vs, rfl, hs, hz, hr⟩ := r
    unfold tgTup at e
    simp only at e
    split at e
    · rename_i hn
      exact ⟨a, vs, rfl, hs.sq, by rw [← hr.length]; exact hn, h ds vs ρ ρ' σ H μ Q hS hr e hq⟩
    · cases e
  | _ => cases e
end
section
variable {X : Cx} {W : WX} {tg e : Expr} {pos : Pos}
def sAsg (gt : D → En → Option En) (f : ME) : MS := fun ρ m => bindS (f ρ m) ρ fun d m => match gt d ρ with
  | some ρ' => .nx ρ' m
  | none => .no
theorem pds_asg {t : TG} {is : List Nat} {gt : D → En → Option En} {f : ME} (he : PD X W e f) (hg : PG X tg t) (ht : TgOk X.K t is gt) (hs : swapsWithSole [tg] e pos.line X.env = pure false := by rfl) (hw : swappedStores [tg] e X.env = pure none := by rfl)
    (h1 : (assignEach [tg] X.env).map (·.2) = [assign tg X.env] := by rfl) : PDS X W (.Assign [tg] e pos) (sAsg gt f) :=
  PS.imp (ps_asg he hg hs hw h1) fun D σ H ⟨μ, ρ, m, hH, hS, q⟩ => seqS q hH hS fun d m1 v H1 μ1 e1 hH1 r1 hS1 q1 => by
    cases e2 : gt d ρ with
    | none => rw [e2] at q1; exact q1.elim
    | some ρ' =>
      rw [e2] at q1
      exact ht d v ρ ρ' σ H1 μ1 _ hS1 r1 e2 fun σ' hS' _ _ => q1 σ' H1 μ1 .refl hH1 hS'
end

/-! ### for -/
def forF (gt : D → En → Option En) (body : MS) (gd : Me → Bool) : List D → En → Me → Fl
  | [], ρ, m => if gd m = true then .nx ρ m else .no
  | d :: r, ρ, m => if gd m = true then match gt d ρ with
      | none => .no
      | some ρ1 => match body ρ1 m with
        | .nx ρ2 m2 => forF gt body gd r ρ2 m2
        | .ct ρ2 m2 => forF gt body gd r ρ2 m2
        | .bk ρ2 m2 => .nx ρ2 m2
        | .rt d m => .rt d m
        | .exc x ρ m => .exc x ρ m
        | .no => .no
    else .no
def sFor (it : MI) (gt : D → En → Option En) (body : MS) : MS := fun ρ m => bindS (it ρ m) ρ fun p m => forF gt body p.2 p.1 ρ m
section
variable {X : Cx} {W : WX} {tg iter : Expr} {body : List Stmt} {pos : Pos}
theorem pds_for {t : TG} {is : List Nat} {gt : D → En → Option En} {it : MI} {f : MS} (hp : PassesOwn (model X.prog X.w) X.A X.env X.xe) (hc : X.calm = true) (hi : PDI X W tg iter it) (hg : PG X tg t) (ht : TgOk X.K t is gt) (hb : PDB X W body f)
    (hs : ∀ x, foldedSetIterable iter X.env x = pure x := by intro _; rfl) : PDS X W (.For tg iter body [] pos) (sFor it gt f) :=
  PS.imp (ps_for hp hc hi hg hb hs) fun D σ H ⟨μ, ρ, m, hH, hS, q⟩ => seqS q hH hS fun pr m1 J H1 μ1 e1 hH1 r1 hS1 q1 => by
    obtain ⟨ds, gd⟩ := pr
    obtain ⟨hz, go⟩ := r1
    dsimp only at go hz q1
    refine ⟨fun i k σ H => k = ds.length - i ∧ i ≤ ds.length ∧ ∃ μ ρ m, Ext X.K H1 μ1 H μ ∧ RH X.K H μ m ∧ RS X.K H μ ρ σ ∧ OkS X.K W H μ D (forF gt f gd (ds.drop i) ρ m),
      ⟨ds.length, by simp, Nat.zero_le _, μ1, ρ, m1, .refl, hH1, hS1, by simpa using q1⟩, ?_⟩
    rintro i k σ2 H2 ⟨rfl, hi', μ2, ρ2, m2, x2, hH2, hS2, q2⟩
    by_cases hlt : i < ds.length
    · have hd : ds.drop i = ds[i] :: ds.drop (i + 1) := List.drop_eq_getElem_cons hlt
      rw [hd] at q2
      unfold forF at q2
      by_cases hgd : gd m2 = true
      · rw [if_pos hgd] at q2
        obtain ⟨hgo, _⟩ := go H2 μ2 m2 x2.tr hH2 hgd
        obtain ⟨g1, g2⟩ := hgo i ds[i] (List.getElem?_eq_getElem hlt)
        refine .inr ⟨g1, fun σ' H' => i + 1 ≤ ds.length ∧ ∃ μ ρ m, Ext X.K H1 μ1 H' μ ∧ RH X.K H' μ m ∧ RS X.K H' μ ρ σ' ∧ OkS X.K W H' μ D (forF gt f gd (ds.drop (i + 1)) ρ m),
          fun σ' H' hN => ⟨ds.length - (i + 1), by omega, rfl, hN⟩, fun y H3 hy => ?_⟩
        obtain ⟨x3, hH3, r3⟩ := g2 y H3 hy
        cases e3 : gt ds[i] ρ2 with
        | none => simp only [e3] at q2; exact q2.elim
        | some ρ3 =>
          simp only [e3] at q2
          refine ht ds[i] y ρ2 ρ3 σ2 H3 μ2 _ (hS2.ext x3) r3 e3 fun σ3 hS3 _ _ => ?_
          refine ⟨μ2, ρ3, m2, hH3, hS3, ?_⟩
          have q3 := q2.ext x3
          cases e4 : f ρ3 m2 with
          | no => simp only [e4] at q3; exact q3
          | exc x ρ m => simp only [e4] at q3; exact q3
          | rt d m => simp only [e4] at q3; exact q3
          | nx ρ4 m4 => simp only [e4] at q3; exact fun σ' H' μ' x4 hH4 hS4 => ⟨hlt, μ', ρ4, m4, (x2.trans x3).trans x4, hH4, hS4, q3.ext x4⟩
          | ct ρ4 m4 => simp only [e4] at q3; exact fun σ' H' μ' x4 hH4 hS4 => ⟨hlt, μ', ρ4, m4, (x2.trans x3).trans x4, hH4, hS4, q3.ext x4⟩
          | bk ρ4 m4 => simp only [e4] at q3; exact fun σ' H' μ' x4 hH4 hS4 => q3 σ' H' μ' x4 hH4 hS4
      · rw [if_neg hgd] at q2; exact q2.elim
    · have hi2 : i = ds.length := by omega
      subst hi2
      rw [List.drop_length] at q2
      unfold forF at q2
      by_cases hgd : gd m2 = true
      · rw [if_pos hgd] at q2
        exact .inl ⟨(go H2 μ2 m2 x2.tr hH2 hgd).2, q2 σ2 H2 μ2 .refl hH2 hS2⟩
      · rw [if_neg hgd] at q2; exact q2.elim
/-! ### while, by a number of turns -/
def whF (c : MT) (body : MS) : Nat → En → Me → Fl
  | 0, _, _ => .no
  | n + 1, ρ, m => bindS (c ρ m) ρ fun b m => if b = true then match body ρ m with
      | .nx ρ2 m2 => whF c body n ρ2 m2
      | .ct ρ2 m2 => whF c body n ρ2 m2
      | .bk ρ2 m2 => .nx ρ2 m2
      | .rt d m => .rt d m
      | .exc x ρ m => .exc x ρ m
      | .no => .no
    else .nx ρ m
theorem pds_while {c : Expr} {fc : MT} {f : MS} (n : Nat) (hp : PassesOwn (model X.prog X.w) X.A X.env X.xe) (hc : PDT X W c fc) (hb : PDB X W body f) : PDS X W (.While c body [] pos) (whF fc f n) :=
  PS.imp (ps_while hp hc hb) fun D σ H ⟨μ, ρ, m, hH, hS, q⟩ => by
    refine ⟨fun k σ H => ∃ μ ρ m, RH X.K H μ m ∧ RS X.K H μ ρ σ ∧ OkS X.K W H μ D (whF fc f k ρ m), ⟨n, μ, ρ, m, hH, hS, q⟩, ?_⟩
    rintro k σ1 H1 ⟨μ1, ρ1, m1, hH1, hS1, q1⟩
    cases k with
    | zero => exact q1.elim
    | succ k =>
      unfold whF at q1
      refine seqS q1 hH1 hS1 fun d m2 v H2 μ2 e2 hH2 r2 hS2 q2 => ?_
      subst r2
      cases d with
      | false =>
        rw [if_neg Bool.false_ne_true] at q2 ⊢
        exact q2 σ1 H2 μ2 .refl hH2 hS2
      | true =>
        rw [if_pos rfl] at q2 ⊢
        refine ⟨fun σ' H' => ∃ μ ρ m, RH X.K H' μ m ∧ RS X.K H' μ ρ σ' ∧ OkS X.K W H' μ D (whF fc f k ρ m), fun σ' H' hN => ⟨k, Nat.lt_succ_self k, hN⟩, ?_⟩
        refine ⟨μ2, ρ1, m2, hH2, hS2, ?_⟩
        cases e4 : f ρ1 m2 with
        | no => simp only [e4] at q2; exact q2
        | exc x ρ m => simp only [e4] at q2; exact q2
        | rt d m => simp only [e4] at q2; exact q2
        | nx ρ4 m4 => simp only [e4] at q2; exact fun σ' H' μ' x4 hH4 hS4 => ⟨μ', ρ4, m4, hH4, hS4, q2.ext x4⟩
        | ct ρ4 m4 => simp only [e4] at q2; exact fun σ' H' μ' x4 hH4 hS4 => ⟨μ', ρ4, m4, hH4, hS4, q2.ext x4⟩
        | bk ρ4 m4 => simp only [e4] at q2; exact fun σ' H' μ' x4 hH4 hS4 => q2 σ' H' μ' x4 hH4 hS4
end
end FL

set_option maxRecDepth 100000
namespace FL
open PySem L2

/-! ### comprehensions -/
def noX {α : Type} (r : Res α) : Res α := match r with
  | .exc _ _ => .no
  | r => r
@[simp] theorem noX_ok {α : Type} {a : α} {m : Me} : noX (.ok a m) = .ok a m := rfl
@[simp] theorem noX_no {α : Type} : noX (.no : Res α) = .no := rfl
@[simp] theorem noX_exc {α : Type} {x : Exn} {m : Me} : noX (.exc x m : Res α) = .no := rfl
abbrev WF : WX := fun _ _ _ _ => False
def compF (gt : D → En → Option En) (c : MT) (e : ME) (gd : Me → Bool) (ρ : En) : List D → Me → Res (List D)
  | [], m => if gd m = true then .ok [] m else .no
  | d :: r, m => if gd m = true then match gt d ρ with
      | none => .no
      | some ρ1 => (noX (c ρ1 m)).bind fun b m1 => if b = true then (noX (e ρ1 m1)).bind fun y m2 => (compF gt c e gd ρ r m2).bind fun ys m3 => .ok (y :: ys) m3 else compF gt c e gd ρ r m1
    else .no
def mComp (it : MI) (vs : List Nat) (gt : D → En → Option En) (c : MT) (e : ME) : ME := fun ρ m => (it ρ m).bind fun p m => (noX (compF gt c e p.2 (wipeD ρ vs) p.1 m)).bind fun ys m => .ok (.lst ys) m
def cYes : MT := fun _ m => .ok true m

section
variable {K : PySem.W.Frag}
theorem Ok.noX' {α β : Type} {Ex Ex' : XK} {H : Hp} {μ : Mu} {R : Hp → Mu → α → β → Prop} {Q : β → Hp → Prop} {r : Res α} (h : Ok K Ex H μ R Q (noX r)) : Ok K Ex' H μ R Q r := by
  cases r with
  | no => exact h
  | exc x m => exact h.elim
  | ok a m => exact h
/-- the list so far and what the rest comes to -/
def Fin (K : PySem.W.Frag) (H1 : Hp) (μ1 : Mu) (A : Addr) (Q : VK) (acc : List D) (r : Res (List D)) : Prop := match r with
  | .ok ys m' => ∀ (H' : Hp) (l' : List Addr) (vs : List V), Ext K H1 μ1 H' ⟨l', μ1.h⟩ → RH K H' ⟨l', A :: μ1.h⟩ m' → H' A = some (.lst vs) → A ∉ l' → RVs K H' ⟨l', A :: μ1.h⟩ (acc ++ ys) vs → vs.length ≤ sizeLine → Q (.ref A) H'
  | _ => False
theorem wipe_twice {σ : St} {vs : List Nat} : wipe (wipe σ vs) vs = wipe σ vs := wipe_ext (wipe_length σ vs) fun j hj => by rw [wipe_get, if_neg hj]
/-- the reading of a comprehension -/
theorem comp_core {J : It} {g : TG} {is vs : List Nat} {gt : D → En → Option En} {fc : MT} {fe : ME} {gd : Me → Bool} {ds : List D} {σ : St} {ρ : En} {H1 : Hp} {μ1 : Mu} {m1 : Me} {Q : VK}
    (ht : TgOk K g is gt) (hin : ∀ i ∈ is, i ∈ vs) (hz : ds.length ≤ sizeLine) (go : Goes1 K J H1 μ1 ds gd) (hH : RH K H1 μ1 m1) (hS : RS K H1 μ1 ρ σ) (q : ∀ A, H1 A = none → Fin K H1 μ1 A Q [] (compF gt fc fe gd (wipeD ρ vs) ds m1)) :
    ∀ A, H1 A = none → ∃ W : Nat → Nat → Hp → Prop, (∃ m, W 0 m (upd H1 A (.lst []))) ∧ ∀ i m H, W i m H →
      (J.stop i H ∧ Q (.ref A) H) ∨ (J.go i H ∧ ∃ Nx : Hp → Prop, (∀ H', Nx H' → ∃ m', m' < m ∧ W (i + 1) m' H') ∧ ∀ x H', J.yld i H x H' → g x (wipe σ vs) H' fun σ2 H2 => wipe σ2 vs = wipe σ vs ∧ tR K WF RVB fc σ2 H2 fun b H3 =>
        if b = true then tR K WF (RVv K) fe σ2 H3 fun y H4 => ∃ acc, H4 A = some (.lst acc) ∧ acc.length < sizeLine ∧ Nx (upd H4 A (.lst (acc ++ [y]))) else Nx H3) := by
  intro A nA
  -- what stands at a turn
  let St0 : Nat → Hp → Prop := fun i H => ∃ (l : List Addr) (m : Me) (acc : List D) (us : List V), Ext K H1 μ1 H ⟨l, μ1.h⟩ ∧ Tr K H1 μ1 H ⟨l, A :: μ1.h⟩ ∧ RH K H ⟨l, A :: μ1.h⟩ m ∧ RS K H ⟨l, A :: μ1.h⟩ (wipeD ρ vs) (wipe σ vs) ∧
    H A = some (.lst us) ∧ A ∉ l ∧ RVs K H ⟨l, A :: μ1.h⟩ acc us ∧ us.length ≤ i ∧ Fin K H1 μ1 A Q acc (compF gt fc fe gd (wipeD ρ vs) (ds.drop i) m)
  have tr0 : Tr K H1 μ1 (upd H1 A (.lst [])) ⟨μ1.l, A :: μ1.h⟩ := Tr.hide hH nA
  refine ⟨fun i k H => k = ds.length - i ∧ i ≤ ds.length ∧ St0 i H, ⟨ds.length, by simp, Nat.zero_le _, μ1.l, m1, [], [], Ext.new hH nA, tr0, hH.hide nA, (hS.wipe vs).map tr0, upd_same, hH.notin nA, by simp [RVs], Nat.le_refl _, q A nA⟩, ?_⟩
  rintro i k H ⟨rfl, hi, l, m, acc, us, x, tr, hH2, hS2, hA, nl, ha, hu, fin⟩
  by_cases hlt : i < ds.length
  · have hd : ds.drop i = ds[i] :: ds.drop (i + 1) := List.drop_eq_getElem_cons hlt
    rw [hd] at fin
    unfold compF at fin
    by_cases hgd : gd m = true
    · rw [if_pos hgd] at fin
      obtain ⟨hgo, _⟩ := go H _ m tr hH2 hgd
      obtain ⟨g1, g2⟩ := hgo i ds[i] (List.getElem?_eq_getElem hlt)
      refine .inr ⟨g1, fun H' => i + 1 ≤ ds.length ∧ St0 (i + 1) H', fun H' hN => ⟨ds.length - (i + 1), by omega, rfl, hN⟩, fun y H3 hy => ?_⟩
      obtain ⟨x3, hH3, r3⟩ := g2 y H3 hy
      obtain ⟨hA3, nl3⟩ := x3.dat A (.lst us) nl trivial hA
      have xx : Ext K H1 μ1 H3 ⟨l, μ1.h⟩ := x.trans (x3.reh fun _ z => List.mem_cons_of_mem _ z)
      have tt := tr.trans x3.tr
      have hS3 := hS2.ext x3
      have ha3 := RVs.ext x3 _ _ ha
      cases e3 : gt ds[i] (wipeD ρ vs) with
      | none => simp only [e3] at fin; exact fin.elim
      | some ρ3 =>
        simp only [e3] at fin
        refine ht ds[i] y _ ρ3 _ H3 _ _ hS3 r3 e3 fun σ3 hS4 hl4 hk4 => ⟨?_, ?_⟩
        · have : wipe σ3 vs = wipe (wipe σ vs) vs := wipe_ext hl4 fun j hj => hk4 j fun z => hj (hin j z)
          rw [this, wipe_twice]
        · refine ⟨_, ρ3, m, hH3, hS4, ?_⟩
          cases e4 : fc ρ3 m with
          | no => simp only [e4] at fin; exact fin.elim
          | exc xx' mm => simp only [e4] at fin; exact fin.elim
          | ok b m4 =>
            simp only [e4, noX_ok, Res.bind_ok] at fin
            rintro b' H4 ⟨l4, h4⟩ x4 hH4 rfl
            have eh : h4 = A :: μ1.h := x4.hid
            subst eh
            obtain ⟨hA4, nl4⟩ := x4.dat A (.lst us) nl3 trivial hA3
            have xx4 : Ext K H1 μ1 H4 ⟨l4, μ1.h⟩ := xx.trans (x4.reh fun _ z => List.mem_cons_of_mem _ z)
            have tt4 := tt.trans x4.tr
            have ha4 := RVs.ext x4 _ _ ha3
            cases b with
            | false =>
              rw [if_neg Bool.false_ne_true] at fin ⊢
              exact ⟨hlt, l4, m4, acc, us, xx4, tt4, hH4, hS3.ext x4, hA4, nl4, ha4, by omega, fin⟩
            | true =>
              rw [if_pos rfl] at fin ⊢
              refine ⟨_, ρ3, m4, hH4, hS4.ext x4, ?_⟩
              cases e5 : fe ρ3 m4 with
              | no => simp only [e5] at fin; exact fin.elim
              | exc xx' mm => simp only [e5] at fin; exact fin.elim
              | ok d5 m5 =>
                simp only [e5, noX_ok, Res.bind_ok] at fin
                rintro y5 H5 ⟨l5, h5⟩ x5 hH5 r5
                have eh : h5 = A :: μ1.h := x5.hid
                subst eh
                obtain ⟨hA5, nl5⟩ := x5.dat A (.lst us) nl4 trivial hA4
                have xx5 : Ext K H1 μ1 H5 ⟨l5, μ1.h⟩ := xx4.trans (x5.reh fun _ z => List.mem_cons_of_mem _ z)
                have hm : A ∈ (⟨l5, A :: μ1.h⟩ : Mu).h := List.mem_cons_self
                have gr : Tr K H5 ⟨l5, A :: μ1.h⟩ (upd H5 A (.lst (us ++ [y5]))) ⟨l5, A :: μ1.h⟩ := Tr.grow hm hA5
                refine ⟨us, hA5, by omega, hlt, l5, m5, acc ++ [d5], us ++ [y5], xx5.grow nA hA5, (tt4.trans x5.tr).trans gr, hH5.grow hm nl5 hA5, ((hS3.ext x4).ext x5).map gr, upd_same, nl5,
                  RVs.map gr _ _ ((RVs.ext x5 _ _ ha4).append (RVs.one r5)), by simp; omega, ?_⟩
                cases e6 : compF gt fc fe gd (wipeD ρ vs) (ds.drop (i + 1)) m5 with
                | no => simp only [e6] at fin; exact fin.elim
                | exc xx' mm => simp only [e6] at fin; exact fin.elim
                | ok ys m6 =>
                  simp only [e6, Res.bind_ok] at fin
                  intro H' l' vs' z1 z2 z3 z4 z5 z6
                  exact fin H' l' vs' z1 z2 z3 z4 (by simpa using z5) z6
    · rw [if_neg hgd] at fin; exact fin.elim
  · have hi2 : i = ds.length := by omega
    subst hi2
    rw [List.drop_length] at fin
    unfold compF at fin
    by_cases hgd : gd m = true
    · rw [if_pos hgd] at fin
      exact .inl ⟨(go H _ m tr hH2 hgd).2, fin H l us x hH2 hA nl (by simpa using ha) (by omega)⟩
    · rw [if_neg hgd] at fin; exact fin.elim
end

section
variable {X : Cx} {W : WX} {elt tg iter c : Expr} {scope : Scope} {own : List (Str × Nat)} {pos : Pos} {it : MI} {g : TG} {is : List Nat} {gt : D → En → Option En} {fc : MT} {fe : ME}
theorem comp_imp (ht : TgOk X.K g is gt) (hin : ∀ i ∈ is, i ∈ own.map (·.2)) : ∀ σ H Q, tR X.K W (RVv X.K) (mComp it (own.map (·.2)) gt fc fe) σ H Q → tLc (tR X.K W (RIt X.K) it) g (tR X.K WF RVB fc) (tR X.K WF (RVv X.K) fe) (own.map (·.2)) σ H Q := by
  rintro σ H Q ⟨μ, ρ, m, hH, hS, q⟩
  refine seqR q hH hS fun pr m1 J H1 μ1 e1 hH1 r1 hS1 q1 => ?_
  obtain ⟨ds, gd⟩ := pr
  refine comp_core ht hin r1.1 r1.2 hH1 hS1 fun A nA => ?_
  dsimp only at q1
  cases e : compF gt fc fe gd (wipeD ρ (own.map (·.2))) ds m1 with
  | no => simp only [e] at q1; exact q1.elim
  | exc x mm => simp only [e] at q1; exact q1.elim
  | ok ys m2 =>
    simp only [e, noX_ok, Res.bind_ok] at q1
    intro H' l' vs z1 z2 z3 z4 z5 z6
    have un : ∀ a, a ∈ μ1.h → a ∈ A :: μ1.h := fun a z => List.mem_cons_of_mem _ z
    refine q1 _ H' _ z1 (z2.unhide un) ?_
    simp only [RV]
    exact ⟨A, vs, rfl, ⟨z4, fun z => hH1.hid A z nA⟩, z3, z6, RVs.map (.unhide un) _ _ (by simpa using z5)⟩
theorem pts_yes {Y : Cx} {W : WX} : PTs Y [] (tR Y.K W RVB cYes) := ⟨fun pins s σ H Q I ⟨μ, ρ, m, hH, hS, q⟩ => pts_nil.run pins s σ H Q I (q true H μ .refl hH rfl)⟩
theorem pts_c {Y : Cx} {W : WX} {f : MT} (h : PDT Y W c f) : PTs Y [c] (tR Y.K W RVB f) := pts_one h
theorem pd_lc {ifs : List Expr} (hc : X.calm = true) (hN : X.N.Nodup) (hi : PDI X W tg iter it) (ok : BlkOk X.N X.env.scope scope own) (ht : TgOk X.K g is gt) (hin : ∀ i ∈ is, i ∈ own.map (·.2))
    (hg : ∀ (s : Shared) (H : Hp) (C : Addr) (cl : List (Str × Addr)) (fp : List Addr), PG (X.blk s H scope (compEnvC scope cl C X.env) fp) tg g) (hif : ∀ (s : Shared) (H : Hp) (C : Addr) (cl : List (Str × Addr)) (fp : List Addr), PTs (X.blk s H scope (compEnvC scope cl C X.env) fp) ifs (tR X.K WF RVB fc))
    (he : ∀ (s : Shared) (H : Hp) (C : Addr) (cl : List (Str × Addr)) (fp : List Addr), PD (X.blk s H scope (compEnvC scope cl C X.env) fp) WF elt fe) (hs : ∀ x, foldedSetIterable iter X.env x = pure x := by intro _; rfl) :
    PD X W (.ListComp elt [⟨tg, iter, ifs, 0⟩] scope pos) (mComp it (own.map (·.2)) gt fc fe) :=
  PE.imp (pe_lc hc hN hi ok hg hif he hs) (comp_imp ht hin)
/-- name = [..] on one line, the name a local -/
theorem pds_setLc {ifs : List Expr} (i : Nat) {y : Str} {py spos : Pos} (hc : X.calm = true) (hN : X.N.Nodup) (hi : PDI X W tg iter it) (ok : BlkOk X.N X.env.scope scope own) (ht : TgOk X.K g is gt) (hin : ∀ i ∈ is, i ∈ own.map (·.2))
    (hg : ∀ (s : Shared) (H : Hp) (C : Addr) (cl : List (Str × Addr)) (fp : List Addr), PG (X.blk s H scope (compEnvC scope cl C X.env) fp) tg g) (hif : ∀ (s : Shared) (H : Hp) (C : Addr) (cl : List (Str × Addr)) (fp : List Addr), PTs (X.blk s H scope (compEnvC scope cl C X.env) fp) ifs (tR X.K WF RVB fc))
    (he : ∀ (s : Shared) (H : Hp) (C : Addr) (cl : List (Str × Addr)) (fp : List Addr), PD (X.blk s H scope (compEnvC scope cl C X.env) fp) WF elt fe)
    (hsw : swapsWith (.ListComp elt [⟨tg, iter, ifs, 0⟩] scope pos) (some (.Name y py)) spos.line X.env = pure true) (hy : X.N[i]? = some y := by rfl) (hyl : X.env.scope.names.lookup y = some .local := by rfl) (hs : ∀ x, foldedSetIterable iter X.env x = pure x := by intro _; rfl) :
    PDS X W (.Assign [.Name y py] (.ListComp elt [⟨tg, iter, ifs, 0⟩] scope pos) spos) (sSet i (mComp it (own.map (·.2)) gt fc fe)) :=
  PS.imp (ps_setLc hc hN hy hyl hsw hi ok hg hif he hs) fun D σ H ⟨μ, ρ, m, hH, hS, q⟩ =>
    comp_imp ht hin σ H _ (seqS q hH hS fun d m1 v H1 μ1 e1 hH1 r1 hS1 q1 => q1 _ H1 μ1 .refl hH1 (hS1.set r1 i))
end
end FL

set_option maxRecDepth 100000
namespace FL
open PySem PySem.Spec PyProof.Rows L2

/-! ### what refers to nothing from n on -/
mutual
def clo (n : Nat) : D → Bool
  | .ref i => decide (i < n)
  | .tup ds => cloL n ds
  | .lst ds => cloL n ds
  | .dct kvs => cloK n kvs
  | _ => true
def cloL (n : Nat) : List D → Bool
  | [] => true
  | d :: ds => clo n d && cloL n ds
def cloK (n : Nat) : List (Key × D) → Bool
  | [] => true
  | p :: ps => cloP n p && cloK n ps
def cloP (n : Nat) : Key × D → Bool
  | (_, d) => clo n d
end
def cloC (n : Nat) : Cell → Bool
  | .lst ds => cloL n ds
  | .dK kvs => cloK n kvs
  | .dT kvs => kvs.all fun p => clo n p.2
  | .ins _ fs => fs.all fun p => clo n p.2
  | .dL kvs => cloK n kvs
/-! things of the store from n on become values -/
mutual
def thaw (n : Nat) (m : Me) : D → Option D
  | .ref i => if i < n then some (.ref i) else match m[i]? with
    | some (.lst ds) => if cloL n ds = true then some (.lst ds) else none
    | some (.dK kvs) => if cloK n kvs = true then some (.dct kvs) else none
    | some (.dL kvs) => if cloK n kvs = true then some (.dct kvs) else none
    | _ => none
  | .tup ds => (thawL n m ds).map .tup
  | .lst ds => (thawL n m ds).map .lst
  | .dct kvs => if cloK n kvs = true then some (.dct kvs) else none
  | .non => some .non
  | .bl b => some (.bl b)
  | .int i => some (.int i)
  | .str x => some (.str x)
  | .scr ns => some (.scr ns)
  | .fn a => some (.fn a)
def thawL (n : Nat) (m : Me) : List D → Option (List D)
  | [] => some []
  | d :: ds => (thaw n m d).bind fun d' => (thawL n m ds).map fun ds' => d' :: ds'
end
/-- what a def hands back: its own things of the store are values from now on -/
noncomputable def leave (m : Me) (d : D) (m' : Me) : Res D :=
  if m'.length = m.length then .ok d m' else
    match thaw m.length m' d with
    | some d' => @ite _ (m'.take m.length = m ∨ (m'.take m.length).all (cloC m.length) = true) (Classical.propDecidable _) (.ok d' (m'.take m.length)) .no
    | none => .no
noncomputable def runDef (N n : Nat) (f : MS) : List D → Me → Res D := fun ds m => match f (ds.map some ++ List.replicate (N - n) none) m with
  | .nx _ m' => leave m .non m'
  | .rt d m' => leave m d m'
  | _ => .no

section
variable {K : PySem.W.Frag} {H H' : Hp} {μ : Mu} {m m' : Me}
def Mu.cut (μ : Mu) (n : Nat) : Mu := ⟨μ.l.take n, μ.h⟩
theorem Mu.get_lt {l : List Addr} {n i : Nat} {a : Addr} (h : l[i]? = some a) (hi : i < n) : (l.take n)[i]? = some a := by
  rw [List.getElem?_take_of_lt hi]; exact h
mutual
theorem RV.cut {n : Nat} : ∀ (d : D) (v : V), RV K H μ d v → clo n d = true → RV K H (μ.cut n) d v
  | .non, _, q, _ => by simpa [RV] using q
  | .bl _, _, q, _ => by simpa [RV] using q
  | .int _, _, q, _ => by simpa [RV] using q
  | .str _, _, q, _ => by simpa [RV] using q
  | .fn _, _, q, _ => by simpa [RV] using q
  | .tup ds, v, q, c => by
    simp only [RV] at q ⊢
    obtain ⟨a, vs, rfl, hs, hz, hr⟩ := q
    exact ⟨a, vs, rfl, hs, hz, RVs.cut ds vs hr (by simpa [clo] using c)⟩
  | .lst ds, v, q, c => by
    simp only [RV] at q ⊢
    obtain ⟨a, vs, rfl, hn, hs, hz, hr⟩ := q
    exact ⟨a, vs, rfl, ⟨fun z => hn.1 (List.mem_of_mem_take z), hn.2⟩, hs, hz, RVs.cut ds vs hr (by simpa [clo] using c)⟩
  | .dct kvs, v, q, c => by
    simp only [RV] at q ⊢
    obtain ⟨a, vs, rfl, hn, hs, hr⟩ := q
    exact ⟨a, vs, rfl, ⟨fun z => hn.1 (List.mem_of_mem_take z), hn.2⟩, hs, RVk.cut kvs vs hr (by simpa [clo] using c)⟩
  | .ref i, v, q, c => by
    simp only [RV] at q ⊢
    obtain ⟨a, rfl, hs⟩ := q
    exact ⟨a, rfl, Mu.get_lt hs (by simpa [clo] using c)⟩
  | .scr ns, v, q, c => by
    simp only [RV] at q ⊢
    obtain ⟨a, rfl, ⟨hn, hs⟩ | hs⟩ := q
    · exact ⟨a, rfl, .inl ⟨⟨fun z => hn.1 (List.mem_of_mem_take z), hn.2⟩, hs⟩⟩
    · exact ⟨a, rfl, .inr hs⟩
theorem RVs.cut {n : Nat} : ∀ (ds : List D) (vs : List V), RVs K H μ ds vs → cloL n ds = true → RVs K H (μ.cut n) ds vs
  | [], vs, q, _ => by simpa [RVs] using q
  | d :: ds, vs, q, c => by
    simp only [RVs] at q ⊢
    simp only [cloL, Bool.and_eq_true] at c
    obtain ⟨v, r, rfl, h1, h2⟩ := q
    exact ⟨v, r, rfl, RV.cut d v h1 c.1, RVs.cut ds r h2 c.2⟩
theorem RVk.cut {n : Nat} : ∀ (ds : List (Key × D)) (vs : List (Key × V)), RVk K H μ ds vs → cloK n ds = true → RVk K H (μ.cut n) ds vs
  | [], vs, q, _ => by simpa [RVk] using q
  | p :: ds, vs, q, c => by
    simp only [RVk] at q ⊢
    simp only [cloK, Bool.and_eq_true] at c
    obtain ⟨v, r, rfl, h1, h2⟩ := q
    exact ⟨v, r, rfl, RVp.cut p v h1 c.1, RVk.cut ds r h2 c.2⟩
theorem RVp.cut {n : Nat} : ∀ (p : Key × D) (v : V), RVp K H μ p v → cloP n p = true → RVp K H (μ.cut n) p v
  | (_, d), v, q, c => by
    simp only [RVp] at q ⊢
    exact RV.cut d v q (by simpa [cloP] using c)
end
mutual
theorem RV.clo : ∀ (d : D) (v : V), RV K H μ d v → FL.clo μ.l.length d = true
  | .non, _, q => rfl
  | .bl _, _, q => rfl
  | .int _, _, q => rfl
  | .str _, _, q => rfl
  | .fn _, _, q => rfl
  | .tup ds, v, q => by
    simp only [RV] at q
    obtain ⟨a, vs, rfl, hs, hz, hr⟩ := q
    simpa [FL.clo] using RVs.clo ds vs hr
  | .lst ds, v, q => by
    simp only [RV] at q
    obtain ⟨a, vs, rfl, hn, hs, hz, hr⟩ := q
    simpa [FL.clo] using RVs.clo ds vs hr
  | .dct kvs, v, q => by
    simp only [RV] at q
    obtain ⟨a, vs, rfl, hn, hs, hr⟩ := q
    simpa [FL.clo] using RVk.clo kvs vs hr
  | .ref i, v, q => by
    simp only [RV] at q
    obtain ⟨a, rfl, hs⟩ := q
    simpa [FL.clo] using (List.getElem?_eq_some_iff.mp hs).1
  | .scr _, _, q => rfl
theorem RVs.clo : ∀ (ds : List D) (vs : List V), RVs K H μ ds vs → cloL μ.l.length ds = true
  | [], vs, q => rfl
  | d :: ds, vs, q => by
    simp only [RVs] at q
    obtain ⟨v, r, rfl, h1, h2⟩ := q
    simp [cloL, RV.clo d v h1, RVs.clo ds r h2]
theorem RVk.clo : ∀ (ds : List (Key × D)) (vs : List (Key × V)), RVk K H μ ds vs → cloK μ.l.length ds = true
  | [], vs, q => rfl
  | p :: ds, vs, q => by
    simp only [RVk] at q
    obtain ⟨v, r, rfl, h1, h2⟩ := q
    simp [cloK, RVp.clo p v h1, RVk.clo ds r h2]
theorem RVp.clo : ∀ (p : Key × D) (v : V), RVp K H μ p v → cloP μ.l.length p = true
  | (_, d), v, q => by
    simp only [RVp] at q
    simpa [cloP] using RV.clo d v q
end
mutual
theorem RV.thaw {n : Nat} (hH : RH K H μ m) : ∀ (d d' : D) (v : V), RV K H μ d v → FL.thaw n m d = some d' → RV K H (μ.cut n) d' v
  | .non, _, _, q, e => by simp only [FL.thaw] at e; cases e; simpa [RV] using q
  | .bl _, _, _, q, e => by simp only [FL.thaw] at e; cases e; simpa [RV] using q
  | .int _, _, _, q, e => by simp only [FL.thaw] at e; cases e; simpa [RV] using q
  | .str _, _, _, q, e => by simp only [FL.thaw] at e; cases e; simpa [RV] using q
  | .scr _, _, v, q, e => by simp only [FL.thaw] at e; cases e; exact RV.cut _ v q rfl
  | .fn _, _, _, q, e => by simp only [FL.thaw] at e; cases e; simpa [RV] using q
  | .tup ds, d', v, q, e => by
    simp only [FL.thaw] at e
    obtain ⟨ds', e1, rfl⟩ := Option.map_eq_some_iff.mp e
    simp only [RV] at q ⊢
    obtain ⟨a, vs, rfl, hs, hz, hr⟩ := q
    exact ⟨a, vs, rfl, hs, hz, RVs.thaw hH ds ds' vs hr e1⟩
  | .lst ds, d', v, q, e => by
    simp only [FL.thaw] at e
    obtain ⟨ds', e1, rfl⟩ := Option.map_eq_some_iff.mp e
    simp only [RV] at q ⊢
    obtain ⟨a, vs, rfl, hn, hs, hz, hr⟩ := q
    exact ⟨a, vs, rfl, ⟨fun z => hn.1 (List.mem_of_mem_take z), hn.2⟩, hs, hz, RVs.thaw hH ds ds' vs hr e1⟩
  | .dct kvs, d', v, q, e => by
    simp only [FL.thaw] at e
    split at e
    · rename_i c
      cases e
      exact RV.cut _ v q (by simpa [FL.clo] using c)
    · cases e
  | .ref i, d', v, q, e => by
    simp only [FL.thaw] at e
    split at e
    · rename_i hi
      cases e
      exact RV.cut _ v q (by simpa [FL.clo] using hi)
    · rename_i hi
      simp only [RV] at q
      obtain ⟨a, rfl, hs⟩ := q
      have hcut : a ∉ (μ.cut n).l ∧ a ∉ (μ.cut n).h := by
        refine ⟨fun z => ?_, fun z => ?_⟩
        · obtain ⟨j, hj, ej⟩ := List.getElem_of_mem z
          have hj' : j < n ∧ j < μ.l.length := by
            have : (μ.cut n).l.length = min n μ.l.length := List.length_take
            omega
          have ej' : μ.l[j]? = some a := by
            have h2 : ((μ.l.take n)[j]?) = some a := (List.getElem?_eq_getElem (l := μ.l.take n) hj).trans (congrArg some ej)
            rwa [List.getElem?_take_of_lt hj'.1] at h2
          obtain ⟨h1, h1'⟩ := List.getElem?_eq_some_iff.mp hs
          obtain ⟨h2, h2'⟩ := List.getElem?_eq_some_iff.mp ej'
          have := (List.getElem_inj hH.nd).mp (h1'.trans h2'.symm)
          omega
        · exact (hH.sep a (List.mem_of_getElem? hs)) z
      cases e1 : m[i]? with
      | none => simp only [e1] at e; cases e
      | some c =>
        obtain ⟨a', e2, rc⟩ := hH.at' i c e1
        rw [hs] at e2; cases e2
        cases c with
        | lst ds =>
          simp only [e1] at e
          split at e
          · rename_i hc
            cases e
            obtain ⟨vs, h1, hz, hr⟩ := rc
            simp only [RV]
            exact ⟨a, vs, rfl, hcut, h1, hz, RVs.cut ds vs hr hc⟩
          · cases e
        | dK kvs =>
          simp only [e1] at e
          split at e
          · rename_i hc
            cases e
            obtain ⟨vs, h1, hr⟩ := rc
            simp only [RV]
            exact ⟨a, vs, rfl, hcut, .inl h1, RVk.cut kvs vs hr hc⟩
          · cases e
        | dT kvs => simp only [e1] at e; cases e
        | ins C fs => simp only [e1] at e; cases e
        | dL kvs =>
          simp only [e1] at e
          split at e
          · rename_i hc
            cases e
            obtain ⟨vs, o, h1, hr⟩ := rc
            simp only [RV]
            exact ⟨a, vs, rfl, hcut, .inr ⟨o, h1⟩, RVk.cut kvs vs hr hc⟩
          · cases e
theorem RVs.thaw {n : Nat} (hH : RH K H μ m) : ∀ (ds ds' : List D) (vs : List V), RVs K H μ ds vs → thawL n m ds = some ds' → RVs K H (μ.cut n) ds' vs
  | [], ds', vs, q, e => by simp only [thawL] at e; cases e; simpa [RVs] using q
  | d :: ds, ds', vs, q, e => by
    simp only [thawL] at e
    obtain ⟨d', e1, e2⟩ := Option.bind_eq_some_iff.mp e
    obtain ⟨ds1, e3, rfl⟩ := Option.map_eq_some_iff.mp e2
    simp only [RVs] at q ⊢
    obtain ⟨v, r, rfl, h1, h2⟩ := q
    exact ⟨v, r, rfl, RV.thaw hH d d' v h1 e1, RVs.thaw hH ds ds1 r h2 e3⟩
end
theorem Paired.all2 {α β : Type} {F G : α → β → Prop} {q : α → Bool} : ∀ {l₁ : List α} {l₂ : List β}, Paired F l₁ l₂ → (∀ a b, F a b → q a = true → G a b) → l₁.all q = true → Paired G l₁ l₂
  | _, _, .nil, _, _ => .nil
  | _, _, .cons r t, f, h => by
    simp only [List.all_cons, Bool.and_eq_true] at h
    exact .cons (f _ _ r h.1) (Paired.all2 t f h.2)
theorem Paired.all1 {α β : Type} {F : α → β → Prop} {q : α → Bool} : ∀ {l₁ : List α} {l₂ : List β}, Paired F l₁ l₂ → (∀ a b, F a b → q a = true) → l₁.all q = true
  | _, _, .nil, _ => rfl
  | _, _, .cons r t, f => by
    simp only [List.all_cons, Bool.and_eq_true]
    exact ⟨f _ _ r, Paired.all1 t f⟩
theorem RC.cut {n : Nat} {c : Cell} {a : Addr} (h : RC K H μ c a) (hc : cloC n c = true) : RC K H (μ.cut n) c a := by
  cases c with
  | lst ds => obtain ⟨vs, h1, h2, h3⟩ := h; exact ⟨vs, h1, h2, RVs.cut _ _ h3 hc⟩
  | dK kvs => obtain ⟨vs, h1, h2⟩ := h; exact ⟨vs, h1, RVk.cut _ _ h2 hc⟩
  | dL kvs => obtain ⟨vs, o, h1, h2⟩ := h; exact ⟨vs, o, h1, RVk.cut _ _ h2 hc⟩
  | dT kvs => obtain ⟨vs, h1, h2⟩ := h; exact ⟨vs, h1, Paired.all2 h2 (fun p q z y => ⟨z.1, RV.cut _ _ z.2 y⟩) hc⟩
  | ins C fs => obtain ⟨dx, vs, h1, h2⟩ := h; exact ⟨dx, vs, h1, Paired.all2 h2 (fun p q z y => ⟨z.1, RV.cut _ _ z.2 y⟩) hc⟩
theorem RC.clo {c : Cell} {a : Addr} (h : RC K H μ c a) : cloC μ.l.length c = true := by
  cases c with
  | lst ds => obtain ⟨vs, h1, h2, h3⟩ := h; exact RVs.clo _ _ h3
  | dK kvs => obtain ⟨vs, h1, h2⟩ := h; exact RVk.clo _ _ h2
  | dL kvs => obtain ⟨vs, o, h1, h2⟩ := h; exact RVk.clo _ _ h2
  | dT kvs => obtain ⟨vs, h1, h2⟩ := h; exact Paired.all1 h2 (fun p q z => RV.clo _ _ z.2)
  | ins C fs => obtain ⟨dx, vs, h1, h2⟩ := h; exact Paired.all1 h2 (fun p q z => RV.clo _ _ z.2)
theorem RH.allClo (h : RH K H μ m) : m.all (cloC m.length) = true := by
  rw [List.all_eq_true]
  intro c hc
  obtain ⟨i, hi, rfl⟩ := List.getElem_of_mem hc
  obtain ⟨a, _, r⟩ := h.at' i _ (List.getElem?_eq_getElem hi)
  rw [← h.len]; exact r.clo
theorem RH.cut {n : Nat} (h : RH K H μ m) (hc : (m.take n).all (cloC n) = true) : RH K H (μ.cut n) (m.take n) := by
  refine ⟨by simp [Mu.cut, h.len], h.nd.sublist (List.take_sublist _ _), fun i c q => ?_, h.hid, fun a z => h.sep a (List.mem_of_mem_take z)⟩
  have hi : i < n := by
    have := (List.getElem?_eq_some_iff.mp q).1
    rw [List.length_take] at this; omega
  have q' : m[i]? = some c := by rwa [List.getElem?_take_of_lt hi] at q
  obtain ⟨a, e, r⟩ := h.at' i c q'
  exact ⟨a, Mu.get_lt e hi, r.cut (List.all_eq_true.mp hc c (List.mem_of_getElem? q))⟩
theorem Ext.cut {μ' : Mu} (x : Ext K H μ H' μ') {n : Nat} (hn : n = μ.l.length) : Ext K H μ H' (μ'.cut n) ∧ μ'.cut n = μ := by
  obtain ⟨l, e⟩ := x.pre
  have e' : μ'.cut n = μ := by
    have h1 := x.hid
    obtain ⟨l1, h1'⟩ := μ; obtain ⟨l2, h2'⟩ := μ'
    subst hn
    dsimp only at e h1 ⊢
    subst e h1
    simp [Mu.cut]
  refine ⟨?_, e'⟩
  rw [e']
  exact ⟨⟨[], by simp⟩, rfl, x.tup, fun a u n d h => ⟨(x.dat a u n d h).1, n⟩, fun a o u n h => ⟨(x.frz a o u n h).1, n⟩, fun a kvs n h => ⟨(x.dct a kvs n h).1, n⟩, x.fz, x.xd⟩
/-- leaving a def -/
theorem leave_ok {Ex : XK} {Q : VK} {d : D} {v : V} {μ' : Mu} (hH : RH K H μ m) (q : Ok K Ex H μ (RVv K) Q (leave m d m')) (x : Ext K H μ H' μ') (hH' : RH K H' μ' m') (r : RV K H' μ' d v) : Q v H' := by
  unfold leave at q
  split at q
  · exact q v H' μ' x hH' r
  · cases e : FL.thaw m.length m' d with
    | none => simp only [e] at q; exact q.elim
    | some d' =>
      simp only [e] at q
      by_cases hc : m'.take m.length = m ∨ (m'.take m.length).all (cloC m.length) = true
      · rw [if_pos hc] at q
        obtain ⟨x2, e2⟩ := x.cut (n := m.length) (by rw [hH.len])
        have hall : (m'.take m.length).all (cloC m.length) = true := by
          rcases hc with hc | hc
          · rw [hc]; exact hH.allClo
          · exact hc
        exact q v H' _ x2 (hH'.cut hall) (RV.thaw hH' d d' v r e)
      · rw [if_neg hc] at q; exact q.elim
end

/-! ### a def by what it computes -/
/-- called with these data the def computes this -/
def spF (K : PySem.W.Frag) (n : Nat) (F : List D → Me → Res D) : Sp := fun vs H Q E => ∃ μ m ds, RH K H μ m ∧ RVs K H μ ds vs ∧ ds.length = n ∧ Ok K E H μ (RVv K) Q (F ds m)
section
variable {P : Program} {w : World} {K : PySem.W.Frag} {mg : Str → Option Value} {base : Heap}
theorem start_rs {H : Hp} {μ : Mu} {ds : List D} {vs : List V} {N : List Str} {n : Nat} (r : RVs K H μ ds vs) (hn : ds.length = n) : RS K H μ (ds.map some ++ List.replicate (N.length - n) none) (L2.start N vs) := by
  have hl := r.length
  refine ⟨by simp [L2.start, ← hl, hn], fun i d q => ?_⟩
  by_cases hi : i < ds.length
  · rw [List.getElem?_append_left (by simpa using hi), List.getElem?_map] at q
    cases e : ds[i]? with
    | none => rw [e] at q; cases q
    | some d' =>
      rw [e] at q; cases q
      obtain ⟨v, h1, h2⟩ := r.get e
      refine ⟨v, ?_, h2⟩
      unfold L2.start
      rw [List.getElem?_append_left (by simpa [← hl] using hi), List.getElem?_map, h1]; rfl
  · rw [List.getElem?_append_right (by simpa using hi), List.getElem?_replicate] at q
    split at q <;> cases q
theorem fn_ok {x qual : Str} {st : Stmt} {f : Addr} {fd : FuncData} {N ps : List Str} {k : Nat} (F : Fun K x qual st f fd) (S : FnScope N ps (defScope st)) {fm : MS}
    (hbody : ∀ (cdv : Value) (A : Around) (outer : List Env) (s : Shared) (H : Hp) (E : XK), Room k (A.deeper (envOfC qual (defScope st) s.heap.objs.size f cdv)) →
      PDB (cxOf CX0 P w K mg base N qual (defScope st) f cdv A outer s H E).nox WF (defBody st) fm) : FnOk P w K mg base CX0 (k + 1) f fd ps (spF K ps.length (runDef N.length ps.length fm)) := by
  refine F.ok S (fun vs H Q E h => ?_) (fun cdv A outer s H vs Q E hr h => ?_)
  · obtain ⟨μ, m, ds, _, r, hn, _⟩ := h
    rw [← r.length, hn]
  · obtain ⟨μ, m, ds, hH, r, hn, q⟩ := h
    refine ⟨_, hbody cdv A outer s H E hr, μ, _, m, hH, start_rs r hn, ?_⟩
    unfold runDef at q
    cases e : fm (ds.map some ++ List.replicate (N.length - ps.length) none) m with
    | no => simp only [e] at q; exact q
    | exc x ρ m' => simp only [e] at q; exact q.elim
    | bk ρ m' => simp only [e] at q; exact q.elim
    | ct ρ m' => simp only [e] at q; exact q.elim
    | nx ρ m' => simp only [e] at q; exact fun σ' H' μ' x hH' hS' => leave_ok hH q x hH' (by simp [RV])
    | rt d m' => simp only [e] at q; exact fun v H' μ' x hH' r' => leave_ok hH q x hH' r'
/-- with no call left nothing is promised -/
theorem fn_zero {f : Addr} {fd : FuncData} {ps : List Str} {n : Nat} : FnOk P w K mg base CX0 0 f fd ps (spF K n fun _ _ => .no) := by
  have no : ∀ vs H Q E, ¬ spF K n (fun _ _ => .no) vs H Q E := fun vs H Q E ⟨_, _, _, _, _, _, q⟩ => q
  exact ⟨fun vs H Q E h => absurd h (no vs H Q E), fun A outer s H args us vs Q E _ _ _ _ h => absurd h (no vs H Q E)⟩
end
section
variable {X : Cx} {W : WX} {k : Nat} {f : Addr} {fd : FuncData} {ps : List Str} {x : Str} {p pos : Pos} {e : Expr} {es : List Expr} {Fm : List D → Me → Res D} {n : Nat}
def mCall (F : List D → Me → Res D) (fa : MA) : ME := fun ρ m => (fa ρ m).bind fun ds m => noX (F ds m)
theorem pd_call {fa : MA} (G : FnOk X.prog X.w X.K X.mg X.base CX0 k f fd ps (spF X.K n Fm)) (hr : Room k X.A) (hg : Gl X x) (hm : X.mg x = some (.ref f)) (hk : PySem.W.keepIn X.K (.ref f) = true) (hb : Binds X.K fd ps [])
    (ha : PDA X W n (e :: es) fa) (hdb : (x == ("__debug__" : Str)) = false := by decide) (he : starEach (e :: es) X.env = (false, eval e X.env) :: starEach es X.env := by rfl) (hpl : (backTo pos (starEach es X.env)).any (·.1) = false := by rfl) :
    PD X W (.Call (.Name x p) (e :: es) [] pos) (mCall Fm fa) :=
  PE.imp (pe_call G hr hg hm hk hb .nil pass0 ha hdb he hpl) fun σ H Q ⟨μ, ρ, m, hH, hS, q⟩ => seqR q hH hS fun ds m1 vs H1 μ1 e1 hH1 r1 hS1 q1 => by
    refine ⟨μ1, m1, ds, hH1, by simpa using r1.1, r1.2, Ok.noX' q1⟩
end
end FL

set_option maxRecDepth 100000
namespace FL
open PySem PySem.Spec PyProof.Rows L2

/-! ### a look through the store -/
def view (m : Me) (d : D) : D := match d with
  | .ref i => match m[i]? with
    | some (.lst xs) => .lst xs
    | some (.dK kvs) => .dct kvs
    | some (.dL kvs) => .dct kvs
    | _ => .ref i
  | d => d
section
variable {K : PySem.W.Frag} {H : Hp} {μ : Mu} {m : Me} {d : D} {v : V}
theorem view_lst {xs : List D} (hH : RH K H μ m) (r : RV K H μ d v) (e : view m d = .lst xs) : ∃ a vs, v = .ref a ∧ H a = some (.lst vs) ∧ vs.length ≤ sizeLine ∧ RVs K H μ xs vs := by
  cases d with
  | lst ys =>
    cases e
    simp only [RV] at r
    obtain ⟨a, vs, rfl, _, hs, hz, hr⟩ := r
    exact ⟨a, vs, rfl, hs, hz, hr⟩
  | ref i =>
    simp only [RV] at r
    obtain ⟨a, rfl, ha⟩ := r
    unfold view at e
    cases e1 : m[i]? with
    | none => simp only [e1] at e; cases e
    | some c =>
      obtain ⟨a', e2, rc⟩ := hH.at' i c e1
      rw [ha] at e2; cases e2
      cases c with
      | lst ys =>
        simp only [e1] at e
        cases e
        obtain ⟨vs, h1, hz, hr⟩ := rc
        exact ⟨a, vs, rfl, h1, hz, hr⟩
      | _ => simp only [e1] at e; cases e
  | _ => cases e
theorem view_dct {kvs : List (Key × D)} (hH : RH K H μ m) (r : RV K H μ d v) (e : view m d = .dct kvs) : ∃ a ps, v = .ref a ∧ Rd H a (.dK ps) ∧ RVk K H μ kvs ps := by
  cases d with
  | dct ys =>
    cases e
    simp only [RV] at r
    obtain ⟨a, vs, rfl, _, hs, hr⟩ := r
    exact ⟨a, vs, rfl, hs, hr⟩
  | ref i =>
    simp only [RV] at r
    obtain ⟨a, rfl, ha⟩ := r
    unfold view at e
    cases e1 : m[i]? with
    | none => simp only [e1] at e; cases e
    | some c =>
      obtain ⟨a', e2, rc⟩ := hH.at' i c e1
      rw [ha] at e2; cases e2
      cases c with
      | dK ys =>
        simp only [e1] at e
        cases e
        obtain ⟨vs, h1, hr⟩ := rc
        exact ⟨a, vs, rfl, .inl h1, hr⟩
      | dL ys =>
        simp only [e1] at e
        cases e
        obtain ⟨vs, o, h1, hr⟩ := rc
        exact ⟨a, vs, rfl, .inr ⟨o, h1⟩, hr⟩
      | _ => simp only [e1] at e; cases e
  | _ => cases e
theorem view_tup {xs : List D} (e : view m d = .tup xs) : d = .tup xs := by
  cases d with
  | ref i => unfold view at e; dsimp only at e; split at e <;> cases e
  | _ => exact e
theorem rv_tup {xs : List D} (r : RV K H μ (.tup xs) v) : ∃ a vs, v = .ref a ∧ TupN K H a vs ∧ vs.length ≤ sizeLine ∧ RVs K H μ xs vs := by simpa only [RV] using r
end

/-! ### + - * // % ** -/
section
variable {X : Cx}
/-- () + u is u -/
def rCat0 (K : PySem.W.Frag) : R2 := fun x y H Q => ∃ a b ys, x = .ref a ∧ y = .ref b ∧ SqT K H a [] ∧ SqT K H b ys ∧ Q (.ref b) H
theorem op_cat0 : OpR X (binaryOp .Add) (rCat0 X.K) := by
  rintro pins s σ H x y v u Q I rx ry ⟨a, b, ys, rfl, rfl, ha, hb, q⟩
  cases rx; cases ry
  obtain ⟨its, r1, p1, _⟩ := I.tuple ha
  obtain ⟨its2, r2, p2, _⟩ := I.tuple hb
  cases r1
  obtain ⟨⟨c1, dd, da, sl⟩, ho, hc, n, hd⟩ := id p1
  obtain ⟨⟨c2, dd2, da2, sl2⟩, ho2, hc2, n2, hd2⟩ := id p2
  simp only at hc hd hc2 hd2
  subst hc hd hc2 hd2
  exact concat_meets ⟨_, ho, rfl⟩ ⟨_, ho2, rfl⟩ noFill_tuple_add seq_tuple_add PySem.F.slot_tuple_add PySem.F.entry_tuple_add (PySem.F.args_tuple_add_2 _ _)
    (tuple_addW0 a b _ its2.toArray n n2 dd dd2 sl sl2 (by simp)) ⟨ho, ho2, ⟨.ref b, H, I, rfl, q⟩⟩
def rAddS : R2 := fun x y H Q => ∃ i j, x = .str i ∧ y = .str j ∧ i.length + j.length ≤ sizeLine ∧ Q (.str (i ++ j)) H
def rAddAll (K : PySem.W.Frag) : R2 := fun x y H Q => rI0 (fun i j => .int (i + j)) x y H Q ∨ rAddS x y H Q ∨ rCat x y H Q ∨ rCat0 K x y H Q ∨ rCatN K x y H Q
theorem op_addAll : OpR X (binaryOp .Add) (rAddAll X.K) := op_add.or (op_add_str.or (op_cat.or (op_cat0.or op_catN)))
def gAdd (d d' : D) (m : Me) : Res D := match view m d, view m d' with
  | .int i, .int j => .ok (.int (i + j)) m
  | .str x, .str y => if x.length + y.length ≤ sizeLine then .ok (.str (x ++ y)) m else .no
  | .tup xs, .tup ys => if xs.length + ys.length ≤ sizeLine then .ok (.tup (xs ++ ys)) m else .no
  | .lst xs, .lst ys => if xs.length + ys.length ≤ sizeLine then .ok (.lst (xs ++ ys)) m else .no
  | _, _ => .no
theorem view_int {m : Me} {d : D} {i : Int} (e : view m d = .int i) : d = .int i := by
  cases d with
  | ref i => unfold view at e; dsimp only at e; split at e <;> cases e
  | _ => exact e
theorem view_str {m : Me} {d : D} {i : Str} (e : view m d = .str i) : d = .str i := by
  cases d with
  | ref i => unfold view at e; dsimp only at e; split at e <;> cases e
  | _ => exact e
theorem g_add {K : PySem.W.Frag} : G2 K (rAddAll K) gAdd := fun Ex H μ m d d' x y Q hH r1 r2 q => by
  unfold gAdd at q
  split at q
  · rename_i i j e1 e2
    have := view_int e1; have := view_int e2; subst d d'
    simp only [RV] at r1 r2
    exact .inl ⟨i, j, r1, r2, q _ H μ .refl hH (by simp [RV])⟩
  · rename_i i j e1 e2
    have := view_str e1; have := view_str e2; subst d d'
    simp only [RV] at r1 r2
    split at q
    · rename_i hz
      exact .inr (.inl ⟨i, j, r1, r2, hz, q _ H μ .refl hH (by simp [RV])⟩)
    · exact q.elim
  · rename_i xs ys e1 e2
    have := view_tup e1; have := view_tup e2; subst d d'
    split at q
    · rename_i hz
      obtain ⟨a, vs, rfl, s1, z1, w1⟩ := rv_tup r1
      obtain ⟨b, us, rfl, s2, z2, w2⟩ := rv_tup r2
      have l1 := w1.length; have l2 := w2.length
      have hz' : vs.length + us.length ≤ sizeLine := by omega
      cases xs with
      | nil =>
        have : vs = [] := by simpa only [RVs] using w1
        subst this
        refine .inr (.inr (.inr (.inl ⟨a, b, us, rfl, rfl, s1.sq, s2.sq, q _ H μ .refl hH ?_⟩)))
        simp only [RV]
        exact ⟨b, us, rfl, s2, z2, w2⟩
      | cons x0 xs0 =>
        have hne : vs ≠ [] := fun z => by subst z; simp at l1
        refine .inr (.inr (.inr (.inr ⟨a, b, vs, us, rfl, rfl, s1.sq, s2.sq, hne, hz', fun hu => ?_, fun hu p o hd hp => ?_⟩)))
        · subst hu
          have : ys = [] := List.length_eq_zero_iff.mp (by simpa using l2)
          subst this
          refine q _ H μ .refl hH ?_
          simp only [RV, List.append_nil]
          exact ⟨a, vs, rfl, s1, z1, w1⟩
        · have ex := Ext.new (o := .frz o (.tup (vs ++ us))) hH hp
          refine q _ _ μ ex (hH.new hp) ?_
          simp only [RV]
          exact ⟨p, vs ++ us, rfl, .inl ⟨o, upd_same, hd⟩, by simpa using hz', RVs.ext ex _ _ (w1.append w2)⟩
    · exact q.elim
  · rename_i xs ys e1 e2
    split at q
    · rename_i hz
      obtain ⟨a, vs, rfl, s1, z1, w1⟩ := view_lst hH r1 e1
      obtain ⟨b, us, rfl, s2, z2, w2⟩ := view_lst hH r2 e2
      have l1 := w1.length; have l2 := w2.length
      have hz' : vs.length + us.length ≤ sizeLine := by omega
      refine .inr (.inr (.inl ⟨a, b, vs, us, rfl, rfl, s1, s2, hz', fun p hp => ?_⟩))
      have ex := Ext.new (o := .lst (vs ++ us)) hH hp
      refine q _ _ μ ex (hH.new hp) ?_
      simp only [RV]
      exact ⟨p, vs ++ us, rfl, ⟨hH.notin hp, fun z => hH.hid _ z hp⟩, upd_same, by simpa using hz', RVs.ext ex _ _ (w1.append w2)⟩
    · exact q.elim
  · exact q.elim
/-- two ints -/
def gII (C : Int → Int → Prop) [∀ i j, Decidable (C i j)] (f : Int → Int → D) (d d' : D) (m : Me) : Res D := match d, d' with
  | .int i, .int j => if C i j then .ok (f i j) m else .no
  | _, _ => .no
def ofD : D → V
  | .int i => .int i
  | .bl b => .bl b
  | _ => .non
theorem g_ii {K : PySem.W.Frag} {C C' : Int → Int → Prop} {_i : ∀ i j, Decidable (C i j)} {f : Int → Int → D} (hC : ∀ i j, C i j → C' i j) (hf : ∀ i j H μ, RV K H μ (f i j) (ofD (f i j))) : G2 K (rI C' fun i j => ofD (f i j)) (@gII C _i f) := fun Ex H μ m d d' x y Q hH r1 r2 q => by
  unfold gII at q
  split at q
  · rename_i i j
    split at q
    · rename_i h
      simp only [RV] at r1 r2
      exact ⟨i, j, r1, r2, hC i j h, q _ H μ .refl hH (hf i j H μ)⟩
    · exact q.elim
  · exact q.elim
theorem g_ii0 {K : PySem.W.Frag} {f : Int → Int → D} (hf : ∀ i j H μ, RV K H μ (f i j) (ofD (f i j))) : G2 K (rI0 fun i j => ofD (f i j)) (gII (fun _ _ => True) f) := fun Ex H μ m d d' x y Q hH r1 r2 q => by
  obtain ⟨i, j, h1, h2, _, h3⟩ := g_ii (C' := fun _ _ => True) (fun _ _ h => h) hf Ex H μ m d d' x y Q hH r1 r2 q
  exact ⟨i, j, h1, h2, h3⟩
def gSub := gII (fun _ _ => True) fun i j => .int (i - j)
noncomputable def gMul := @gII (fun i j => ((-(2 ^ 64) < i ∧ i < 2 ^ 64) ∨ (-(2 ^ 64) < j ∧ j < 2 ^ 64))) (fun _ _ => Classical.propDecidable _) fun i j => .int (i * j)
noncomputable def gMod := @gII (fun _ j => 0 < j) (fun _ _ => Classical.propDecidable _) fun i j => .int (i % j)
noncomputable def gDiv := @gII (fun _ j => 0 < j ∧ j.natAbs < 2 ^ 200) (fun _ _ => Classical.propDecidable _) fun i j => .int (i / j)
noncomputable def gPow := @gII (fun i j => 0 ≤ j ∧ j ≤ 1000 ∧ i.natAbs < 2 ^ 64) (fun _ _ => Classical.propDecidable _) fun i j => .int (i ^ j.toNat)
variable {W : WX} {a b : Expr} {fa fb : ME} {pos : Pos}
theorem pd_add (ha : PD X W a fa) (hb : PD X W b fb) : PD X W (.BinOp a .Add b pos) (m2 gAdd fa fb) := pd_op op_addAll g_add ha hb
theorem pd_sub (ha : PD X W a fa) (hb : PD X W b fb) : PD X W (.BinOp a .Sub b pos) (m2 gSub fa fb) := pd_op op_sub (g_ii0 (f := fun i j => .int (i - j)) fun _ _ _ _ => by simp [RV, ofD]) ha hb
theorem pd_mul (ha : PD X W a fa) (hb : PD X W b fb) : PD X W (.BinOp a .Mult b pos) (m2 gMul fa fb) := pd_op op_mul (g_ii (C' := CMul) (f := fun i j => .int (i * j)) (fun _ _ h => h) fun _ _ _ _ => by simp [RV, ofD]) ha hb
theorem pd_mod (ha : PD X W a fa) (hb : PD X W b fb) : PD X W (.BinOp a .Mod b pos) (m2 gMod fa fb) := pd_op op_mod (g_ii (f := fun i j => .int (i % j)) (fun _ _ h => h) fun _ _ _ _ => by simp [RV, ofD]) ha hb
theorem pd_div (ha : PD X W a fa) (hb : PD X W b fb) : PD X W (.BinOp a .FloorDiv b pos) (m2 gDiv fa fb) := pd_op op_fdivW (g_ii (C' := CDivW) (f := fun i j => .int (i / j)) (fun _ _ h => wide_div h.1 h.2 (by decide) (by decide)) fun _ _ _ _ => by simp [RV, ofD]) ha hb
theorem pd_pow (ha : PD X W a fa) (hb : PD X W b fb) : PD X W (.BinOp a .Pow b pos) (m2 gPow fa fb) := pd_op op_pow (g_ii (C' := CPow) (f := fun i j => .int (i ^ j.toNat)) (fun _ _ h => ⟨h.1, Int.le_trans h.2.1 (by decide), h.2.2⟩) fun _ _ _ _ => by simp [RV, ofD]) ha hb
def gNeg (d : D) (m : Me) : Res D := match d with
  | .int i => .ok (.int (-i)) m
  | _ => .no
theorem pd_neg (ha : PD X W a fa) : PD X W (.UnaryOp .USub a pos) (m1 gNeg fa) := pd_un un_neg (fun Ex H μ m d x Q hH r q => by
  cases d with
  | int i => simp only [RV] at r; exact ⟨i, r, q _ H μ .refl hH (by simp [RV])⟩
  | _ => exact q.elim) ha

/-! ### comparisons of numbers -/
def gLt := gII (fun _ _ => True) fun i j => .bl (decide (i < j))
def gLe := gII (fun _ _ => True) fun i j => .bl (decide (i ≤ j))
def gGt := gII (fun _ _ => True) fun i j => .bl (decide (j < i))
def gGe := gII (fun _ _ => True) fun i j => .bl (decide (j ≤ i))
theorem g_lt {K : PySem.W.Frag} : G2 K (rI0 fun i j => .bl (decide (i < j))) gLt := g_ii0 (f := fun i j => .bl (decide (i < j))) fun _ _ _ _ => by simp [RV, ofD]
theorem g_le {K : PySem.W.Frag} : G2 K (rI0 fun i j => .bl (decide (i ≤ j))) gLe := g_ii0 (f := fun i j => .bl (decide (i ≤ j))) fun _ _ _ _ => by simp [RV, ofD]
theorem g_gt {K : PySem.W.Frag} : G2 K (rI0 fun i j => .bl (decide (j < i))) gGt := g_ii0 (f := fun i j => .bl (decide (j < i))) fun _ _ _ _ => by simp [RV, ofD]
theorem g_ge {K : PySem.W.Frag} : G2 K (rI0 fun i j => .bl (decide (j ≤ i))) gGe := g_ii0 (f := fun i j => .bl (decide (j ≤ i))) fun _ _ _ _ => by simp [RV, ofD]

/-! ### None -/
def isN : D → Bool
  | .non => true
  | _ => false
def gIsN (d d' : D) (m : Me) : Res D := match d' with
  | .non => .ok (.bl (isN d)) m
  | _ => .no
def gNotN (d d' : D) (m : Me) : Res D := match d' with
  | .non => .ok (.bl (!isN d)) m
  | _ => .no
theorem isN_eq {K : PySem.W.Frag} {H : Hp} {μ : Mu} {d : D} {v : V} (r : RV K H μ d v) : isN d = decide (v = .non) := by
  cases d <;> simp only [RV] at r
  case non => subst r; rfl
  case bl => subst r; rfl
  case int => subst r; rfl
  case str => subst r; rfl
  case tup => obtain ⟨_, _, rfl, _⟩ := r; rfl
  case lst => obtain ⟨_, _, rfl, _⟩ := r; rfl
  case dct => obtain ⟨_, _, rfl, _⟩ := r; rfl
  case ref => obtain ⟨_, rfl, _⟩ := r; rfl
  case scr => obtain ⟨_, rfl, _⟩ := r; rfl
  case fn => obtain ⟨_, rfl, _⟩ := r; rfl
theorem g_isN {K : PySem.W.Frag} : G2 K (fun x y H Q => y = .non ∧ Q (.bl (decide (x = .non))) H) gIsN := fun Ex H μ m d d' x y Q hH r1 r2 q => by
  cases d' with
  | non => simp only [RV] at r2; exact ⟨r2, q _ H μ .refl hH (by simp [RV, isN_eq r1])⟩
  | _ => exact q.elim
theorem g_notN {K : PySem.W.Frag} : G2 K (fun x y H Q => y = .non ∧ Q (.bl (!decide (x = .non))) H) gNotN := fun Ex H μ m d d' x y Q hH r1 r2 q => by
  cases d' with
  | non => simp only [RV] at r2; exact ⟨r2, q _ H μ .refl hH (by simp [RV, isN_eq r1])⟩
  | _ => exact q.elim

/-! ### == of data -/
mutual
def py : D → Option PyData
  | .non => some .none
  | .bl b => some (.bool b)
  | .int i => some (.int i)
  | .str x => some (.str x)
  | .tup ds => (pyL ds).map .tuple
  | .lst ds => (pyL ds).map .list
  | _ => none
def pyL : List D → Option (List PyData)
  | [] => some []
  | d :: ds => (py d).bind fun p => (pyL ds).map fun ps => p :: ps
end
mutual
theorem dp_of {K : PySem.W.Frag} {H : Hp} {μ : Mu} : ∀ (d : D) (v : V) (p : PyData), RV K H μ d v → py d = some p → Dp K H v p
  | .non, v, p, r, e => by simp only [RV] at r; simp only [py] at e; cases e; subst r; exact .non
  | .bl b, v, p, r, e => by simp only [RV] at r; simp only [py] at e; cases e; subst r; exact .bl b
  | .int b, v, p, r, e => by simp only [RV] at r; simp only [py] at e; cases e; subst r; exact .int b
  | .str b, v, p, r, e => by simp only [RV] at r; simp only [py] at e; cases e; subst r; exact .str b
  | .tup ds, v, p, r, e => by
    simp only [RV] at r; simp only [py] at e
    obtain ⟨ps, e1, rfl⟩ := Option.map_eq_some_iff.mp e
    obtain ⟨a, vs, rfl, hs, _, hr⟩ := r
    exact .tup hs.sq (dps_of ds vs ps hr e1)
  | .lst ds, v, p, r, e => by
    simp only [RV] at r; simp only [py] at e
    obtain ⟨ps, e1, rfl⟩ := Option.map_eq_some_iff.mp e
    obtain ⟨a, vs, rfl, _, hs, _, hr⟩ := r
    exact .lst (.of hs) (dps_of ds vs ps hr e1)
  | .dct _, v, p, r, e => by simp only [py] at e; cases e
  | .ref _, v, p, r, e => by simp only [py] at e; cases e
  | .scr _, v, p, r, e => by simp only [py] at e; cases e
theorem dps_of {K : PySem.W.Frag} {H : Hp} {μ : Mu} : ∀ (ds : List D) (vs : List V) (ps : List PyData), RVs K H μ ds vs → pyL ds = some ps → DpAll K H vs ps
  | [], vs, ps, r, e => by simp only [RVs] at r; simp only [pyL] at e; cases e; subst r; exact .nil
  | d :: ds, vs, ps, r, e => by
    simp only [RVs] at r; simp only [pyL] at e
    obtain ⟨v, vr, rfl, r1, r2⟩ := r
    obtain ⟨p, e1, e2⟩ := Option.bind_eq_some_iff.mp e
    obtain ⟨ps', e3, rfl⟩ := Option.map_eq_some_iff.mp e2
    exact .cons (dp_of d v p r1 e1) (dps_of ds vr ps' r2 e3)
end
theorem dp_view {K : PySem.W.Frag} {H : Hp} {μ : Mu} {m : Me} {d : D} {v : V} {p : PyData} (hH : RH K H μ m) (r : RV K H μ d v) (e : py (view m d) = some p) : Dp K H v p := by
  cases e1 : view m d with
  | lst xs =>
    rw [e1] at e
    simp only [py] at e
    obtain ⟨ps, e2, rfl⟩ := Option.map_eq_some_iff.mp e
    obtain ⟨a, vs, rfl, hs, _, hr⟩ := view_lst hH r e1
    exact .lst (.of hs) (dps_of xs vs ps hr e2)
  | tup xs => rw [e1] at e; have := view_tup e1; subst this; exact dp_of _ v p r e
  | dct _ => rw [e1] at e; simp only [py] at e; cases e
  | ref _ => rw [e1] at e; simp only [py] at e; cases e
  | scr _ => rw [e1] at e; simp only [py] at e; cases e
  | fn _ => rw [e1] at e; simp only [py] at e; cases e
  | int i => rw [e1] at e; have := view_int e1; subst this; exact dp_of _ v p r e
  | str i => rw [e1] at e; have := view_str e1; subst this; exact dp_of _ v p r e
  | non =>
    have : d = .non := by
      cases d with
      | ref i => unfold view at e1; dsimp only at e1; split at e1 <;> cases e1
      | _ => exact e1
    subst this
    rw [e1] at e; exact dp_of _ v p r e
  | bl b =>
    have : d = .bl b := by
      cases d with
      | ref i => unfold view at e1; dsimp only at e1; split at e1 <;> cases e1
      | _ => exact e1
    subst this
    rw [e1] at e; exact dp_of _ v p r e
def eqRes (m : Me) (neg : Bool) (a b : Option PyData) : Res D := match a, b with
  | some p, some q => if SeqAt.shaped p = true ∧ SeqAt.shaped q = true then .ok (.bl (if neg then !PyData.eqv p q else PyData.eqv p q)) m else .no
  | _, _ => .no
def gEq (d d' : D) (m : Me) : Res D := eqRes m false (py (view m d)) (py (view m d'))
def gNe (d d' : D) (m : Me) : Res D := eqRes m true (py (view m d)) (py (view m d'))
theorem g_eq {K : PySem.W.Frag} : G2 K (rEqD K) gEq := fun Ex H μ m d d' x y Q hH r1 r2 q => by
  unfold gEq eqRes at q
  split at q
  · rename_i p p' e1 e2
    split at q
    · rename_i hs
      exact ⟨p, p', dp_view hH r1 e1, dp_view hH r2 e2, hs.1, hs.2, q _ H μ .refl hH (by simp [RV])⟩
    · exact q.elim
  · exact q.elim
theorem g_ne {K : PySem.W.Frag} : G2 K (rNeD K) gNe := fun Ex H μ m d d' x y Q hH r1 r2 q => by
  unfold gNe eqRes at q
  split at q
  · rename_i p p' e1 e2
    split at q
    · rename_i hs
      exact ⟨p, p', dp_view hH r1 e1, dp_view hH r2 e2, hs.1, hs.2, q _ H μ .refl hH (by simp [RV])⟩
    · exact q.elim
  · exact q.elim

/-! ### in -/
def flatD : D → Bool
  | .non => true
  | .bl _ => true
  | .int _ => true
  | .str _ => true
  | _ => false
def eqF : D → D → Bool
  | .non, .non => true
  | .bl a, .bl b => a == b
  | .bl a, .int b => (if a then 1 else 0) == b
  | .int a, .bl b => a == (if b then 1 else 0)
  | .int a, .int b => a == b
  | .str a, .str b => a == b
  | _, _ => false
theorem flat_eq {K : PySem.W.Frag} {H : Hp} {μ : Mu} {d : D} {v : V} (r : RV K H μ d v) : flatD d = flatV v := by
  cases d <;> simp only [RV] at r
  case non => subst r; rfl
  case bl => subst r; rfl
  case int => subst r; rfl
  case str => subst r; rfl
  case tup => obtain ⟨_, _, rfl, _⟩ := r; rfl
  case lst => obtain ⟨_, _, rfl, _⟩ := r; rfl
  case dct => obtain ⟨_, _, rfl, _⟩ := r; rfl
  case ref => obtain ⟨_, rfl, _⟩ := r; rfl
  case scr => obtain ⟨_, rfl, _⟩ := r; rfl
  case fn => obtain ⟨_, rfl, _⟩ := r; rfl
theorem eqF_eq {K : PySem.W.Frag} {H : Hp} {μ : Mu} {d d' : D} {v v' : V} (r : RV K H μ d v) (r' : RV K H μ d' v') (f : flatD d = true) (f' : flatD d' = true) : eqF d d' = eqV v v' := by
  cases d <;> (try cases f) <;> cases d' <;> (try cases f') <;> simp only [RV] at r r' <;> subst r r' <;> rfl
theorem inD_eq {K : PySem.W.Frag} {H : Hp} {μ : Mu} {d : D} {v : V} (r : RV K H μ d v) (f : flatD d = true) : ∀ {ds : List D} {vs : List V}, RVs K H μ ds vs → ds.all flatD = true → (vs.all flatV = true ∧ (ds.any fun e => eqF e d) = inV v vs)
  | [], vs, h, _ => by simp only [RVs] at h; subst h; exact ⟨rfl, rfl⟩
  | e :: ds, vs, h, c => by
    simp only [RVs] at h
    obtain ⟨u, us, rfl, h1, h2⟩ := h
    simp only [List.all_cons, Bool.and_eq_true] at c
    obtain ⟨i1, i2⟩ := inD_eq r f h2 c.2
    refine ⟨by simp [List.all_cons, ← flat_eq h1, c.1, i1], ?_⟩
    unfold inV at i2 ⊢
    rw [List.any_cons, List.any_cons, i2, eqF_eq h1 r c.1 f]
def seqV (m : Me) (d : D) : Option (List D) := match view m d with
  | .tup xs => some xs
  | .lst xs => some xs
  | _ => none
theorem seqV_of {K : PySem.W.Frag} {H : Hp} {μ : Mu} {m : Me} {d : D} {v : V} {xs : List D} (hH : RH K H μ m) (r : RV K H μ d v) (e : seqV m d = some xs) : ∃ a vs, v = .ref a ∧ (SqL K H a vs ∨ SqT K H a vs) ∧ vs.length ≤ sizeLine ∧ RVs K H μ xs vs := by
  unfold seqV at e
  split at e
  · rename_i ys e1
    cases e
    have := view_tup e1; subst this
    obtain ⟨a, vs, rfl, s1, z1, w1⟩ := rv_tup r
    exact ⟨a, vs, rfl, .inr s1.sq, z1, w1⟩
  · rename_i ys e1
    cases e
    obtain ⟨a, vs, rfl, s1, z1, w1⟩ := view_lst hH r e1
    exact ⟨a, vs, rfl, .inl (.of s1), z1, w1⟩
  · cases e
def gInN (neg : Bool) (d d' : D) (m : Me) : Res D := match seqV m d' with
  | some xs => if flatD d = true ∧ xs.all flatD = true then .ok (.bl (if neg then !(xs.any fun e => eqF e d) else xs.any fun e => eqF e d)) m else .no
  | none => .no
def gIn := gInN false
def gNotIn := gInN true
theorem g_inN {K : PySem.W.Frag} {neg : Bool} : G2 K (rIn K neg) (gInN neg) := fun Ex H μ m d d' x y Q hH r1 r2 q => by
  unfold gInN at q
  split at q
  · rename_i xs e
    obtain ⟨a, vs, rfl, hs, _, hr⟩ := seqV_of hH r2 e
    split at q
    · rename_i hf
      obtain ⟨h1, h2⟩ := inD_eq r1 hf.1 hr hf.2
      exact ⟨a, vs, rfl, hs, by rw [← flat_eq r1]; exact hf.1, h1, q _ H μ .refl hH (by simp [RV, h2])⟩
    · exact q.elim
  · exact q.elim
/-- a text in a text -/
def gInS (neg : Bool) (d d' : D) (m : Me) : Res D := match d, d' with
  | .str i, .str j => .ok (.bl (if neg then !(!(Builtin.Str.occurrences j i 0 j.length 1).isEmpty) else !(Builtin.Str.occurrences j i 0 j.length 1).isEmpty)) m
  | _, _ => .no
theorem g_inS {K : PySem.W.Frag} : G2 K (fun x y H Q => ∃ i j, x = .str i ∧ y = .str j ∧ Q (.bl (!(Builtin.Str.occurrences j i 0 j.length 1).isEmpty)) H) (gInS false) := fun Ex H μ m d d' x y Q hH r1 r2 q => by
  cases d <;> (try exact q.elim) <;> cases d' <;> (try exact q.elim)
  simp only [RV] at r1 r2
  exact ⟨_, _, r1, r2, q _ H μ .refl hH (by simp [RV])⟩
theorem g_notInS {K : PySem.W.Frag} : G2 K (fun x y H Q => ∃ i j, x = .str i ∧ y = .str j ∧ Q (.bl (!(!(Builtin.Str.occurrences j i 0 j.length 1).isEmpty))) H) (gInS true) := fun Ex H μ m d d' x y Q hH r1 r2 q => by
  cases d <;> (try exact q.elim) <;> cases d' <;> (try exact q.elim)
  simp only [RV] at r1 r2
  exact ⟨_, _, r1, r2, q _ H μ .refl hH (by simp [RV])⟩

/-! ### items -/
def gIx (d d' : D) (m : Me) : Res D := match d' with
  | .int i => match view m d with
    | .tup xs => match atI xs i with
      | some x => .ok x m
      | none => .no
    | .lst xs => match atI xs i with
      | some x => .ok x m
      | none => .no
    | .scr ns => match atI ns i with
      | some n => .ok (.int n) m
      | none => .no
    | .str z => if z.length ≤ sizeLine then match atI z.cps.toList i with
      | some c => .ok (.str ⟨#[c]⟩) m
      | none => .no
      else .no
    | _ => .no
  | _ => .no
theorem atI_rv {K : PySem.W.Frag} {H : Hp} {μ : Mu} {ds : List D} {vs : List V} {i : Int} {d : D} (r : RVs K H μ ds vs) (e : atI ds i = some d) : ∃ v, atI vs i = some v ∧ RV K H μ d v := by
  unfold atI at e ⊢
  rw [← r.length]
  obtain ⟨j, h1, h2⟩ := Option.bind_eq_some_iff.mp e
  obtain ⟨v, h3, h4⟩ := r.get h2
  exact ⟨v, by rw [h1]; exact h3, h4⟩
theorem atI_map {α β : Type} {f : α → β} {xs : List α} {i : Int} {x : α} (e : atI xs i = some x) : atI (xs.map f) i = some (f x) := by
  unfold atI at e ⊢
  obtain ⟨j, h1, h2⟩ := Option.bind_eq_some_iff.mp e
  rw [List.length_map, h1]
  simp [h2]
theorem g_ix {K : PySem.W.Frag} : G2 K (rIx K) gIx := fun Ex H μ m d d' x y Q hH r1 r2 q => by
  unfold gIx at q
  split at q
  · rename_i i
    simp only [RV] at r2
    split at q
    · rename_i xs e1
      have := view_tup e1; subst this
      obtain ⟨a, vs, rfl, s1, z1, w1⟩ := rv_tup r1
      split at q
      · rename_i z e2
        obtain ⟨v, h1, h2⟩ := atI_rv w1 e2
        exact .inr (.inl ⟨a, vs, i, v, rfl, r2, s1.sq, h1, q v H μ .refl hH h2⟩)
      · exact q.elim
    · rename_i xs e1
      obtain ⟨a, vs, rfl, s1, z1, w1⟩ := view_lst hH r1 e1
      split at q
      · rename_i z e2
        obtain ⟨v, h1, h2⟩ := atI_rv w1 e2
        exact .inl ⟨a, vs, i, v, rfl, r2, .of s1, h1, q v H μ .refl hH h2⟩
      · exact q.elim
    · rename_i ns e1
      have : d = .scr ns := by
        cases d with
        | ref i => unfold view at e1; dsimp only at e1; split at e1 <;> cases e1
        | _ => exact e1
      subst this
      simp only [RV] at r1
      obtain ⟨a, rfl, hs⟩ := r1
      split at q
      · rename_i z e2
        refine .inl ⟨a, ns.map V.int, i, .int z, rfl, r2, ?_, atI_map e2, q _ H μ .refl hH (by simp [RV])⟩
        rcases hs with ⟨_, hs⟩ | hs
        · exact .inl hs
        · rcases hs with (z | ⟨_, z⟩) | hs
          · cases z
          · cases z
          · exact .inr hs
      · exact q.elim
    · rename_i z e1
      have := view_str e1; subst this
      simp only [RV] at r1
      split at q
      · rename_i hz
        split at q
        · rename_i c e2
          exact .inr (.inr ⟨z, i, c, r1, r2, hz, e2, q _ H μ .refl hH (by simp [RV])⟩)
        · exact q.elim
      · exact q.elim
    · exact q.elim
  · exact q.elim
theorem pd_at (ha : PD X W a fa) (hb : PD X W b fb) (hs : PlainIx b := by exact fun _ _ => rfl) : PD X W (.Subscript a b pos) (m2 gIx fa fb) := pd_ix ix_seq g_ix ha hb hs
end
end FL

set_option maxRecDepth 100000
namespace FL
open PySem PySem.Spec PyProof.Rows L2

/-! ### built-ins by name -/
def GC (K : PySem.W.Frag) (r : List V → Hp → VK → Prop) (g : List D → Me → Res D) : Prop := ∀ (Ex : XK) (H : Hp) (μ : Mu) (m : Me) (ds : List D) (vs : List V) (Q : VK), RH K H μ m → RVs K H μ ds vs → Ok K Ex H μ (RVv K) Q (g ds m) → r vs H Q
def mArgs (g : List D → Me → Res D) (fa : MA) : ME := fun ρ m => (fa ρ m).bind g
section
variable {X : Cx} {W : WX} {x : Str} {p pos : Pos} {e : Expr} {es : List Expr} {id T : String} {r : List V → Hp → VK → Prop} {g : List D → Me → Res D} {n : Nat} {fa : MA}
theorem pd_callB (hc : CallR X (.builtin id) r) (hr : GC X.K r g) (hg : Gl X x) (hm : X.mg x = none) (hv : bootBuiltins x = some (.builtin id)) (ha : PDA X W n (e :: es) fa) (hn : x ≠ "__name__" := by decide) (hdb : (x == ("__debug__" : Str)) = false := by decide)
    (he : starEach (e :: es) X.env = (false, eval e X.env) :: starEach es X.env := by rfl) (hpl : (backTo pos (starEach es X.env)).any (·.1) = false := by rfl) : PD X W (.Call (.Name x p) (e :: es) [] pos) (mArgs g fa) :=
  PE.imp (pe_callB hc hg hm hv ha hn hdb he hpl) fun σ H Q ⟨μ, ρ, m, hH, hS, q⟩ => seqR q hH hS fun ds m1 vs H1 μ1 e1 hH1 r1 hS1 q1 => hr _ H1 μ1 m1 ds vs Q hH1 r1.1 q1
theorem pd_callTy (hc : CallR X (.type T) r) (hr : GC X.K r g) (hg : Gl X x) (hm : X.mg x = none) (hv : bootBuiltins x = some (.type T)) (ha : PDA X W n (e :: es) fa) (hn : x ≠ "__name__" := by decide) (hdb : (x == ("__debug__" : Str)) = false := by decide)
    (he : starEach (e :: es) X.env = (false, eval e X.env) :: starEach es X.env := by rfl) (hpl : (backTo pos (starEach es X.env)).any (·.1) = false := by rfl) : PD X W (.Call (.Name x p) (e :: es) [] pos) (mArgs g fa) :=
  PE.imp (pe_callTy hc hg hm hv ha hn hdb he hpl) fun σ H Q ⟨μ, ρ, m, hH, hS, q⟩ => seqR q hH hS fun ds m1 vs H1 μ1 e1 hH1 r1 hS1 q1 => hr _ H1 μ1 m1 ds vs Q hH1 r1.1 q1
end
section
variable {K : PySem.W.Frag} {H : Hp} {μ : Mu} {m : Me}
theorem rvs1 {d : D} {vs : List V} (r : RVs K H μ [d] vs) : ∃ v, vs = [v] ∧ RV K H μ d v := by
  simp only [RVs] at r
  obtain ⟨v, r, rfl, h, rfl⟩ := r
  exact ⟨v, rfl, h⟩
theorem rvs2 {d d' : D} {vs : List V} (r : RVs K H μ [d, d'] vs) : ∃ v v', vs = [v, v'] ∧ RV K H μ d v ∧ RV K H μ d' v' := by
  simp only [RVs] at r
  obtain ⟨v, r, rfl, h, v', r', rfl, h', rfl⟩ := r
  exact ⟨v, v', rfl, h, h'⟩
end
/-! ### dicts as lists of pairs -/
section
variable {κ : Type} [DecidableEq κ]
def getK (kvs : List (κ × D)) (k : κ) : Option D := (kvs.find? fun kv => decide (kv.1 = k)).map (·.2)
def setK (kvs : List (κ × D)) (k : κ) (v : D) : List (κ × D) :=
  if (kvs.any fun kv => decide (kv.1 = k)) = true then kvs.map (fun kv => if kv.1 = k then (kv.1, v) else kv) else kvs ++ [(k, v)]
abbrev RVq (K : PySem.W.Frag) (H : Hp) (μ : Mu) : List (κ × D) → List (κ × V) → Prop := Paired fun p q => p.1 = q.1 ∧ RV K H μ p.2 q.2
variable {K : PySem.W.Frag} {H : Hp} {μ : Mu}
theorem rvq_len {kvs : List (κ × D)} {ps : List (κ × V)} (r : RVq K H μ kvs ps) : kvs.length = ps.length := Paired.length r
theorem rvq_any {k : κ} {kvs : List (κ × D)} {ps : List (κ × V)} (r : RVq K H μ kvs ps) : (kvs.any fun kv => decide (kv.1 = k)) = ps.any fun kv => decide (kv.1 = k) := by
  induction r with
  | nil => rfl
  | cons h t ih => rw [List.any_cons, List.any_cons, ih, h.1]
theorem rvq_get {k : κ} {kvs : List (κ × D)} {ps : List (κ × V)} (r : RVq K H μ kvs ps) : match getK kvs k with
    | some d => ∃ v, valV ps k = some v ∧ RV K H μ d v
    | none => valV ps k = none := by
  induction r with
  | nil => rfl
  | @cons p q kvs ps h t ih =>
    by_cases hk : p.1 = k
    · have e1 : getK (p :: kvs) k = some p.2 := by simp [getK, List.find?_cons, hk]
      rw [e1]
      exact ⟨q.2, valV_pos (h.1 ▸ hk), h.2⟩
    · have e1 : getK (p :: kvs) k = getK kvs k := by simp [getK, List.find?_cons, hk]
      rw [e1, valV_neg (h.1 ▸ hk)]
      exact ih
theorem rvq_set {k : κ} {d : D} {v : V} (hv : RV K H μ d v) {kvs : List (κ × D)} {ps : List (κ × V)} (r : RVq K H μ kvs ps) : RVq K H μ (setK kvs k d) (putK ps k v) := by
  unfold setK putK
  rw [rvq_any r]
  split
  · have : ∀ {kvs : List (κ × D)} {ps : List (κ × V)}, RVq K H μ kvs ps → RVq K H μ (kvs.map fun kv => if kv.1 = k then (kv.1, d) else kv) (ps.map fun kv => if kv.1 = k then (kv.1, v) else kv) := by
      intro kvs ps r
      induction r with
      | nil => exact .nil
      | @cons p q kvs ps h t ih =>
        refine .cons ?_ ih
        by_cases hk : p.1 = k
        · have hk' : q.1 = k := h.1 ▸ hk
          simp only [hk, hk', if_true]; exact ⟨trivial, hv⟩
        · have hk' : ¬ q.1 = k := h.1 ▸ hk
          simp only [hk, hk', if_false]; exact h
    exact this r
  · have : ∀ {kvs : List (κ × D)} {ps : List (κ × V)}, RVq K H μ kvs ps → RVq K H μ (kvs ++ [(k, d)]) (ps ++ [(k, v)]) := by
      intro kvs ps r
      induction r with
      | nil => exact .cons ⟨rfl, hv⟩ .nil
      | cons h t ih => exact .cons h ih
    exact this r
end
theorem rvk_iff {K : PySem.W.Frag} {H : Hp} {μ : Mu} : ∀ {kvs : List (Key × D)} {ps : List (Key × V)}, RVk K H μ kvs ps ↔ RVq K H μ kvs ps
  | [], ps => by
    simp only [RVk]
    constructor
    · rintro rfl; exact .nil
    · intro h; cases h; rfl
  | (k, d) :: kvs, ps => by
    simp only [RVk, RVp]
    constructor
    · rintro ⟨v, q, rfl, h1, h2⟩
      exact .cons ⟨rfl, h1⟩ (rvk_iff.mp h2)
    · intro h
      cases h with
      | @cons _ q _ qs h t => exact ⟨q.2, qs, by rw [show (k, q.2) = q from Prod.ext h.1 rfl], h.2, rvk_iff.mpr t⟩
def keyD : D → Option Key
  | .int i => some (.inl i)
  | .str x => some (.inr x)
  | _ => none
theorem keyD_rv {K : PySem.W.Frag} {H : Hp} {μ : Mu} {d : D} {v : V} {k : Key} (r : RV K H μ d v) (e : keyD d = some k) : v = kV k := by
  cases d <;> cases e <;> simp only [RV] at r <;> exact r
def keysD : List D → Option (List Key)
  | [] => some []
  | d :: ds => (keyD d).bind fun k => (keysD ds).map fun ks => k :: ks
theorem keysD_rv {K : PySem.W.Frag} {H : Hp} {μ : Mu} : ∀ {ds : List D} {vs : List V} {ks : List Key}, RVs K H μ ds vs → keysD ds = some ks → vs = ks.map kV
  | [], vs, ks, r, e => by simp only [RVs] at r; cases e; exact r
  | d :: ds, vs, ks, r, e => by
    simp only [RVs] at r
    obtain ⟨v, r, rfl, h1, h2⟩ := r
    simp only [keysD] at e
    obtain ⟨k, e1, e2⟩ := Option.bind_eq_some_iff.mp e
    obtain ⟨ks', e3, rfl⟩ := Option.map_eq_some_iff.mp e2
    rw [List.map_cons, keyD_rv h1 e1, keysD_rv h2 e3]
/-- the dict's entry at a key: none if it is no dict or the key none -/
def look (m : Me) (d k : D) : Option (Option D) := match view m d with
  | .dct kvs => (keyD k).map fun k => getK kvs k
  | _ => none
section
variable {K : PySem.W.Frag} {H : Hp} {μ : Mu} {m : Me} {d k : D} {v u : V}
def LookOk (K : PySem.W.Frag) (H : Hp) (μ : Mu) (a : Addr) (u : V) (o : Option D) : Prop := match o with
    | some y => ∃ z, DGet H a u (some z) ∧ RV K H μ y z
    | none => DGet H a u none
theorem look_of {o : Option D} (hH : RH K H μ m) (r : RV K H μ d v) (rk : RV K H μ k u) (e : look m d k = some o) : ∃ a, v = .ref a ∧ IsD H a ∧ LookOk K H μ a u o := by
  unfold look at e
  split at e
  · rename_i kvs e1
    obtain ⟨k', e2, e3⟩ := Option.map_eq_some_iff.mp e
    obtain ⟨a, ps, rfl, hs, hr⟩ := view_dct hH r e1
    refine ⟨a, rfl, .inl ⟨ps, hs⟩, ?_⟩
    have g := rvq_get (k := k') (rvk_iff.mp hr)
    have ek := keyD_rv rk e2
    rw [e3] at g
    cases o with
    | none => exact .inl ⟨ps, k', hs, ek, g.symm⟩
    | some y => obtain ⟨z, h1, h2⟩ := g; exact ⟨z, .inl ⟨ps, k', hs, ek, h1.symm⟩, h2⟩
  · cases e
theorem isD_of {x : D} (hH : RH K H μ m) (r : RV K H μ d v) {kvs : List (Key × D)} (e : view m d = .dct kvs) : ∃ a, v = .ref a ∧ IsD H a := by
  obtain ⟨a, ps, rfl, hs, hr⟩ := view_dct hH r e
  exact ⟨a, rfl, .inl ⟨ps, hs⟩⟩
end
section
variable {X : Cx} {W : WX} {o i e value : Expr} {pos pos' tpos apos cpos : Pos} {fo fi fe fv : ME}
/-- d[k] -/
def gDget (d k : D) (m : Me) : Res D := match look m d k with
  | some (some y) => .ok y m
  | _ => .no
theorem pd_dget (hu : X.A.units + 1 < cLine) (ho : PD X W o fo) (hi : PD X W i fi) (hs : NoSl i := by exact fun _ _ => rfl) : PD X W (.Subscript o i pos) (m2 gDget fo fi) :=
  PE.imp (pe_dget hu ho hi hs) fun σ H Q ⟨μ, ρ, m, hH, hS, q⟩ => by
    refine seqR q hH hS fun d m1 v H1 μ1 e1 hH1 r1 hS1 q1 => ?_
    refine seqR q1 hH1 hS1 fun d' m2 v' H2 μ2 e2 hH2 r2 hS2 q2 => ?_
    unfold gDget at q2
    split at q2
    · rename_i y e3
      obtain ⟨a, rfl, _, z, h1, h2⟩ := look_of hH2 (RV.ext e2 d v r1) r2 e3
      exact ⟨a, z, rfl, h1, q2 z H2 μ2 .refl hH2 h2⟩
    · exact q2.elim
/-- k in d, k not in d -/
def gDin (neg : Bool) (k d : D) (m : Me) : Res D := match look m d k with
  | some o => .ok (.bl (if neg then !o.isSome else o.isSome)) m
  | none => .no
theorem look_get {K : PySem.W.Frag} {H : Hp} {μ : Mu} {m : Me} {d k : D} {v u : V} {o : Option D} (hH : RH K H μ m) (r : RV K H μ d v) (rk : RV K H μ k u) (e : look m d k = some o) : ∃ a o', v = .ref a ∧ DGet H a u o' ∧ o'.isSome = o.isSome := by
  obtain ⟨a, rfl, _, h⟩ := look_of hH r rk e
  cases o with
  | none => exact ⟨a, none, rfl, h, rfl⟩
  | some y => obtain ⟨z, h1, _⟩ := h; exact ⟨a, some z, rfl, h1, rfl⟩
theorem pc_in (hu : X.A.units + 1 < cLine) (hi : PD X W i fi) (ho : PD X W o fo) : PC X .In i o (tR X.K W (RVv X.K) (m2 (gDin false) fi fo)) :=
  ⟨fun pins s σ H Q I h => (pc_din hu hi ho).run pins s σ H Q I (by
    obtain ⟨μ, ρ, m, hH, hS, q⟩ := h
    refine seqR q hH hS fun d m1 v H1 μ1 e1 hH1 r1 hS1 q1 => ?_
    refine seqR q1 hH1 hS1 fun d' m2 v' H2 μ2 e2 hH2 r2 hS2 q2 => ?_
    unfold gDin at q2
    split at q2
    · rename_i oo e3
      obtain ⟨a, o', rfl, h1, h2⟩ := look_get hH2 r2 (RV.ext e2 d v r1) e3
      exact ⟨a, o', rfl, h1, q2 _ H2 μ2 .refl hH2 (by simp [RV, h2])⟩
    · exact q2.elim)⟩
theorem pc_notin (hu : X.A.units + 1 < cLine) (hi : PD X W i fi) (ho : PD X W o fo) : PC X .NotIn i o (tR X.K W (RVv X.K) (m2 (gDin true) fi fo)) :=
  ⟨fun pins s σ H Q I h => (pc_dnotin hu hi ho).run pins s σ H Q I (by
    obtain ⟨μ, ρ, m, hH, hS, q⟩ := h
    refine seqR q hH hS fun d m1 v H1 μ1 e1 hH1 r1 hS1 q1 => ?_
    refine seqR q1 hH1 hS1 fun d' m2 v' H2 μ2 e2 hH2 r2 hS2 q2 => ?_
    unfold gDin at q2
    split at q2
    · rename_i oo e3
      obtain ⟨a, o', rfl, h1, h2⟩ := look_get hH2 r2 (RV.ext e2 d v r1) e3
      exact ⟨a, o', rfl, h1, q2 _ H2 μ2 .refl hH2 (by simp [RV, h2])⟩
    · exact q2.elim)⟩
theorem pd_din (hu : X.A.units + 1 < cLine) (hi : PD X W i fi) (ho : PD X W o fo) (h1 : behindInMarks .In o = false := by rfl) : PD X W (.Compare i [.In] [o] pos) (m2 (gDin false) fi fo) := pe_cmp (pc_in hu hi ho) h1
theorem pd_dnotin (hu : X.A.units + 1 < cLine) (hi : PD X W i fi) (ho : PD X W o fo) (h1 : behindInMarks .NotIn o = false := by rfl) : PD X W (.Compare i [.NotIn] [o] pos) (m2 (gDin true) fi fo) := pe_cmp (pc_notin hu hi ho) h1
theorem tB_imp {f : ME} {σ : L2.St} {H : Hp} {Q : Bool → Hp → Prop} (h : tR X.K W RVB (mB f) σ H Q) : tB (tR X.K W (RVv X.K) f) σ H Q := by
  obtain ⟨μ, ρ, m, hH, hS, q⟩ := h
  exact seqR q hH hS fun d m1 v H1 μ1 e1 hH1 r1 hS1 q1 => okB hH1 r1 q1
theorem pdt_din (hu : X.A.units + 1 < cLine) (hi : PD X W i fi) (ho : PD X W o fo) (h1 : behindInMarks .In o = false := by rfl) : PDT X W (.Compare i [.In] [o] pos) (mB (m2 (gDin false) fi fo)) := PT.imp (pt_cmp (pc_in hu hi ho) h1) fun σ H Q h => tB_imp h
theorem pdt_dnotin (hu : X.A.units + 1 < cLine) (hi : PD X W i fi) (ho : PD X W o fo) (h1 : behindInMarks .NotIn o = false := by rfl) : PDT X W (.Compare i [.NotIn] [o] pos) (mB (m2 (gDin true) fi fo)) := PT.imp (pt_cmp (pc_notin hu hi ho) h1) fun σ H Q h => tB_imp h
/-- d.get(k, x) -/
def m3 (g : D → D → D → Me → Res D) (fa fb fc : ME) : ME := fun ρ m => (fa ρ m).bind fun d m => match view m d with
  | .dct _ => (fb ρ m).bind fun d' m => (fc ρ m).bind fun d'' m => g d d' d'' m
  | _ => .no
def gDget2 (d k x : D) (m : Me) : Res D := match look m d k with
  | some (some y) => .ok y m
  | some none => .ok x m
  | none => .no
theorem pd_dget2 (hu : X.A.units + 1 < cLine) (ho : PD X W o fo) (hi : PD X W i fi) (he : PD X W e fe) (hm : M2 X o "get" apos i e cpos) : PD X W (.Call (.Attribute o "get" apos) [i, e] [] cpos) (m3 gDget2 fo fi fe) :=
  PE.imp (pe_dget2 hu ho hi he hm) fun σ H Q ⟨μ, ρ, m, hH, hS, q⟩ => by
    refine seqR q hH hS fun d m1 v H1 μ1 e1 hH1 r1 hS1 q1 => ?_
    split at q1
    · rename_i kvs ev
      obtain ⟨a, rfl, hd⟩ := isD_of (x := d) hH1 r1 ev
      refine ⟨a, rfl, hd, ?_⟩
      refine seqR q1 hH1 hS1 fun d' m2 v' H2 μ2 e2 hH2 r2 hS2 q2 => ?_
      refine seqR q2 hH2 hS2 fun d'' m3 v'' H3 μ3 e3 hH3 r3 hS3 q3 => ?_
      unfold gDget2 at q3
      split at q3
      · rename_i y e4
        obtain ⟨a', ea, _, z, h1, h2⟩ := look_of hH3 (RV.ext e3 d _ (RV.ext e2 d _ r1)) (RV.ext e3 d' v' r2) e4
        cases ea
        exact ⟨some z, h1, q3 z H3 μ3 .refl hH3 h2⟩
      · rename_i e4
        obtain ⟨a', ea, _, h1⟩ := look_of hH3 (RV.ext e3 d _ (RV.ext e2 d _ r1)) (RV.ext e3 d' v' r2) e4
        cases ea
        exact ⟨none, h1, q3 v'' H3 μ3 .refl hH3 r3⟩
      · exact q3.elim
    · exact q1.elim
/-- d[k] = v, d a thing of the store -/
def dput (m : Me) (d k y : D) : Option Me := match d, keyD k with
  | .ref i, some k => match m[i]? with
    | some (.dK kvs) => if kvs.length < 1000000 then some (m.set i (.dK (setK kvs k y))) else none
    | _ => none
  | _, _ => none
theorem dput_of {K : PySem.W.Frag} {H : Hp} {μ : Mu} {m m' : Me} {d k y : D} {v u z : V} (hH : RH K H μ m) (r : RV K H μ d v) (rk : RV K H μ k u) (ry : RV K H μ y z) (e : dput m d k y = some m') :
    ∃ a H', v = .ref a ∧ DPut H a u z H' ∧ Ext K H μ H' μ ∧ RH K H' μ m' := by
  unfold dput at e
  split at e
  · rename_i i k' e1
    simp only [RV] at r
    obtain ⟨a, rfl, ha⟩ := r
    cases e2 : m[i]? with
    | none => simp only [e2] at e; cases e
    | some c =>
      cases c with
      | dK kvs =>
        simp only [e2] at e
        split at e
        · rename_i hl
          cases e
          obtain ⟨a', ea, ps, hs, hr⟩ := hH.at' i _ e2
          rw [ha] at ea; cases ea
          have hq := rvk_iff.mp hr
          have hlen : ps.length < sizeLine := by rw [← rvq_len hq, sizeLine_eq]; omega
          have x := Ext.wr (o := .dK (putK ps k' z)) hH ha
          refine ⟨a, _, rfl, .inl ⟨ps, k', hs, keyD_rv rk e1, hlen, rfl⟩, x, hH.wr ha ⟨_, upd_same, rvk_iff.mpr ?_⟩⟩
          exact L2.Paired.mapP (rvq_set ry hq) fun p q z => ⟨z.1, RV.ext x _ _ z.2⟩
        · cases e
      | _ => simp only [e2] at e; cases e
  · cases e
def sDput (fo fi fv : ME) : MS := fun ρ m => bindS (fv ρ m) ρ fun y m => bindS (fo ρ m) ρ fun d m => bindS (fi ρ m) ρ fun k m => match dput m d k y with
  | some m' => .nx ρ m'
  | none => .no
theorem pds_dput (hu : X.A.units + 1 < cLine) (ho : PD X W o fo) (hi : PD X W i fi) (hv : PD X W value fv) (hs : swapsWith value (some (.Subscript o i pos')) pos.line X.env = pure false := by rfl) : PDS X W (.Assign [.Subscript o i pos'] value pos) (sDput fo fi fv) :=
  PS.imp (ps_dput hu ho hi hv hs) fun D σ H ⟨μ, ρ, m, hH, hS, q⟩ => by
    refine seqS q hH hS fun y m1 z H1 μ1 e1 hH1 r1 hS1 q1 => ?_
    refine seqS q1 hH1 hS1 fun d m2 v H2 μ2 e2 hH2 r2 hS2 q2 => ?_
    refine seqS q2 hH2 hS2 fun k m3 u H3 μ3 e3 hH3 r3 hS3 q3 => ?_
    cases e4 : dput m3 d k y with
    | none => rw [e4] at q3; exact q3.elim
    | some m' =>
      rw [e4] at q3
      obtain ⟨a, H4, rfl, h1, x, h2⟩ := dput_of hH3 (RV.ext e3 d v r2) r3 (RV.ext e3 y z (RV.ext e2 y z r1)) e4
      exact ⟨a, H4, rfl, h1, q3 σ H4 μ3 x h2 (hS3.ext x)⟩
/-- d[k] += e of whole numbers -/
def sDaug (fo fi fe : ME) : MS := fun ρ m => bindS (fo ρ m) ρ fun d m => bindS (fi ρ m) ρ fun k m => match look m d k with
  | some (some (.int i)) => bindS (fe ρ m) ρ fun y m => match y with
    | .int j => match dput m d k (.int (i + j)) with
      | some m' => .nx ρ m'
      | none => .no
    | _ => .no
  | _ => .no
theorem pds_daug (hu : X.A.units + 1 < cLine) (ho : PD X W o fo) (hi : PD X W i fi) (he : PD X W e fe)
    (ha : ∀ ov iv new, augStore i ov iv new = (do holding [new, ov, iv] (setItem ov iv new); release [new, ov, iv] []; pure .next) := by exact fun _ _ _ => rfl) : PDS X W (.AugAssign (.Subscript o i tpos) .Add e pos) (sDaug fo fi fe) :=
  PS.imp (ps_daug hu ho hi he in_add ha) fun D σ H ⟨μ, ρ, m, hH, hS, q⟩ => by
    refine seqS q hH hS fun d m1 v H1 μ1 e1 hH1 r1 hS1 q1 => ?_
    refine seqS q1 hH1 hS1 fun k m2 u H2 μ2 e2 hH2 r2 hS2 q2 => ?_
    split at q2
    · rename_i i0 e3
      obtain ⟨a, rfl, _, z, h1, h2⟩ := look_of hH2 (RV.ext e2 d v r1) r2 e3
      simp only [RV] at h2
      subst h2
      refine ⟨a, _, rfl, h1, ?_⟩
      refine seqS q2 hH2 hS2 fun y m3 w H3 μ3 e3 hH3 r3 hS3 q3 => ?_
      cases y with
      | int j =>
        simp only [RVv, RV] at r3
        subst r3
        refine ⟨i0, j, rfl, rfl, ?_⟩
        dsimp only at q3
        cases e4 : dput m3 d k (.int (i0 + j)) with
        | none => rw [e4] at q3; exact q3.elim
        | some m' =>
          rw [e4] at q3
          obtain ⟨a', H4, ea, h1, x, h2⟩ := dput_of hH3 (RV.ext e3 d _ (RV.ext e2 d _ r1)) (RV.ext e3 k u r2) (z := .int (i0 + j)) (by simp [RV]) e4
          cases ea
          exact ⟨H4, h1, q3 σ H4 μ3 x h2 (hS3.ext x)⟩
      | _ => exact q3.elim
    · exact q2.elim

/-! ### slices -/
def mOpt (f : ME) : En → Me → Res (Option Int) := fun ρ m => (f ρ m).bind fun d m => match d with
  | .int i => .ok (some i) m
  | _ => .no
def mNo : En → Me → Res (Option Int) := fun _ m => .ok none m
abbrev RO : Hp → Mu → Option Int → Option Int → Prop := fun _ _ a b => a = b
abbrev PDO (X : Cx) (W : WX) (e : Option Expr) (f : En → Me → Res (Option Int)) : Prop := PO X e (tR X.K W RO f)
theorem _root_.L2.PO.imp {e : Option Expr} {t t' : TO} (h : PO X e t) (w : ∀ σ H Q, t' σ H Q → t σ H Q) : PO X e t' := ⟨fun pins s σ H Q I q => h.run pins s σ H Q I (w σ H Q q)⟩
theorem pdo_none : PDO X W none mNo := PO.imp po_none fun σ H Q ⟨μ, ρ, m, hH, hS, q⟩ => q none H μ .refl hH rfl
theorem pdo_some (h : PD X W e fe) : PDO X W (some e) (mOpt fe) := PO.imp (po_some h) fun σ H Q ⟨μ, ρ, m, hH, hS, q⟩ => seqR q hH hS fun d m1 v H1 μ1 e1 hH1 r1 hS1 q1 => by
  cases d with
  | int i => simp only [RVv, RV] at r1; exact ⟨i, r1, q1 _ H1 μ1 .refl hH1 rfl⟩
  | _ => exact q1.elim
def cutD {α : Type} (xs : List α) (lo hi : Option Int) : List α := (xs.drop (HT.sIx xs.length 0 lo)).take (HT.sIx xs.length xs.length hi - HT.sIx xs.length 0 lo)
def gSl (d : D) (lo hi : Option Int) (m : Me) : Res D := match view m d with
  | .tup xs => .ok (.tup (cutD xs lo hi)) m
  | .lst xs => .ok (.lst (cutD xs lo hi)) m
  | .str z => if z.length ≤ sizeLine then .ok (.str (cutS z lo hi)) m else .no
  | _ => .no
def mSl (fa : ME) (fl fh : En → Me → Res (Option Int)) : ME := fun ρ m => (fa ρ m).bind fun d m => (fl ρ m).bind fun lo m => (fh ρ m).bind fun hi m => gSl d lo hi m
theorem cut_rv {K : PySem.W.Frag} {H : Hp} {μ : Mu} {ds : List D} {vs : List V} {lo hi : Option Int} (r : RVs K H μ ds vs) : RVs K H μ (cutD ds lo hi) (cutV vs lo hi) := by
  unfold cutD cutV
  rw [r.length]
  exact (r.drop _).take _
theorem cut_whole {α : Type} {xs : List α} {lo hi : Option Int} (h : HT.sIx xs.length 0 lo = 0 ∧ HT.sIx xs.length xs.length hi = xs.length) : cutD xs lo hi = xs := by
  unfold cutD; rw [h.1, h.2]; simp
theorem pd_slice {a : Expr} {lo hi : Option Expr} {p2 : Pos} {fa : ME} {fl fh : En → Me → Res (Option Int)} (ha : PD X W a fa) (hl : PDO X W lo fl) (hh : PDO X W hi fh) : PD X W (.Subscript a (.Slice lo hi none p2) pos) (mSl fa fl fh) :=
  PE.imp (pe_slice (sl_tupN.or (sl_list.or sl_str)) ha hl hh) fun σ H Q ⟨μ, ρ, m, hH, hS, q⟩ => by
    refine seqR q hH hS fun d m1 v H1 μ1 e1 hH1 r1 hS1 q1 => ?_
    refine seqR q1 hH1 hS1 fun lo m2 lo' H2 μ2 e2 hH2 r2 hS2 q2 => ?_
    refine seqR q2 hH2 hS2 fun hi m3 hi' H3 μ3 e3 hH3 r3 hS3 q3 => ?_
    subst r2 r3
    have r := RV.ext e3 d v (RV.ext e2 d v r1)
    unfold gSl at q3
    split at q3
    · rename_i xs e4
      have := view_tup e4; subst this
      obtain ⟨a, vs, rfl, s1, z1, w1⟩ := rv_tup r
      refine .inl ⟨a, vs, rfl, s1.sq, fun hw => ?_, fun hw p o hd hp => ?_⟩
      · refine q3 _ H3 μ3 .refl hH3 ?_
        simp only [RV]
        rw [cut_whole (by rw [w1.length]; exact hw)]
        exact ⟨a, vs, rfl, s1, z1, w1⟩
      · have ex := Ext.new (o := .frz o (.tup (cutV vs lo hi))) hH3 hp
        refine q3 _ _ μ3 ex (hH3.new hp) ?_
        simp only [RV]
        exact ⟨p, _, rfl, .inl ⟨o, upd_same, hd⟩, Nat.le_trans (cutV_length vs lo hi) z1, RVs.ext ex _ _ (cut_rv w1)⟩
    · rename_i xs e4
      obtain ⟨a, vs, rfl, s1, z1, w1⟩ := view_lst hH3 r e4
      refine .inr (.inl ⟨a, vs, rfl, .of s1, fun p hp => ?_⟩)
      have ex := Ext.new (o := .lst (cutV vs lo hi)) hH3 hp
      refine q3 _ _ μ3 ex (hH3.new hp) ?_
      simp only [RV]
      exact ⟨p, _, rfl, ⟨hH3.notin hp, fun z => hH3.hid _ z hp⟩, upd_same, Nat.le_trans (cutV_length vs lo hi) z1, RVs.ext ex _ _ (cut_rv w1)⟩
    · rename_i z e4
      have := view_str e4; subst this
      simp only [RV] at r
      split at q3
      · rename_i hz
        exact .inr (.inr ⟨z, r, hz, q3 _ H3 μ3 .refl hH3 (by simp [RV])⟩)
      · exact q3.elim
    · exact q3.elim
end
end FL

set_option maxRecDepth 100000
namespace FL
open PySem PySem.Spec PyProof.Rows L2

/-! ### order of texts -/
def leS (a b : Str) : Bool := decide (¬ b.cps.toList < a.cps.toList)
theorem leS_trans (a b c : Str) (h1 : leS a b = true) (h2 : leS b c = true) : leS a c = true := by
  have h1 := of_decide_eq_true h1; have h2 := of_decide_eq_true h2
  exact decide_eq_true (List.not_lt.mpr (List.le_trans (List.not_lt.mp h1) (List.not_lt.mp h2)))
theorem leS_total (a b : Str) : (leS a b || leS b a) = true := by
  rw [Bool.or_eq_true]
  rcases List.le_total a.cps.toList b.cps.toList with h | h
  · exact .inl (decide_eq_true (List.not_lt.mpr h))
  · exact .inr (decide_eq_true (List.not_lt.mpr h))
theorem leS_anti {a b : Str} (h1 : leS a b = true) (h2 : leS b a = true) : a = b := by
  have h1 := of_decide_eq_true h1; have h2 := of_decide_eq_true h2
  have := List.le_antisymm (List.not_lt.mp h1) (List.not_lt.mp h2)
  obtain ⟨⟨a⟩⟩ := a; obtain ⟨⟨b⟩⟩ := b
  simp at this; subst this; rfl
theorem sortedS_pw : ∀ {xs : List Str}, sortedS xs = true → xs.Pairwise fun a b => leS a b = true
  | [], _ => .nil
  | x :: r, h => by
    have aux : ∀ (r : List Str) (p : Str), risingS p r = true → (p :: r).Pairwise fun a b => leS a b = true := by
      intro r
      induction r with
      | nil => intro p _; exact List.pairwise_singleton _ _
      | cons y r ih =>
        intro p h
        simp only [risingS, Bool.and_eq_true] at h
        have h1 : leS p y = true := by
          have := h.1
          rw [ltCps_eq] at this
          unfold leS
          simpa using this
        have h2 := ih y h.2
        refine List.pairwise_cons.mpr ⟨fun z hz => ?_, h2⟩
        rcases List.mem_cons.mp hz with e | hz
        · subst e; exact h1
        · exact leS_trans p y z h1 ((List.pairwise_cons.mp h2).1 z hz)
    exact aux r x h
def sortS (xs : List Str) : List Str := xs.mergeSort leS
theorem sortS_eq {xs ys : List Str} (p : ys.Perm xs) (s : sortedS ys = true) : ys = sortS xs :=
  List.Perm.eq_of_pairwise (le := fun a b => leS a b = true) (fun a b _ _ h1 h2 => leS_anti h1 h2) (sortedS_pw s) (List.pairwise_mergeSort leS_trans leS_total xs) (p.trans (List.mergeSort_perm xs leS).symm)

/-! ### built-in functions -/
section
variable {X : Cx}
/-- len of a dict that may be known -/
theorem call_lenR : CallR X (.builtin "len") (fun xs H Q => ∃ a kvs, xs = [V.ref a] ∧ Rd H a (.dK kvs) ∧ Q (.int kvs.length) H) := by
  rintro pins s σ H xs us Q I r ⟨a, kvs, rfl, ha, q⟩
  obtain ⟨u, rfl, ru⟩ := vals1 r
  cases ru
  exact d_len I ha fun t s' I' => ⟨.int kvs.length, H, I', ⟨t, rfl⟩, q⟩
def gLen (ds : List D) (m : Me) : Res D := match ds with
  | [d] => match view m d with
    | .tup xs => .ok (.int xs.length) m
    | .lst xs => .ok (.int xs.length) m
    | .scr xs => .ok (.int xs.length) m
    | .dct xs => .ok (.int xs.length) m
    | .str z => if z.length ≤ sizeLine then .ok (.int z.length) m else .no
    | _ => .no
  | _ => .no
theorem view_scr {m : Me} {d : D} {i : List Int} (e : view m d = .scr i) : d = .scr i := by
  cases d with
  | ref i => unfold view at e; dsimp only at e; split at e <;> cases e
  | _ => exact e
theorem scr_sq {K : PySem.W.Frag} {H : Hp} {μ : Mu} {ns : List Int} {v : V} (r : RV K H μ (.scr ns) v) : ∃ a, v = .ref a ∧ SqL K H a (ns.map V.int) := by
  simp only [RV] at r
  obtain ⟨a, rfl, hs⟩ := r
  refine ⟨a, rfl, ?_⟩
  rcases hs with ⟨_, hs⟩ | hs
  · exact .inl hs
  · rcases hs with (z | ⟨_, z⟩) | hs
    · cases z
    · cases z
    · exact .inr hs
theorem g_len {K : PySem.W.Frag} : GC K (fun xs H Q => (∃ x n, xs = [x] ∧ LenV K x H n ∧ Q (.int n) H) ∨ ∃ a kvs, xs = [V.ref a] ∧ Rd H a (.dK kvs) ∧ Q (.int kvs.length) H) gLen := fun Ex H μ m ds vs Q hH rr q => by
  unfold gLen at q
  split at q
  · rename_i d
    obtain ⟨v, rfl, r⟩ := rvs1 rr
    split at q
    · rename_i xs e
      have := view_tup e; subst this
      obtain ⟨a, vs, rfl, s1, z1, w1⟩ := rv_tup r
      exact .inl ⟨_, vs.length, rfl, .inr ⟨vs, s1.sq, rfl⟩, by rw [← w1.length]; exact q _ H μ .refl hH (by simp [RV])⟩
    · rename_i xs e
      obtain ⟨a, vs, rfl, s1, z1, w1⟩ := view_lst hH r e
      exact .inl ⟨_, vs.length, rfl, .inl ⟨vs, .of s1, rfl⟩, by rw [← w1.length]; exact q _ H μ .refl hH (by simp [RV])⟩
    · rename_i ns e
      have := view_scr e; subst this
      obtain ⟨a, rfl, hs⟩ := scr_sq r
      exact .inl ⟨_, ns.length, rfl, .inl ⟨_, hs, by simp⟩, q _ H μ .refl hH (by simp [RV])⟩
    · rename_i kvs e
      obtain ⟨a, ps, rfl, hs, hr⟩ := view_dct hH r e
      exact .inr ⟨a, ps, rfl, hs, by rw [← rvq_len (rvk_iff.mp hr)]; exact q _ H μ .refl hH (by simp [RV])⟩
    · rename_i z e
      have := view_str e; subst this
      simp only [RV] at r
      subst r
      split at q
      · rename_i hz
        exact .inl ⟨_, z.length, rfl, ⟨hz, rfl⟩, q _ H μ .refl hH (by simp [RV])⟩
      · exact q.elim
    · exact q.elim
  · exact q.elim
def gInt (ds : List D) (m : Me) : Res D := match ds with
  | [.int i] => .ok (.int i) m
  | [.bl k] => .ok (.int (if k then 1 else 0)) m
  | _ => .no
theorem g_int {K : PySem.W.Frag} : GC K (fun xs H Q => (∃ i, xs = [.int i] ∧ Q (.int i) H) ∨ ∃ k, xs = [.bl k] ∧ Q (.int (if k then 1 else 0)) H) gInt := fun Ex H μ m ds vs Q hH rr q => by
  unfold gInt at q
  split at q
  · obtain ⟨v, rfl, r⟩ := rvs1 rr
    simp only [RV] at r; subst r
    exact .inl ⟨_, rfl, q _ H μ .refl hH (by simp [RV])⟩
  · obtain ⟨v, rfl, r⟩ := rvs1 rr
    simp only [RV] at r; subst r
    exact .inr ⟨_, rfl, q _ H μ .refl hH (by simp [RV])⟩
  · exact q.elim
def gAbs (ds : List D) (m : Me) : Res D := match ds with
  | [.int i] => .ok (.int (if i < 0 then -i else i)) m
  | _ => .no
theorem g_abs {K : PySem.W.Frag} : GC K (fun xs H Q => ∃ i, xs = [.int i] ∧ Q (.int (if i < 0 then -i else i)) H) gAbs := fun Ex H μ m ds vs Q hH rr q => by
  unfold gAbs at q
  split at q
  · obtain ⟨v, rfl, r⟩ := rvs1 rr
    simp only [RV] at r; subst r
    exact ⟨_, rfl, q _ H μ .refl hH (by simp [RV])⟩
  · exact q.elim
def gMax2 (ds : List D) (m : Me) : Res D := match ds with
  | [.int i, .int j] => .ok (.int (if j > i then j else i)) m
  | _ => .no
theorem g_max2 {K : PySem.W.Frag} : GC K (fun xs H Q => ∃ i j, xs = [.int i, .int j] ∧ Q (.int (if j > i then j else i)) H) gMax2 := fun Ex H μ m ds vs Q hH rr q => by
  unfold gMax2 at q
  split at q
  · exact ⟨_, _, ints2 rr, q _ H μ .refl hH (by simp [RV])⟩
  · exact q.elim
def gStr (ds : List D) (m : Me) : Res D := match ds with
  | [.int i] => if i.natAbs < 2 ^ 64 then .ok (.str (toString i)) m else .no
  | _ => .no
theorem g_str {K : PySem.W.Frag} : GC K (fun xs H Q => ∃ i, xs = [.int i] ∧ i.natAbs.log2 < 1920 ∧ Q (.str (toString i)) H) gStr := fun Ex H μ m ds vs Q hH rr q => by
  unfold gStr at q
  split at q
  · obtain ⟨v, rfl, r⟩ := rvs1 rr
    simp only [RV] at r; subst r
    split at q
    · rename_i i hi
      refine ⟨_, rfl, ?_, q _ H μ .refl hH (by simp [RV])⟩
      exact Nat.lt_of_lt_of_le (PySem.Flt.log2_lt_of (by decide) hi) (by decide)
    · exact q.elim
  · exact q.elim
/-- tuple(x) of a list or a tuple -/
def gTuple (ds : List D) (m : Me) : Res D := match ds with
  | [d] => match view m d with
    | .tup xs => .ok (.tup xs) m
    | .lst xs => .ok (.tup xs) m
    | _ => .no
  | _ => .no
theorem g_tuple {K : PySem.W.Frag} : GC K (rTupOfN K) gTuple := fun Ex H μ m ds vs Q hH rr q => by
  unfold gTuple at q
  split at q
  · rename_i d
    obtain ⟨v, rfl, r⟩ := rvs1 rr
    split at q
    · rename_i xs e
      have := view_tup e; subst this
      have r0 := r
      obtain ⟨a, vs, rfl, s1, z1, w1⟩ := rv_tup r
      exact ⟨a, vs, rfl, .inr ⟨s1.sq, q _ H μ .refl hH r0⟩⟩
    · rename_i xs e
      obtain ⟨a, vs, rfl, s1, z1, w1⟩ := view_lst hH r e
      refine ⟨a, vs, rfl, .inl ⟨.of s1, fun p o hd hp => ?_⟩⟩
      have ex := Ext.new (o := .frz o (.tup vs)) hH hp
      refine q _ _ μ ex (hH.new hp) ?_
      simp only [RV]
      exact ⟨p, vs, rfl, .inl ⟨o, upd_same, hd⟩, z1, RVs.ext ex _ _ w1⟩
    · exact q.elim
  · exact q.elim
def gList (ds : List D) (m : Me) : Res D := match ds with
  | [d] => match seqV m d with
    | some xs => .ok (.lst xs) m
    | none => .no
  | _ => .no
theorem g_list {K : PySem.W.Frag} : GC K (fun xs H Q => ∃ p ys, xs = [.ref p] ∧ (SqL K H p ys ∨ SqT K H p ys) ∧ ∀ l, H l = none → Q (.ref l) (upd H l (.lst ys))) gList := fun Ex H μ m ds vs Q hH rr q => by
  unfold gList at q
  split at q
  · rename_i d
    obtain ⟨v, rfl, r⟩ := rvs1 rr
    split at q
    · rename_i xs e
      obtain ⟨a, vs, rfl, s1, z1, w1⟩ := seqV_of hH r e
      refine ⟨a, vs, rfl, s1, fun p hp => ?_⟩
      have ex := Ext.new (o := .lst vs) hH hp
      refine q _ _ μ ex (hH.new hp) ?_
      simp only [RV]
      exact ⟨p, vs, rfl, ⟨hH.notin hp, fun z => hH.hid _ z hp⟩, upd_same, z1, RVs.ext ex _ _ w1⟩
    · exact q.elim
  · exact q.elim
/-- a list of truths, of ints, of texts -/
def blsD : List D → Option (List Bool)
  | [] => some []
  | .bl b :: r => (blsD r).map fun bs => b :: bs
  | _ => none
def intsD : List D → Option (List Int)
  | [] => some []
  | .int b :: r => (intsD r).map fun bs => b :: bs
  | _ => none
def strsD : List D → Option (List Str)
  | [] => some []
  | .str b :: r => (strsD r).map fun bs => b :: bs
  | _ => none
theorem blsD_rv {K : PySem.W.Frag} {H : Hp} {μ : Mu} : ∀ {ds : List D} {vs : List V} {bs : List Bool}, RVs K H μ ds vs → blsD ds = some bs → vs = bs.map V.bl
  | [], vs, bs, r, e => by simp only [RVs] at r; cases e; exact r
  | d :: ds, vs, bs, r, e => by
    cases d <;> simp only [blsD] at e <;> (try cases e)
    simp only [RVs, RV] at r
    obtain ⟨v, r, rfl, rfl, h2⟩ := r
    obtain ⟨bs', e3, rfl⟩ := Option.map_eq_some_iff.mp e
    rw [List.map_cons, blsD_rv h2 e3]
theorem intsD_rv {K : PySem.W.Frag} {H : Hp} {μ : Mu} : ∀ {ds : List D} {vs : List V} {bs : List Int}, RVs K H μ ds vs → intsD ds = some bs → vs = bs.map V.int
  | [], vs, bs, r, e => by simp only [RVs] at r; cases e; exact r
  | d :: ds, vs, bs, r, e => by
    cases d <;> simp only [intsD] at e <;> (try cases e)
    simp only [RVs, RV] at r
    obtain ⟨v, r, rfl, rfl, h2⟩ := r
    obtain ⟨bs', e3, rfl⟩ := Option.map_eq_some_iff.mp e
    rw [List.map_cons, intsD_rv h2 e3]
theorem strsD_rv {K : PySem.W.Frag} {H : Hp} {μ : Mu} : ∀ {ds : List D} {vs : List V} {bs : List Str}, RVs K H μ ds vs → strsD ds = some bs → vs = bs.map V.str
  | [], vs, bs, r, e => by simp only [RVs] at r; cases e; exact r
  | d :: ds, vs, bs, r, e => by
    cases d <;> simp only [strsD] at e <;> (try cases e)
    simp only [RVs, RV] at r
    obtain ⟨v, r, rfl, rfl, h2⟩ := r
    obtain ⟨bs', e3, rfl⟩ := Option.map_eq_some_iff.mp e
    rw [List.map_cons, strsD_rv h2 e3]
def lstV (m : Me) (d : D) : Option (List D) := match view m d with
  | .lst xs => some xs
  | _ => none
theorem lstV_of {K : PySem.W.Frag} {H : Hp} {μ : Mu} {m : Me} {d : D} {v : V} {xs : List D} (hH : RH K H μ m) (r : RV K H μ d v) (e : lstV m d = some xs) : ∃ a vs, v = .ref a ∧ H a = some (.lst vs) ∧ vs.length ≤ sizeLine ∧ RVs K H μ xs vs := by
  unfold lstV at e
  split at e
  · rename_i ys e1
    cases e
    exact view_lst hH r e1
  · cases e
def gAll (ds : List D) (m : Me) : Res D := match ds with
  | [d] => match (lstV m d).bind blsD with
    | some bs => .ok (.bl (bs.all id)) m
    | none => .no
  | _ => .no
def gAny (ds : List D) (m : Me) : Res D := match ds with
  | [d] => match (lstV m d).bind blsD with
    | some bs => .ok (.bl (bs.any id)) m
    | none => .no
  | _ => .no
def gSum (ds : List D) (m : Me) : Res D := match ds with
  | [d] => match (lstV m d).bind intsD with
    | some bs => .ok (.int bs.sum) m
    | none => .no
  | _ => .no
theorem g_all {K : PySem.W.Frag} : GC K (rAll K) gAll := fun Ex H μ m ds vs Q hH rr q => by
  unfold gAll at q
  split at q
  · obtain ⟨v, rfl, r⟩ := rvs1 rr
    split at q
    · rename_i d bs e
      obtain ⟨xs, e1, e2⟩ := Option.bind_eq_some_iff.mp e
      obtain ⟨a, vs, rfl, s1, z1, w1⟩ := lstV_of hH r e1
      have := blsD_rv w1 e2; subst this
      exact ⟨a, bs, rfl, .of s1, q _ H μ .refl hH (by simp [RV])⟩
    · exact q.elim
  · exact q.elim
theorem g_any {K : PySem.W.Frag} : GC K (rAny K) gAny := fun Ex H μ m ds vs Q hH rr q => by
  unfold gAny at q
  split at q
  · obtain ⟨v, rfl, r⟩ := rvs1 rr
    split at q
    · rename_i d bs e
      obtain ⟨xs, e1, e2⟩ := Option.bind_eq_some_iff.mp e
      obtain ⟨a, vs, rfl, s1, z1, w1⟩ := lstV_of hH r e1
      have := blsD_rv w1 e2; subst this
      exact ⟨a, bs, rfl, .of s1, q _ H μ .refl hH (by simp [RV])⟩
    · exact q.elim
  · exact q.elim
theorem g_sum {K : PySem.W.Frag} : GC K (rSum K) gSum := fun Ex H μ m ds vs Q hH rr q => by
  unfold gSum at q
  split at q
  · obtain ⟨v, rfl, r⟩ := rvs1 rr
    split at q
    · rename_i d bs e
      obtain ⟨xs, e1, e2⟩ := Option.bind_eq_some_iff.mp e
      obtain ⟨a, vs, rfl, s1, z1, w1⟩ := lstV_of hH r e1
      have := intsD_rv w1 e2; subst this
      exact ⟨a, bs, rfl, .of s1, q _ H μ .refl hH (by simp [RV])⟩
    · exact q.elim
  · exact q.elim
/-- sorted(d), d a dict of few texts -/
def skeys : List (Key × D) → Option (List Str)
  | [] => some []
  | (.inr x, _) :: r => (skeys r).map fun xs => x :: xs
  | _ => none
theorem skeys_rv {K : PySem.W.Frag} {H : Hp} {μ : Mu} : ∀ {kvs : List (Key × D)} {ps : List (Key × V)} {ks : List Str}, RVq K H μ kvs ps → skeys kvs = some ks → ps.map (·.1) = ks.map Sum.inr
  | [], _, ks, .nil, e => by cases e; rfl
  | (k, d) :: kvs, _, ks, .cons h t, e => by
    cases k with
    | inl i => cases e
    | inr x =>
      simp only [skeys] at e
      obtain ⟨ks', e1, rfl⟩ := Option.map_eq_some_iff.mp e
      rw [List.map_cons, List.map_cons, skeys_rv t e1, ← h.1]
def gSortD (ds : List D) (m : Me) : Res D := match ds with
  | [d] => match view m d with
    | .dct kvs => match skeys kvs with
      | some ks => if ks.length < 64 then .ok (.lst ((sortS ks).map .str)) m else .no
      | none => .no
    | _ => .no
  | _ => .no
theorem strs_rv {K : PySem.W.Frag} {H : Hp} {μ : Mu} : ∀ (ks : List Str), RVs K H μ (ks.map D.str) (ks.map V.str)
  | [] => by simp [RVs]
  | k :: ks => by simp only [List.map_cons, RVs]; exact ⟨_, _, rfl, by simp [RV], strs_rv ks⟩
theorem g_sortD {K : PySem.W.Frag} : GC K (fun xs H Q => ∃ (a : Addr) (kvs : List (Key × V)) (ks : List Str), xs = [.ref a] ∧ Rd H a (.dK kvs) ∧ kvs.map (·.1) = ks.map Sum.inr ∧ ks.length < 64 ∧
    ∀ ys p, ys.Perm ks → sortedS ys = true → H p = none → Q (.ref p) (upd H p (.lst (ys.map V.str)))) gSortD := fun Ex H μ m ds vs Q hH rr q => by
  unfold gSortD at q
  split at q
  · obtain ⟨v, rfl, r⟩ := rvs1 rr
    split at q
    · rename_i d kvs e
      obtain ⟨a, ps, rfl, hs, hr⟩ := view_dct hH r e
      split at q
      · rename_i ks e2
        split at q
        · rename_i h64
          refine ⟨a, ps, ks, rfl, hs, skeys_rv (rvk_iff.mp hr) e2, h64, fun ys p hp hsd hn => ?_⟩
          have ey := sortS_eq hp hsd
          have ex := Ext.new (o := .lst (ys.map V.str)) hH hn
          refine q _ _ μ ex (hH.new hn) ?_
          simp only [RV]
          refine ⟨p, _, rfl, ⟨hH.notin hn, fun z => hH.hid _ z hn⟩, upd_same, ?_, ?_⟩
          · rw [List.length_map, hp.length_eq, sizeLine_eq]; omega
          · rw [ey]; exact strs_rv _
        · exact q.elim
      · exact q.elim
    · exact q.elim
  · exact q.elim

/-! ### isinstance with a built-in type -/
def tyD (m : Me) (d : D) : Option String := match view m d with
  | .non => some "NoneType"
  | .bl _ => some "bool"
  | .int _ => some "int"
  | .str _ => some "str"
  | .tup _ => some "tuple"
  | .lst _ => some "list"
  | .dct _ => some "dict"
  | .scr _ => some "list"
  | .ref _ => none
  | .fn _ => none
theorem tyD_of {K : PySem.W.Frag} {H : Hp} {μ : Mu} {m : Me} {d : D} {v : V} {t : String} (hH : RH K H μ m) (r : RV K H μ d v) (e : tyD m d = some t) : TyX K H v (.type t) := by
  unfold tyD at e
  split at e <;> cases e
  · rename_i e1
    have : d = .non := by
      cases d with
      | ref i => unfold view at e1; dsimp only at e1; split at e1 <;> cases e1
      | _ => exact e1
    subst this; simp only [RV] at r; subst r; exact .base .non
  · rename_i b e1
    have : d = .bl b := by
      cases d with
      | ref i => unfold view at e1; dsimp only at e1; split at e1 <;> cases e1
      | _ => exact e1
    subst this; simp only [RV] at r; subst r; exact .base (.bl b)
  · rename_i i e1; have := view_int e1; subst this; simp only [RV] at r; subst r; exact .base (.int i)
  · rename_i i e1; have := view_str e1; subst this; simp only [RV] at r; subst r; exact .base (.str i)
  · rename_i xs e1
    have := view_tup e1; subst this
    obtain ⟨a, vs, rfl, s1, _, _⟩ := rv_tup r
    rcases s1 with ⟨o, s1, _⟩ | ⟨o, its, n, hk, hc, _⟩
    · exact .fTuple s1
    · exact .kTuple hk hc
  · rename_i xs e1
    obtain ⟨a, vs, rfl, s1, _, _⟩ := view_lst hH r e1
    exact .base (.lst s1)
  · rename_i xs e1
    obtain ⟨a, ps, rfl, s1, _⟩ := view_dct hH r e1
    rcases s1 with s1 | ⟨o, s1⟩
    · exact .base (.dK s1)
    · exact .fDict s1
  · rename_i xs e1
    have := view_scr e1; subst this
    obtain ⟨a, rfl, s1⟩ := scr_sq r
    rcases s1 with (s1 | ⟨o, s1⟩) | ⟨o, its, n, hk, hc, _⟩
    · exact .base (.lst s1)
    · exact .base (.frz s1)
    · exact .kList hk hc
def gIsi (T : String) (d : D) (m : Me) : Res D := match (tyD m d).bind fun t => kitB t T with
  | some b => .ok (.bl b) m
  | none => .no
variable {W : WX} {a : Expr} {fa : ME} {p p2 pos : Pos} {y : Str} {T : String}
theorem pd_isi (hg : Gl X "isinstance") (hm : X.mg "isinstance" = none) (hg2 : Gl X y) (hm2 : X.mg y = none) (hv2 : bootBuiltins y = some (.type T)) (ha : PD X W a fa) (hn2 : y ≠ "__name__" := by decide) (hd2 : (y == ("__debug__" : Str)) = false := by decide)
    (he : starEach [a, .Name y p2] X.env = (false, eval a X.env) :: starEach [.Name y p2] X.env := by rfl) (hpl : (backTo pos (starEach [.Name y p2] X.env)).any (·.1) = false := by rfl) (he2 : starEach [.Name y p2] X.env = (false, eval (.Name y p2) X.env) :: starEach [] X.env := by rfl) :
    PD X W (.Call (.Name "isinstance" p) [a, .Name y p2] [] pos) (m1 (gIsi T) fa) :=
  PE.imp (pe_callB call_isi hg hm (by decide +kernel) (pa_cons ha (pa_cons (pe_bltn (v := .ty T) hg2 hm2 hv2 rfl hn2 hd2) pa_nil he2) he) (by decide) (by decide) he hpl) fun σ H Q ⟨μ, ρ, m, hH, hS, q⟩ => by
    refine seqR q hH hS fun d m1 v H1 μ1 e1 hH1 r1 hS1 q1 => ?_
    unfold gIsi at q1
    split at q1
    · rename_i b e
      obtain ⟨t, e1, e2⟩ := Option.bind_eq_some_iff.mp e
      exact ⟨v, .ty T, .type t, .type T, b, rfl, .ty T, tyD_of hH1 r1 e1, kit_ty e2, q1 _ H1 μ1 .refl hH1 (by simp [RV])⟩
    · exact q1.elim

/-! ### methods of lists of the store -/
variable {o e : Expr} {fo fe : ME} {apos cpos : Pos}
def mAppend (fo fe : ME) : ME := fun ρ m => (fo ρ m).bind fun d m => match d with
  | .ref i => match m[i]? with
    | some (.lst _) => (fe ρ m).bind fun y m => match m[i]? with
      | some (.lst xs) => if xs.length < 1000000 then .ok .non (m.set i (.lst (xs ++ [y]))) else .no
      | _ => .no
    | _ => .no
  | _ => .no
theorem pd_append (ho : PD X W o fo) (he : PD X W e fe) (hbase : attributeBase o "append" X.env (eval o X.env) = eval o X.env := by rfl)
    (hfew : ((backTo cpos (starEach [e] X.env)).all (fun x => !x.1) && (backToKw cpos (keywordEach [] X.env)).all (fun x => x.1.isSome)
      && decide (([e] : List Expr).length + ([] : List Keyword).length + (if ([] : List Keyword).isEmpty then 0 else 1) < 30)) = true := by rfl)
    (hline : (apos.endLine == cpos.line) = true := by rfl) (hs : starEach [e] X.env = (false, eval e X.env) :: starEach [] X.env := by rfl) (hplain : (backTo cpos (starEach [] X.env)).any (·.1) = false := by rfl) :
    PD X W (.Call (.Attribute o "append" apos) [e] [] cpos) (mAppend fo fe) :=
  PE.imp (pe_bm PySem.F.plainAttrs_list PySem.F.slot_list_append PySem.F.type_list_append mt_append ho (pa_cons he pa_nil hs) hbase hfew hline hs hplain) fun σ H Q ⟨μ, ρ, m, hH, hS, q⟩ => by
    refine seqR q hH hS fun d m1 v H1 μ1 e1 hH1 r1 hS1 q1 => ?_
    cases d with
    | ref i =>
      simp only [RVv, RV] at r1
      obtain ⟨a, rfl, ha⟩ := r1
      cases e2 : m1[i]? with
      | none => simp only [e2] at q1; exact q1.elim
      | some c =>
        cases c with
        | lst xs0 =>
          simp only [e2] at q1
          obtain ⟨a', ea, vs0, hs0, _, _⟩ := hH1.at' i _ e2
          rw [ha] at ea; cases ea
          refine ⟨.inl ⟨rfl, vs0, .of hs0⟩, ?_⟩
          refine seqR q1 hH1 hS1 fun y m2 z H2 μ2 e2' hH2 r2 hS2 q2 => ?_
          cases e3 : m2[i]? with
          | none => simp only [e3] at q2; exact q2.elim
          | some c =>
            cases c with
            | lst xs =>
              simp only [e3] at q2
              split at q2
              · rename_i hl
                have ha2 := e2'.get ha
                obtain ⟨a', ea, vs, hs, hz, hr⟩ := hH2.at' i _ e3
                rw [ha2] at ea; cases ea
                have hlen := hr.length
                have ex := Ext.wr (o := .lst (vs ++ [z])) hH2 ha2
                refine ⟨a, vs, z, rfl, rfl, hs, by rw [sizeLine_eq]; omega, ?_⟩
                refine q2 _ _ μ2 ex (hH2.wr ha2 ⟨_, upd_same, ?_, RVs.ext ex _ _ (hr.append (RVs.one r2))⟩) (by simp [RV])
                rw [List.length_append, List.length_singleton, sizeLine_eq]; omega
              · exact q2.elim
            | _ => simp only [e3] at q2; exact q2.elim
        | _ => simp only [e2] at q1; exact q1.elim
    | _ => exact q1.elim
def mExtend (fo fe : ME) : ME := fun ρ m => (fo ρ m).bind fun d m => match d with
  | .ref i => match m[i]? with
    | some (.lst _) => (fe ρ m).bind fun y m => match m[i]?, lstV m y with
      | some (.lst xs), some ys => if xs.length + ys.length < 1000000 then .ok .non (m.set i (.lst (xs ++ ys))) else .no
      | _, _ => .no
    | _ => .no
  | _ => .no
theorem pd_extend (ho : PD X W o fo) (he : PD X W e fe) (hbase : attributeBase o "extend" X.env (eval o X.env) = eval o X.env := by rfl)
    (hfew : ((backTo cpos (starEach [e] X.env)).all (fun x => !x.1) && (backToKw cpos (keywordEach [] X.env)).all (fun x => x.1.isSome)
      && decide (([e] : List Expr).length + ([] : List Keyword).length + (if ([] : List Keyword).isEmpty then 0 else 1) < 30)) = true := by rfl)
    (hline : (apos.endLine == cpos.line) = true := by rfl) (hs : starEach [e] X.env = (false, eval e X.env) :: starEach [] X.env := by rfl) (hplain : (backTo cpos (starEach [] X.env)).any (·.1) = false := by rfl) :
    PD X W (.Call (.Attribute o "extend" apos) [e] [] cpos) (mExtend fo fe) :=
  PE.imp (pe_bm PySem.F.plainAttrs_list PySem.F.slot_list_extend PySem.F.type_list_extend mt_extend ho (pa_cons he pa_nil hs) hbase hfew hline hs hplain) fun σ H Q ⟨μ, ρ, m, hH, hS, q⟩ => by
    refine seqR q hH hS fun d m1 v H1 μ1 e1 hH1 r1 hS1 q1 => ?_
    cases d with
    | ref i =>
      simp only [RVv, RV] at r1
      obtain ⟨a, rfl, ha⟩ := r1
      cases e2 : m1[i]? with
      | none => simp only [e2] at q1; exact q1.elim
      | some c =>
        cases c with
        | lst xs0 =>
          simp only [e2] at q1
          obtain ⟨a', ea, vs0, hs0, _, _⟩ := hH1.at' i _ e2
          rw [ha] at ea; cases ea
          refine ⟨.inl ⟨rfl, vs0, .of hs0⟩, ?_⟩
          refine seqR q1 hH1 hS1 fun y m2 z H2 μ2 e2' hH2 r2 hS2 q2 => ?_
          cases e3 : m2[i]? with
          | none => simp only [e3] at q2; exact q2.elim
          | some c =>
            cases c with
            | lst xs =>
              cases e4 : lstV m2 y with
              | none => simp only [e3, e4] at q2; exact q2.elim
              | some ys =>
                simp only [e3, e4] at q2
                split at q2
                · rename_i hl
                  have ha2 := e2'.get ha
                  obtain ⟨a', ea, vs, hs, hz, hr⟩ := hH2.at' i _ e3
                  rw [ha2] at ea; cases ea
                  obtain ⟨b, us, rfl, hb, hzb, hrb⟩ := lstV_of hH2 r2 e4
                  have hlen := hr.length
                  have hlenb := hrb.length
                  have ex := Ext.wr (o := .lst (vs ++ us)) hH2 ha2
                  refine ⟨a, b, vs, us, rfl, rfl, hs, hb, by rw [sizeLine_eq]; omega, ?_⟩
                  refine q2 _ _ μ2 ex (hH2.wr ha2 ⟨_, upd_same, ?_, RVs.ext ex _ _ (hr.append hrb)⟩) (by simp [RV])
                  rw [List.length_append, sizeLine_eq]; omega
                · exact q2.elim
            | _ => simp only [e3] at q2; exact q2.elim
        | _ => simp only [e2] at q1; exact q1.elim
    | _ => exact q1.elim
variable {i value : Expr} {fi fv : ME} {pos' : Pos}
def sSetIx (fo fi fv : ME) : MS := fun ρ m => bindS (fv ρ m) ρ fun y m => bindS (fo ρ m) ρ fun d m => bindS (fi ρ m) ρ fun k m => match d, k with
  | .ref i, .int k => match m[i]? with
    | some (.lst xs) => match ixN xs.length k with
      | some j => .nx ρ (m.set i (.lst (xs.set j y)))
      | none => .no
    | _ => .no
  | _, _ => .no
theorem RVs.set {K : PySem.W.Frag} {H : Hp} {μ : Mu} {y : D} {z : V} (h : RV K H μ y z) : ∀ {ds : List D} {vs : List V} (j : Nat), RVs K H μ ds vs → RVs K H μ (ds.set j y) (vs.set j z)
  | [], vs, j, r => by simp only [RVs] at r; subst r; simp [RVs]
  | d :: ds, vs, 0, r => by
    simp only [RVs] at r
    obtain ⟨v, r, rfl, h1, h2⟩ := r
    simp only [List.set_cons_zero, RVs]
    exact ⟨z, r, rfl, h, h2⟩
  | d :: ds, vs, j + 1, r => by
    simp only [RVs] at r
    obtain ⟨v, r, rfl, h1, h2⟩ := r
    simp only [List.set_cons_succ, RVs]
    exact ⟨v, _, rfl, h1, RVs.set h j h2⟩
theorem pds_setix (ho : PD X W o fo) (hi : PD X W i fi) (hv : PD X W value fv) (hs : swapsWithSole [.Subscript o i pos'] value pos.line X.env = pure false := by rfl) (hw : swappedStores [.Subscript o i pos'] value X.env = pure none := by rfl)
    (h1 : (assignEach [.Subscript o i pos'] X.env).map (·.2) = [assign (.Subscript o i pos') X.env] := by rfl)
    (ha : ∀ v, assign (.Subscript o i pos') X.env v = (do
      let ov ← holding [v] (eval o X.env)
      let iv ← holding [v, ov] (eval i X.env)
      standAt pos'
      holding [v, ov, iv] (setItem ov iv v)
      release [v, ov, iv] []) := by intro _; rfl) : PDS X W (.Assign [.Subscript o i pos'] value pos) (sSetIx fo fi fv) :=
  PS.imp (ps_asg hv (pg_sub ho hi set_list ha) hs hw h1) fun D σ H ⟨μ, ρ, m, hH, hS, q⟩ => by
    refine seqS q hH hS fun y m1 z H1 μ1 e1 hH1 r1 hS1 q1 => ?_
    refine seqS q1 hH1 hS1 fun d m2 v H2 μ2 e2 hH2 r2 hS2 q2 => ?_
    refine seqS q2 hH2 hS2 fun k m3 u H3 μ3 e3 hH3 r3 hS3 q3 => ?_
    cases d with
    | ref i =>
      cases k with
      | int k =>
        simp only [RVv, RV] at r2 r3
        subst r3
        obtain ⟨a, rfl, ha⟩ := r2
        have ha3 := e3.get ha
        dsimp only at q3
        cases e4 : m3[i]? with
        | none => simp only [e4] at q3; exact q3.elim
        | some c =>
          cases c with
          | lst xs =>
            simp only [e4] at q3
            cases e5 : ixN xs.length k with
            | none => simp only [e5] at q3; exact q3.elim
            | some j =>
              simp only [e5] at q3
              obtain ⟨a', ea, vs, hs, hz, hr⟩ := hH3.at' i _ e4
              rw [ha3] at ea; cases ea
              have ex := Ext.wr (o := .lst (vs.set j z)) hH3 ha3
              refine ⟨a, vs, k, j, rfl, rfl, hs, by rw [← hr.length]; exact e5, ?_⟩
              refine q3 σ _ μ3 ex (hH3.wr ha3 ⟨_, upd_same, by rw [List.length_set]; exact hz, RVs.ext ex _ _ (RVs.set (RV.ext e3 y z (RV.ext e2 y z r1)) j hr)⟩) (hS3.ext ex)
          | _ => simp only [e4] at q3; exact q3.elim
      | _ => exact q3.elim
    | _ => exact q3.elim
/-- name += e, whole numbers or texts -/
def sAug (i : Nat) (f : D → D → Me → Res D) (fe : ME) : MS := fun ρ m => match ρ[i]? with
  | some (some d) => bindS (fe ρ m) ρ fun y m => bindS (f d y m) ρ fun z m => .nx (ρ.set i (some z)) m
  | _ => .no
def gIAdd (d d' : D) (m : Me) : Res D := match d, d' with
  | .int i, .int j => .ok (.int (i + j)) m
  | .str x, .str y => if x.length + y.length ≤ sizeLine then .ok (.str (x ++ y)) m else .no
  | _, _ => .no
def gISub (d d' : D) (m : Me) : Res D := match d, d' with
  | .int i, .int j => .ok (.int (i - j)) m
  | _, _ => .no
theorem g_iadd {K : PySem.W.Frag} : G2 K (fun x y H Q => rI0 (fun i j => .int (i + j)) x y H Q ∨ rAddS x y H Q) gIAdd := fun Ex H μ m d d' x y Q hH r1 r2 q => by
  unfold gIAdd at q
  split at q
  · simp only [RV] at r1 r2
    exact .inl ⟨_, _, r1, r2, q _ H μ .refl hH (by simp [RV])⟩
  · simp only [RV] at r1 r2
    split at q
    · rename_i hz
      exact .inr ⟨_, _, r1, r2, hz, q _ H μ .refl hH (by simp [RV])⟩
    · exact q.elim
  · exact q.elim
theorem g_isub {K : PySem.W.Frag} : G2 K (rI0 (fun i j => .int (i - j))) gISub := fun Ex H μ m d d' x y Q hH r1 r2 q => by
  unfold gISub at q
  split at q
  · simp only [RV] at r1 r2
    exact ⟨_, _, r1, r2, q _ H μ .refl hH (by simp [RV])⟩
  · exact q.elim
theorem pds_aug (j : Nat) {x : Str} {op : Operator} {r : R2} {g : D → D → Me → Res D} (hN : X.N.Nodup) (ho : OpR X (inplaceOp op) r) (hg : G2 X.K r g) (he : PD X W e fe) (hi : X.N[j]? = some x := by rfl) (hx : Loc X.env.scope x := by first | exact .inl rfl | exact .inr rfl)
    (hf : X.fn x = true ∨ X.env.scope.names.lookup x = some .local := by first | exact .inl rfl | exact .inr rfl | assumption) : PDS X W (.AugAssign (.Name x pos') op e pos) (sAug j g fe) :=
  PS.imp (ps_aug (i := j) hN hi hx he ho hf) fun D σ H ⟨μ, ρ, m, hH, hS, q⟩ => by
    unfold sAug at q
    cases e1 : ρ[j]? with
    | none => simp only [e1] at q; exact q.elim
    | some od =>
      cases od with
      | none => simp only [e1] at q; exact q.elim
      | some d =>
        simp only [e1] at q
        obtain ⟨v, h1, h2⟩ := hS.2 j d e1
        refine ⟨v, h1, ?_⟩
        refine seqS q hH hS fun y m1 z H1 μ1 e1 hH1 r1 hS1 q1 => ?_
        have key : Ok X.K (fun c d H' => W c d σ H') H1 μ1 (RVv X.K) (fun zz H2 => D.nx (σ.set j (some zz)) H2) (g d y m1) := by
          cases e2 : g d y m1 with
          | no => rw [e2] at q1; exact q1
          | exc x mm => rw [e2] at q1; exact fun H' μ' c dd x' hH' r => q1 σ H' μ' c dd x' hH' (hS1.ext x') r
          | ok dd mm => rw [e2] at q1; exact fun zz H' μ' x' hH' r => q1 _ H' μ' x' hH' ((hS1.ext x').set r j)
        exact hg _ H1 μ1 m1 d y v z _ hH1 (RV.ext e1 d v h2) r1 key
/-- a list times an int -/
noncomputable def gRep (d d' : D) (m : Me) : Res D := match view m d, d' with
  | .lst xs, .int k => if (-1000 ≤ k ∧ k ≤ 1000) ∧ xs.length * k.toNat ≤ 1000000 then .ok (.lst (List.replicate k.toNat xs).flatten) m else .no
  | .int i, .int j => gMul (.int i) (.int j) m
  | _, _ => .no
theorem rep_rv {K : PySem.W.Frag} {H : Hp} {μ : Mu} {ds : List D} {vs : List V} (r : RVs K H μ ds vs) : ∀ k : Nat, RVs K H μ (List.replicate k ds).flatten (List.replicate k vs).flatten
  | 0 => by simp [RVs]
  | k + 1 => by rw [List.replicate_succ, List.replicate_succ, List.flatten_cons, List.flatten_cons]; exact r.append (rep_rv r k)
theorem g_rep {K : PySem.W.Frag} : G2 K (fun x y H Q => rRep x y H Q ∨ rI CMul (fun i j => .int (i * j)) x y H Q) gRep := fun Ex H μ m d d' x y Q hH r1 r2 q => by
  unfold gRep at q
  split at q
  · rename_i xs k e
    obtain ⟨a, vs, rfl, s1, z1, w1⟩ := view_lst hH r1 e
    simp only [RV] at r2
    split at q
    · rename_i hk
      have hl := w1.length
      have hz : vs.length * k.toNat ≤ sizeLine := by rw [← hl, sizeLine_eq]; omega
      refine .inl ⟨a, k, vs, rfl, r2, s1, by omega, by omega, hz, fun p hp => ?_⟩
      have ex := Ext.new (o := .lst (List.replicate k.toNat vs).flatten) hH hp
      refine q _ _ μ ex (hH.new hp) ?_
      simp only [RV]
      refine ⟨p, _, rfl, ⟨hH.notin hp, fun z => hH.hid _ z hp⟩, upd_same, ?_, RVs.ext ex _ _ (rep_rv w1 _)⟩
      rw [List.length_flatten, List.map_replicate, List.sum_replicate_nat, Nat.mul_comm]; exact hz
    · exact q.elim
  · rename_i i j e
    have := view_int e; subst this
    exact .inr (g_ii (C := fun i j => ((-(2 ^ 64) < i ∧ i < 2 ^ 64) ∨ (-(2 ^ 64) < j ∧ j < 2 ^ 64))) (C' := CMul) (f := fun i j => .int (i * j)) (fun _ _ h => h) (fun _ _ _ _ => by simp [RV, ofD]) Ex H μ m _ _ x y Q hH r1 r2 q)
  · exact q.elim
theorem pd_rep {b : Expr} {fb : ME} (ha : PD X W a fa) (hb : PD X W b fb) : PD X W (.BinOp a .Mult b pos) (m2 gRep fa fb) := pd_op (op_rep.or op_mul) g_rep ha hb
/-- the sum of two lists, to change -/
def gCatC (d d' : D) (m : Me) : Res D := match view m d, view m d' with
  | .lst xs, .lst ys => if xs.length + ys.length ≤ 1000000 then .ok (.ref m.length) (m ++ [.lst (xs ++ ys)]) else .no
  | _, _ => .no
theorem g_catC {K : PySem.W.Frag} : G2 K rCat gCatC := fun Ex H μ m d d' x y Q hH r1 r2 q => by
  unfold gCatC at q
  split at q
  · rename_i xs ys e1 e2
    split at q
    · rename_i hz
      obtain ⟨a, vs, rfl, s1, z1, w1⟩ := view_lst hH r1 e1
      obtain ⟨b, us, rfl, s2, z2, w2⟩ := view_lst hH r2 e2
      have l1 := w1.length; have l2 := w2.length
      have hz' : vs.length + us.length ≤ sizeLine := by rw [sizeLine_eq]; omega
      refine ⟨a, b, vs, us, rfl, rfl, s1, s2, hz', fun p hp => ?_⟩
      have ex := Ext.cell (o := .lst (vs ++ us)) hH hp
      refine q _ _ (μ.add p) ex (hH.cell hp ⟨_, upd_same, by simpa using hz', RVs.ext ex _ _ (w1.append w2)⟩) ?_
      simp only [RV]
      exact ⟨p, rfl, by simp [Mu.add, ← hH.len]⟩
    · exact q.elim
  · exact q.elim
theorem pd_catC {b : Expr} {fb : ME} (ha : PD X W a fa) (hb : PD X W b fb) : PD X W (.BinOp a .Add b pos) (m2 gCatC fa fb) := pd_op op_cat g_catC ha hb

/-! ### what stands at the module's top -/
theorem pd_globS {x s : Str} {t : Tok} (hg : Gl X x) (hm : X.mg x = some (.str s t)) (hd : (x == ("__debug__" : Str)) = false := by decide) : PD X W (.Name x pos) (mC (.str s)) :=
  pd_const (pe_glob (v := .str s) hg hm ⟨t, rfl⟩ hd) fun _ _ => by simp [RV]
/-- a written tuple -/
structure KTup (K : PySem.W.Frag) (mg : Str → Option Value) (x : Str) (ds : List D) : Prop where
  ex : ∃ a vs, mg x = some (.ref a) ∧ TupN K (fun _ => none) a vs ∧ vs.length ≤ sizeLine ∧ ∀ H μ, RVs K H μ ds vs
theorem TupN.lift {K : PySem.W.Frag} {H : Hp} {a : Addr} {vs : List V} (h : TupN K (fun _ => none) a vs) : TupN K H a vs := by
  rcases h with ⟨_, z, _⟩ | h
  · cases z
  · exact .inr h
theorem pd_globT {x : Str} {ds : List D} (hg : Gl X x) (h : KTup X.K X.mg x ds) (hd : (x == ("__debug__" : Str)) = false := by decide) : PD X W (.Name x pos) (mC (.tup ds)) := by
  obtain ⟨a, vs, hm, hs, hz, hr⟩ := h.ex
  refine pd_const (pe_glob (v := .ref a) hg hm rfl hd) fun H μ => ?_
  simp only [RV]
  exact ⟨a, vs, rfl, TupN.lift hs, hz, hr H μ⟩
end

/-! ### {k: v, ..} to change -/
section
variable {X : Cx} {W : WX} {pos : Pos}
structure PDP (X : Cx) (W : WX) (pos : Pos) (keys : List (Option Expr)) (values : List Expr) (f : En → Me → Res (List (Key × D))) : Prop where
  ex : ∃ trs, PPs X pos keys values trs ∧ ∀ σ H (Q : List (V × V) → Hp → Prop), tR X.K W (fun H μ kvs ps => ∃ us, RVk X.K H μ kvs us ∧ ps = us.map fun kv => (kV kv.1, kv.2)) f σ H Q → tPairs trs σ H Q
def pNil : En → Me → Res (List (Key × D)) := fun _ m => .ok [] m
def pCons (fk fv : ME) (fr : En → Me → Res (List (Key × D))) : En → Me → Res (List (Key × D)) := fun ρ m => (fk ρ m).bind fun k m => match keyD k with
  | none => .no
  | some k => (fv ρ m).bind fun v m => (fr ρ m).bind fun r m => .ok ((k, v) :: r) m
theorem pdp_nil : PDP X W pos [] [] pNil := ⟨[], pps_nil, fun σ H Q ⟨μ, ρ, m, hH, hS, q⟩ => q [] H μ .refl hH ⟨[], by simp [RVk], rfl⟩⟩
theorem pdp_cons {k v : Expr} {ks : List (Option Expr)} {vs : List Expr} {fk fv : ME} {fr : En → Me → Res (List (Key × D))} (hk : PD X W k fk) (hv : PD X W v fv) (hr : PDP X W pos ks vs fr) : PDP X W pos (some k :: ks) (v :: vs) (pCons fk fv fr) := by
  obtain ⟨trs, h1, h2⟩ := hr.ex
  refine ⟨_, pps_cons hk hv h1, fun σ H Q ⟨μ, ρ, m, hH, hS, q⟩ => ?_⟩
  refine seqR q hH hS fun d m1 x H1 μ1 e1 hH1 r1 hS1 q1 => ?_
  cases ek : keyD d with
  | none => simp only [ek] at q1; exact q1.elim
  | some k' =>
    simp only [ek] at q1
    have hx := keyD_rv r1 ek
    subst hx
    refine seqR q1 hH1 hS1 fun d2 m2 y H2 μ2 e2 hH2 r2 hS2 q2 => ?_
    refine h2 σ H2 _ ?_
    refine seqR q2 hH2 hS2 fun kvs m3 ps H3 μ3 e3 hH3 r3 hS3 q3 => ?_
    obtain ⟨us, r3, rfl⟩ := r3
    refine q3 _ H3 μ3 .refl hH3 ⟨(k', y) :: us, ?_, rfl⟩
    simp only [RVk, RVp]
    exact ⟨y, us, rfl, RV.ext e3 d2 y r2, r3⟩
def mDisp (f : En → Me → Res (List (Key × D))) : ME := fun ρ m => (f ρ m).bind fun kvs m => if kvs.length ≤ 15 then .ok (.ref m.length) (m ++ [.dK (kvs.foldl (fun acc kv => setK acc kv.1 kv.2) [])]) else .no
theorem merge_rv {K : PySem.W.Frag} {H : Hp} {μ : Mu} : ∀ {kvs : List (Key × D)} {us : List (Key × V)} {acc : List (Key × D)} {ac : List (Key × V)}, RVq K H μ kvs us → RVq K H μ acc ac → RVq K H μ (kvs.foldl (fun acc kv => setK acc kv.1 kv.2) acc) (mergeK ac us)
  | _, _, acc, ac, .nil, h => h
  | _, _, acc, ac, .cons (a := p) (b := q) h t, g => by
    show RVq K H μ (List.foldl _ (setK acc p.1 p.2) _) (mergeK (putK ac q.1 q.2) _)
    refine merge_rv t ?_
    have := rvq_set (k := p.1) h.2 g
    rwa [show putK ac q.1 q.2 = putK ac p.1 q.2 by rw [h.1]]
theorem pd_disp {keys : List (Option Expr)} {values : List Expr} {f : En → Me → Res (List (Key × D))} (h : PDP X W pos keys values f) (hall : keys.all (·.isSome) = true := by rfl) (hl : keys.length = values.length := by rfl) (h0 : keys ≠ [] := by exact fun z => nomatch z) (h15 : keys.length ≤ 15 := by decide) :
    PD X W (.Dict keys values pos) (mDisp f) := by
  obtain ⟨trs, h1, h2⟩ := h.ex
  refine PE.imp (pe_disp h1 hall hl h0 h15) fun σ H Q ⟨μ, ρ, m, hH, hS, q⟩ p hp => ?_
  refine h2 σ _ _ ?_
  have tr := Tr.hide (o := .dK []) hH hp
  refine ⟨⟨μ.l, p :: μ.h⟩, ρ, m, hH.hide hp, hS.map tr, ?_⟩
  unfold mDisp at q
  cases e : f ρ m with
  | no => rw [e] at q; exact q.elim
  | exc x mm =>
    rw [e] at q
    intro H' μ' c d x' hH' r
    obtain ⟨l', h'⟩ := μ'
    have eh : h' = p :: μ.h := x'.hid
    subst eh
    have un : ∀ a, a ∈ μ.h → a ∈ p :: μ.h := fun a z => List.mem_cons_of_mem _ z
    refine q H' ⟨l', μ.h⟩ c d ((Ext.new hH hp).trans (x'.reh fun _ z => List.mem_cons_of_mem _ z)) (hH'.unhide un) ⟨r.1, ?_⟩
    have r2 := r.2
    cases d with
    | none => exact r2
    | some a => obtain ⟨fs, g1, g2⟩ := r2; exact ⟨fs, g1, L2.Paired.mapP g2 fun p q z => ⟨z.1, RV.map (.unhide un) _ _ z.2⟩⟩
  | ok kvs mm =>
    rw [e] at q
    simp only [Res.bind_ok] at q
    split at q
    · rename_i h15'
      intro ps H' μ' x' hH' r
      obtain ⟨l', h'⟩ := μ'
      have eh : h' = p :: μ.h := x'.hid
      subst eh
      obtain ⟨us, r, rfl⟩ := r
      obtain ⟨hp0, nl⟩ := x'.dct p [] (hH.notin hp) upd_same
      have hp' : H' p = some (.dK []) := hp0.resolve_right fun z => z.1 List.mem_cons_self
      have hq := rvk_iff.mp r
      refine ⟨hp', us, rfl, by rw [← rvq_len hq]; exact h15', ?_⟩
      have un : ∀ a, a ∈ μ.h → a ∈ p :: μ.h := fun a z => List.mem_cons_of_mem _ z
      -- the dict becomes a thing of the store
      have pos1 : ∀ {a u}, H a = some u → a ≠ p := fun q => ne_of_none q hp
      have xx : Ext X.K H μ H' ⟨l', μ.h⟩ := (Ext.new hH hp).trans (x'.reh fun _ z => List.mem_cons_of_mem _ z)
      have kp : ∀ {a u}, H' a = some u → a ≠ p → upd H' p (.dK (mergeK [] us)) a = some u := fun q n => by rw [upd_ne n]; exact q
      have trn : Tr X.K H' ⟨l', p :: μ.h⟩ (upd H' p (.dK (mergeK [] us))) ⟨l' ++ [p], μ.h⟩ := by
        refine ⟨fun i a z => ?_, fun a vs z => ?_, fun a u n d z => ?_, fun a o u n z => ?_, fun a kvs n z => ?_, fun a o u z => kp z (ne_of z hp' fun w => nomatch w)⟩
        · show (l' ++ [p])[i]? = some a
          rw [List.getElem?_append_left (List.getElem?_eq_some_iff.mp z).1]; exact z
        · rcases z with ⟨o', z, hd⟩ | z
          · exact .inl ⟨o', kp z (ne_of z hp' fun w => nomatch w), hd⟩
          · exact .inr z
        · have hn : a ≠ p := fun w => n.2 (by rw [w]; exact List.mem_cons_self)
          refine ⟨kp z hn, fun w => ?_, fun w => n.2 (un a w)⟩
          rcases List.mem_append.mp w with w | w
          · exact n.1 w
          · exact hn (List.mem_singleton.mp w)
        · have hn : a ≠ p := fun w => n.2 (by rw [w]; exact List.mem_cons_self)
          refine ⟨kp z hn, fun w => ?_, fun w => n.2 (un a w)⟩
          rcases List.mem_append.mp w with w | w
          · exact n.1 w
          · exact hn (List.mem_singleton.mp w)
        · have hn : a ≠ p := fun w => n.2 (by rw [w]; exact List.mem_cons_self)
          refine ⟨.inl (kp z hn), fun w => ?_, fun w => n.2 (un a w)⟩
          rcases List.mem_append.mp w with w | w
          · exact n.1 w
          · exact hn (List.mem_singleton.mp w)
      refine q _ _ ⟨l' ++ [p], μ.h⟩ ?_ ?_ ?_
      · refine ⟨?_, rfl, fun a vs z => trn.tup a vs (xx.tup a vs z), fun a u n d z => ?_, fun a o u n z => ?_, fun a kvs n z => ?_, fun a o u z => trn.fz a o u (xx.fz a o u z), fun a fs z => kp (xx.xd a fs z) (pos1 z)⟩
        · obtain ⟨l, el⟩ := xx.pre
          exact ⟨l ++ [p], by rw [show l' = μ.l ++ l from el]; simp⟩
        · obtain ⟨g1, g2⟩ := xx.dat a u n d z
          refine ⟨kp g1 (pos1 z), fun w => ?_⟩
          rcases List.mem_append.mp w with w | w
          · exact g2 w
          · exact pos1 z (List.mem_singleton.mp w)
        · obtain ⟨g1, g2⟩ := xx.frz a o u n z
          refine ⟨kp g1 (pos1 z), fun w => ?_⟩
          rcases List.mem_append.mp w with w | w
          · exact g2 w
          · exact pos1 z (List.mem_singleton.mp w)
        · obtain ⟨g1, g2⟩ := xx.dct a kvs n z
          refine ⟨?_, fun w => ?_⟩
          · unfold Dk
            rw [upd_ne (pos1 z)]; exact g1
          rcases List.mem_append.mp w with w | w
          · exact g2 w
          · exact pos1 z (List.mem_singleton.mp w)
      · refine ⟨by simp [hH'.len.symm], ?_, fun i c z => ?_, fun a z => upd_some (hH'.hid a (un a z)), fun a z w => ?_⟩
        · refine List.nodup_append.mpr ⟨hH'.nd, by simp, fun a ha b hb z => ?_⟩
          rw [List.mem_singleton.mp hb] at z
          subst z; exact nl ha
        · by_cases hi : i < mm.length
          · rw [List.getElem?_append_left hi] at z
            obtain ⟨a, ea, rc⟩ := hH'.at' i c z
            refine ⟨a, trn.get i a ea, rc.map trn (upd_ne fun w => nl ?_)⟩
            rw [← w]; exact List.mem_of_getElem? ea
          · have hi' : i = mm.length := by
              have := (List.getElem?_eq_some_iff.mp z).1
              simp at this; omega
            subst hi'
            simp at z; subst z
            have hll := hH'.len
            dsimp only at hll
            refine ⟨p, by rw [← hll]; simp, _, upd_same, rvk_iff.mpr ?_⟩
            exact merge_rv (L2.Paired.mapP hq fun p q z => ⟨z.1, RV.map trn _ _ z.2⟩) .nil
        · rcases List.mem_append.mp z with z | z
          · exact hH'.sep a z (un a w)
          · rw [List.mem_singleton.mp z] at w; exact hH.hid p w hp
      · simp only [RV]
        have hll := hH'.len
        dsimp only at hll
        exact ⟨p, rfl, by rw [← hll]; simp⟩
    · exact q.elim
end
end FL

set_option maxRecDepth 100000
namespace FL
open PySem PySem.Spec PyProof.Rows L2

/-! ### written tuples -/
def isV : D → Value → Bool
  | .non, .none => true
  | .bl b, .bool c => b == c
  | .int i, .int j _ => i == j
  | .str x, .str y _ => x == y
  | _, _ => false
def areV : List D → List Value → Bool
  | [], [] => true
  | d :: ds, v :: vs => isV d v && areV ds vs
  | _, _ => false
def toV : D → V
  | .bl b => .bl b
  | .int i => .int i
  | .str x => .str x
  | _ => .non
theorem isV_ok {d : D} {v : Value} (h : isV d v = true) : RelV (toV d) v ∧ ∀ K H μ, RV K H μ d (toV d) := by
  cases d <;> cases v <;> simp [isV] at h
  · exact ⟨rfl, fun _ _ _ => by simp [RV, toV]⟩
  · subst h; exact ⟨rfl, fun _ _ _ => by simp [RV, toV]⟩
  · subst h; exact ⟨⟨_, rfl⟩, fun _ _ _ => by simp [RV, toV]⟩
  · subst h; exact ⟨⟨_, rfl⟩, fun _ _ _ => by simp [RV, toV]⟩
theorem areV_ok : ∀ {ds : List D} {vs : List Value}, areV ds vs = true → Vals (ds.map toV) vs ∧ ∀ K H μ, RVs K H μ ds (ds.map toV)
  | [], [], _ => ⟨.nil, fun _ _ _ => by simp [RVs]⟩
  | [], _ :: _, h => by cases h
  | _ :: _, [], h => by cases h
  | d :: ds, v :: vs, h => by
    simp only [areV, Bool.and_eq_true] at h
    obtain ⟨h1, h2⟩ := isV_ok h.1
    obtain ⟨h3, h4⟩ := areV_ok h.2
    refine ⟨.cons h1 h3, fun K H μ => ?_⟩
    simp only [List.map_cons, RVs]
    exact ⟨_, _, rfl, h2 K H μ, h4 K H μ⟩
structure WrTup (o : Obj) (its : Array Value) (n : Nat) (ds : List D) : Prop where
  cls : o.cls = .type "tuple"
  data : o.data = .seq its n
  few : ds.length ≤ 1000
  are : areV ds its.toList = true
  nod : PlO o
theorem WrTup.mk' {K : PySem.W.Frag} {mg : Str → Option Value} {x : Str} {o : Obj} {its : Array Value} {n : Nat} {ds : List D} {a : Addr} (h : WrTup o its n ds) (hm : mg x = some (.ref a)) (hk : K.lookup a = some o) : KTup K mg x ds := by
  obtain ⟨h1, h2⟩ := areV_ok h.are
  have hl : (ds.map toV).length = its.toList.length := h1.length
  have hz : (ds.map toV).length ≤ sizeLine := by rw [List.length_map]; exact le_line h.few
  exact ⟨a, ds.map toV, hm, .inr ⟨o, its, n, hk, h.cls, h.data, by rw [← Array.length_toList, ← hl]; exact hz, h1, h.nod⟩, hz, fun H μ => h2 K H μ⟩

/-! ### the end -/
theorem walk_fn {l : PySem.W.OpenLaw} {q : Program} {loose : List Str} {XP : (Str → Option Value) → Heap → Prop} {YP : World → Heap → Prop} {d : DefRec} {K : Params → PySem.W.Frag} {x : Str} {F0 : List D → Me → Res D}
    (hn : l.most = some 63) (hdf : d.params.defaults = []) (hY : ∀ (w : World) (h : Heap), YP w h → (K w.params).In h)
    (F : ∀ (w : World) (mg : Str → Option Value) (fa : Addr) (h : Heap), (K w.params).In h → h.Ns mainGlobals mg → mg d.name = some (.ref fa) →
      ∃ fd : FuncData, (∀ (s : Shared) (u : Value), BindsTo s fd ⟨[u], []⟩ [(x, u)]) ∧ ∀ base : Heap, (K w.params).In base → base.Ns mainGlobals mg → FnOk l.prog w (K w.params) mg base CX0 230 fa fd [x] (spF (K w.params) 1 F0))
    (L : ∀ ns : List Int, ns.length ≤ 63 → ∃ m', F0 [.scr ns] [] = .ok (.bl true) m') :
    PySem.W.WalkO q loose XP YP l.row.toRowW d [] (fun f vs => PySem.call f vs) :=
  L2.walk_of (n := 63) (k := 230) (x := x) (CX := fun _ => CX0) (sp := fun w => spF (K w.params) 1 F0) hn (by decide) hdf ⟨rfl, by decide, by decide⟩ hY F (fun w H a ns hl _ hS => by
    obtain ⟨m', e⟩ := L ns hl
    refine ⟨⟨[], []⟩, [], [.scr ns], ⟨rfl, List.nodup_nil, fun i c h => by simp at h, fun a h => by simp at h, fun a h => by simp at h⟩, ?_, rfl, ?_⟩
    · simp only [RVs, RV]
      refine ⟨.ref a, [], rfl, ⟨a, rfl, ?_⟩, rfl⟩
      rcases hS with hS | hS
      · exact .inl ⟨⟨by simp, by simp⟩, hS⟩
      · exact .inr (.inr hS)
    · rw [e]
      intro v H' μ' _ _ r
      simpa [RV] using r) fun _ _ _ _ _ z => z
end FL

set_option maxRecDepth 100000
namespace FL
open PySem PySem.Spec PyProof.Rows L2

/-! ### dict(d): a copy, to change -/
def gDictC (ds : List D) (m : Me) : Res D := match ds with
  | [d] => match view m d with
    | .dct kvs => .ok (.ref m.length) (m ++ [.dK kvs])
    | _ => .no
  | _ => .no
theorem g_dictC {K : PySem.W.Frag} : GC K (fun xs H Q => ∃ (a : Addr) (kvs : List (Key × V)), xs = [.ref a] ∧ Rd H a (.dK kvs) ∧ ∀ p, H p = none → Q (.ref p) (upd H p (.dK kvs))) gDictC := fun Ex H μ m ds vs Q hH rr q => by
  unfold gDictC at q
  split at q
  · obtain ⟨v, rfl, r⟩ := rvs1 rr
    split at q
    · rename_i d kvs e
      obtain ⟨a, ps, rfl, hs, hr⟩ := view_dct hH r e
      refine ⟨a, ps, rfl, hs, fun p hp => ?_⟩
      have ex := Ext.cell (o := .dK ps) hH hp
      refine q _ _ (μ.add p) ex (hH.cell hp ⟨_, upd_same, RVk.ext ex _ _ hr⟩) ?_
      simp only [RV]
      exact ⟨p, rfl, by simp [Mu.add, ← hH.len]⟩
    · exact q.elim
  · exact q.elim

/-! ### d[k], e[l] = x, y -/
theorem pset_dict {X : Cx} (hu : X.A.units + 1 < cLine) : PSet X (fun o i v H Q => ∃ a H', o = .ref a ∧ DPut H a i v H' ∧ Q H') := fun pins s σ H o i v ov iv u Q I ro ri rv ⟨a, H', eo, g, q⟩ => by
  subst eo
  obtain rfl : ov = Value.ref a := ro
  exact d_setItem hu I g ri rv fun s4 I4 => ⟨H', I4, q⟩
def sPut2 (fo fi fo' fi' fv : ME) : MS := fun ρ m => bindS (fv ρ m) ρ fun d m => match d with
  | .tup [x, y] => bindS (fo ρ m) ρ fun d m => bindS (fi ρ m) ρ fun k m => match dput m d k x with
    | none => .no
    | some m => bindS (fo' ρ m) ρ fun d m => bindS (fi' ρ m) ρ fun k m => match dput m d k y with
      | none => .no
      | some m => .nx ρ m
  | _ => .no
section
variable {X : Cx} {W : WX} {o i o' i' value : Expr} {pos p1 p2 : Pos} {fo fi fo' fi' fv : ME} {k : Nat} {pt : Pos}
theorem pds_put2 (hc : X.calm = true) (hu : X.A.units + 1 < cLine) (ho : PD X W o fo) (hi : PD X W i fi) (ho' : PD X W o' fo') (hi' : PD X W i' fi') (hv : PD X W value fv)
    (a1 : ∀ v, assign (.Subscript o i p1) X.env v = (do
      let ov ← holding [v] (eval o X.env)
      let iv ← holding [v, ov] (eval i X.env)
      standAt p1
      holding [v, ov, iv] (setItem ov iv v)
      release [v, ov, iv] []) := by intro _; rfl)
    (a2 : ∀ v, assign (.Subscript o' i' p2) X.env v = (do
      let ov ← holding [v] (eval o' X.env)
      let iv ← holding [v, ov] (eval i' X.env)
      standAt p2
      holding [v, ov, iv] (setItem ov iv v)
      release [v, ov, iv] []) := by intro _; rfl)
    (hs : swapsWithSole [.Tuple [.Subscript o i p1, .Subscript o' i' p2] k pt] value pos.line X.env = pure false := by rfl)
    (hw : swappedStores [.Tuple [.Subscript o i p1, .Subscript o' i' p2] k pt] value X.env = pure none := by rfl)
    (hn : (assignEach [.Subscript o i p1, .Subscript o' i' p2] X.env).length = 2 := by rfl)
    (hst : (assignEach [.Subscript o i p1, .Subscript o' i' p2] X.env).findIdx? (·.1) = none := by rfl)
    (h1 : (assignEach [.Tuple [.Subscript o i p1, .Subscript o' i' p2] k pt] X.env).map (·.2) = [assign (.Tuple [.Subscript o i p1, .Subscript o' i' p2] k pt) X.env] := by rfl)
    (h2 : (assignEach [.Subscript o i p1, .Subscript o' i' p2] X.env).map (·.2) = assign (.Subscript o i p1) X.env :: (assignEach [.Subscript o' i' p2] X.env).map (·.2) := by rfl)
    (h3 : (assignEach [.Subscript o' i' p2] X.env).map (·.2) = assign (.Subscript o' i' p2) X.env :: (assignEach [] X.env).map (·.2) := by rfl) :
    PDS X W (.Assign [.Tuple [.Subscript o i p1, .Subscript o' i' p2] k pt] value pos) (sPut2 fo fi fo' fi' fv) :=
  PS.imp (ps_asg hv (pg_tup hc (pgs_cons (pg_sub ho hi (pset_dict hu) a1) (pgs_cons (pg_sub ho' hi' (pset_dict hu) a2) pgs_nil h3) h2) hn hst) hs hw h1) fun D σ H ⟨μ, ρ, m, hH, hS, q⟩ => seqS q hH hS fun d m1 v H1 μ1 e1 hH1 r1 hS1 q1 => by
    split at q1
    · rename_i x y
      simp only [RV] at r1
      obtain ⟨a, vs, rfl, hs1, hz, hr⟩ := r1
      simp only [RVs] at hr
      obtain ⟨v1, r', rfl, rx, v2, r'', rfl, ry, rfl⟩ := hr
      refine ⟨a, _, rfl, hs1.sq, rfl, v1, _, rfl, ?_⟩
      refine seqS q1 hH1 hS1 fun d2 m2 w H2 μ2 e2 hH2 r2 hS2 q2 => ?_
      refine seqS q2 hH2 hS2 fun k2 m3 u H3 μ3 e3 hH3 r3 hS3 q3 => ?_
      cases e4 : dput m3 d2 k2 x with
      | none => rw [e4] at q3; exact q3.elim
      | some m' =>
        rw [e4] at q3
        obtain ⟨b, H4, rfl, g1, x4, g2⟩ := dput_of hH3 (RV.ext e3 d2 w r2) r3 (RV.ext e3 x v1 (RV.ext e2 x v1 rx)) e4
        refine ⟨b, H4, rfl, g1, v2, _, rfl, ?_⟩
        have hS4 := hS3.ext x4
        refine seqS (OkS.ext q3 x4) g2 hS4 fun d5 m5 w5 H5 μ5 e5 hH5 r5 hS5 q5 => ?_
        refine seqS q5 hH5 hS5 fun k6 m6 u6 H6 μ6 e6 hH6 r6 hS6 q6 => ?_
        cases e7 : dput m6 d5 k6 y with
        | none => rw [e7] at q6; exact q6.elim
        | some m' =>
          rw [e7] at q6
          have ry' := RV.ext e6 y v2 (RV.ext e5 y v2 (RV.ext x4 y v2 (RV.ext e3 y v2 (RV.ext e2 y v2 ry))))
          obtain ⟨c, H7, rfl, g3, x7, g4⟩ := dput_of hH6 (RV.ext e6 d5 w5 r5) r6 ry' e7
          exact ⟨c, H7, rfl, g3, rfl, q6 σ H7 μ6 x7 g4 (hS6.ext x7)⟩
    · exact q1.elim
end
/-! ### a, b = x, y -/
def sPar (i j : Nat) (fa : MA) : MS := fun ρ m => bindS (fa ρ m) ρ fun ds m => match ds with
  | [x, y] => .nx ((ρ.set i (some x)).set j (some y)) m
  | _ => .no
theorem pds_par {X : Cx} {W : WX} {i j : Nat} {x y : Str} {a b : Expr} {fa : MA} {px py pt pos : Pos} {kt k2 pt2} (hc : X.calm = true) (hN : X.N.Nodup) (hi : X.N[i]? = some x) (hj : X.N[j]? = some y) (hij : i ≠ j)
    (hx : X.env.scope.names.lookup x = some .local) (hy : X.env.scope.names.lookup y = some .local) (ha : PDA X W 2 [a, b] fa)
    (hw : swappedStores [.Tuple [.Name x px, .Name y py] kt pt] (.Tuple [a, b] k2 pt2) X.env = pure (some [x, y]))
    (hs : swapsWithSole [.Tuple [.Name x px, .Name y py] kt pt] (.Tuple [a, b] k2 pt2) pos.line X.env = pure false := by rfl) :
    PDS X W (.Assign [.Tuple [.Name x px, .Name y py] kt pt] (.Tuple [a, b] k2 pt2) pos) (sPar i j fa) :=
  PS.imp (ps_par hc hN hi hj hij hx hy ha hw hs) fun D σ H ⟨μ, ρ, m, hH, hS, q⟩ => seqS q hH hS fun ds m1 vs H1 μ1 e1 hH1 r1 hS1 q1 => by
    split at q1
    · rename_i d d'
      have r1 := r1.1
      simp only [RVs] at r1
      obtain ⟨v1, r', rfl, rx, v2, r'', rfl, ry, rfl⟩ := r1
      exact ⟨v1, v2, rfl, q1 _ H1 μ1 .refl hH1 ((hS1.set rx i).set ry j)⟩
    · exact q1.elim
end FL

set_option maxRecDepth 100000
namespace FL
open PySem PySem.Spec PyProof.Rows L2

/-! ### set(xs), xs a list of ints: the road of a tuple's, over the list's iterator -/
abbrev nSet (w : World) : Obj := { cls := .type "set", dict := none, data := .set #[] 0 (.fresh 0 0 (!w.params.followText "set-order")) }
abbrev pSet (w : World) (s : Shared) : Heap := s.heap.push (nSet w)
section
variable {P : Program} {w : World} {A : Around} {E : Value → Shared → Prop} {s : Shared}
set_option maxHeartbeats 3200000 in
theorem set_of_ints {l : Addr} {its : Array Value} (ns : List Int) {Q : Value → Shared → Prop} (h0 : A.handled = none) (hl : s.heap.IsList l its) (hi : IntsAre its.toList ns) (hb : ns.length + 1 < scanBound)
    (h : ∀ (g : Heap) (tk c : Nat), SetR w g s.heap.objs.size (fun j => decide (j ∈ ns)) c → c ≤ ns.length → (∀ b o, s.heap.get? b = some o → g.get? b = some o) → Q (.ref s.heap.objs.size) { s with heap := g, toks := tk }) : wpAny (model P w) A (call (.type "set") [.ref l]) Q E s := by
  have hz : its.size = ns.length := by have q := IntsAre.length hi; rw [Array.length_toList] at q; exact q
  obtain ⟨c0, tl, hmro⟩ := F.called_set.mro
  have made := F.called_set.made
  have sub := F.called_set.sub
  refine wpAny_call (codeAny_of_tree ?_); show wpAny _ _ (callAny (.type "set") _) _ _ _
  refine wpAny_pure ⟨Code.quiet_builtin _ (by decide +kernel), codeAny_builtin F.entry_type_call ?_⟩; rw [Around.under_plain (weight_type_call_type "set" [.ref l] []) rfl]
  have t1 := F.called_set.notType
  have t2 := F.called_set.canCreate
  have t3 := F.typeCall_set_1 (.ref l)
  repeat (any_goals (first | assumption | wp_step))
  refine codeAny_mono (code_set_led1 (.ref l) (E := E) (Q₁ := fun x t => x = .ref s.heap.objs.size ∧ t = { s with heap := pSet w s }) ⟨rfl, rfl⟩) fun r t hr => ?_
  rcases r with e | f
  · exact hr
  · cases f <;> first | exact hr.elim | skip
    obtain ⟨rfl, rfl⟩ := hr
    have hS : (pSet w s).get? s.heap.objs.size = some (nSet w) := Heap.get?_push_size _ rfl
    have hT : Shared.TypeIs { s with heap := pSet w s } (.ref s.heap.objs.size) "set" := ⟨_, hS, rfl⟩
    have hli := F.called_set.init.lookup
    have hbi := F.called_set.init.bind (.ref s.heap.objs.size)
    repeat (any_goals (first | assumption | wp_step))
    refine codeAny_mono (codeAny_call_builtin (R := wants (fun r t => r = .none ∧ ∃ g tk c, t = { s with heap := g, toks := tk } ∧ SetR w g s.heap.objs.size (fun j => decide (j ∈ ns)) c ∧ c ≤ ns.length ∧ (∀ b o, s.heap.get? b = some o → g.get? b = some o)) E) F.called_set.init.plain F.entry_set_init (check_set_init_1 hT ?_)) fun r t hr => ?_
    · obtain ⟨⟨kc, kd, ka, ks⟩, ho, hc, nl, hd⟩ := hl
      simp only at hc hd
      subst hc; subst hd
      have ho' : (pSet w s).get? l = some { cls := .type "list", dict := kd, data := .seq its nl, slots := ks } := Heap.get?_push_of_some _ ho
      have u1 := F.sub_list_set
      have u2 := F.sub_list_frozenset
      have u3 : (Value.type "list" == Value.type "dict") = false := by decide
      have hl1 : (pSet w s).IsList l its := ⟨_, ho', rfl, nl, rfl⟩
      unfold Builtin.«set.__init__» noKeywords Builtin.Frozenset.updateFrom
      generalize hPI : pyIter = PI
      wp_walk
      subst hPI
      refine wpAny_pyIter_list hl1 (wpAny_bind (wpAny_runValue ?_))
      have lt : l < s.heap.objs.size := Heap.lt_size ho
      have h3 : A.in1.in1.in1.handled = none := by simp [h0]
      have ne1 : l ≠ (pSet w s).objs.size := by rw [Heap.size_push]; exact fun z => Nat.ne_of_lt (Nat.lt_succ_of_lt lt) z
      have ne2 : s.heap.objs.size ∉ [(pSet w s).objs.size, l] := by
        rw [Heap.size_push]; simp only [List.mem_cons, List.not_mem_nil, or_false, not_or]; exact ⟨Nat.ne_of_lt (Nat.lt_succ_self _), fun z => Nat.ne_of_lt lt z.symm⟩
      have hv : ∀ (i : Nat) (v : Value), its[i]? = some v → ∃ k t, ns[i]? = some k ∧ v = .int k t := fun i v e => by
        have lt : i < ns.length := by rw [← hz]; exact (Array.getElem?_eq_some_iff.mp e).1
        obtain ⟨t, e⟩ := PyProof.Rows.IntsAre.int_at hi i v (by rw [Array.getElem?_toList]; exact e)
        exact ⟨ns[i], t, List.getElem?_eq_getElem lt, by rw [e, List.getD_eq_getElem?_getD, List.getElem?_eq_getElem lt] <;> rfl⟩
      refine set_update_ints ((Walks.list h3 _ l ne1 its).toS) s.heap.objs.size ne2 ns hz hb hv (its.size - 0) 0 _ (by omega) (Nat.zero_le _) ⟨⟨_, Heap.get?_push_size _ rfl, rfl, rfl⟩, (hl1.push _)⟩ ⟨0, Nat.le_refl 0, setR_new_at (Heap.get?_push_of_some _ hS)⟩ fun t c hm hc hS' => ?_
      obtain ⟨g, g2, d', tk, os'⟩ := t
      obtain rfl : g2 = s.gens := hm.gens
      obtain rfl : d' = s.drawn := hm.drawn
      obtain rfl : os' = s.os := hm.os
      show wpAny _ _ _ _ _ _
      refine wpAny_pure ?_
      show wpAny _ _ (ret Value.none) _ _ _
      rw [hz] at hc
      refine wpAny_pure ⟨rfl, g, tk, c, rfl, hS', hc, fun b o e => ?_⟩
      have hb0 : b < s.heap.objs.size := Heap.lt_size e
      refine hm.heap b o ?_ (Heap.get?_push_of_some _ (Heap.get?_push_of_some _ e))
      rw [Heap.size_push]; simp only [List.mem_cons, List.not_mem_nil, or_false, not_or]; exact ⟨Nat.ne_of_lt hb0, fun z => Nat.ne_of_lt (Nat.lt_succ_of_lt hb0) z⟩
    · rcases r with e | f
      · exact hr
      · cases f <;> first | exact hr.elim | skip
        obtain ⟨rfl, g, tk, c, rfl, k1, k2, k3⟩ := hr
        repeat (any_goals (first | assumption | wp_step))
        exact h _ _ _ k1 k2 k3
end
/-- strictly rising lists with the same members are equal -/
theorem rise_eq : ∀ {a b : List Int}, a.Pairwise (· < ·) → b.Pairwise (· < ·) → (∀ k, k ∈ a ↔ k ∈ b) → a = b
  | [], [], _, _, _ => rfl
  | [], y :: b, _, _, h => absurd ((h y).mpr List.mem_cons_self) (by simp)
  | x :: a, [], _, _, h => absurd ((h x).mp List.mem_cons_self) (by simp)
  | x :: a, y :: b, ha, hb, h => by
    obtain ⟨h1, h2⟩ := List.pairwise_cons.mp ha
    obtain ⟨h3, h4⟩ := List.pairwise_cons.mp hb
    have e : x = y := by
      rcases List.mem_cons.mp ((h x).mp List.mem_cons_self) with e | e
      · exact e
      · rcases List.mem_cons.mp ((h y).mpr List.mem_cons_self) with e' | e'
        · exact e'.symm
        · have := h3 x e; have := h1 y e'; omega
    subst e
    congr 1
    refine rise_eq h2 h4 fun k => ⟨fun hk => ?_, fun hk => ?_⟩
    · rcases List.mem_cons.mp ((h k).mp (List.mem_cons_of_mem _ hk)) with e | e
      · have := h1 k hk; omega
      · exact e
    · rcases List.mem_cons.mp ((h k).mpr (List.mem_cons_of_mem _ hk)) with e | e
      · have := h3 k hk; omega
      · exact e
def insU (k : Int) : List Int → List Int
  | [] => [k]
  | x :: xs => if k < x then k :: x :: xs else if k = x then x :: xs else x :: insU k xs
def sortU (ns : List Int) : List Int := ns.foldr insU []
theorem insU_mem (k j : Int) : ∀ l : List Int, j ∈ insU k l ↔ j = k ∨ j ∈ l
  | [] => by simp [insU]
  | x :: xs => by
    unfold insU
    split
    · simp
    · split
      · rename_i e; subst e; simp
      · simp [insU_mem k j xs]; constructor <;> (intro h; rcases h with h | h | h <;> simp [h])
theorem insU_rise (k : Int) : ∀ l : List Int, l.Pairwise (· < ·) → (insU k l).Pairwise (· < ·)
  | [], _ => by simp [insU]
  | x :: xs, h => by
    obtain ⟨h1, h2⟩ := List.pairwise_cons.mp h
    unfold insU
    split
    · rename_i q
      refine List.pairwise_cons.mpr ⟨fun y hy => ?_, h⟩
      rcases List.mem_cons.mp hy with e | e
      · omega
      · have := h1 y e; omega
    · split
      · exact h
      · refine List.pairwise_cons.mpr ⟨fun y hy => ?_, insU_rise k xs h2⟩
        rcases (insU_mem k y xs).mp hy with e | e
        · omega
        · exact h1 y e
theorem sortU_rise : ∀ ns : List Int, (sortU ns).Pairwise (· < ·)
  | [] => List.Pairwise.nil
  | k :: ns => insU_rise k _ (sortU_rise ns)
theorem sortU_mem (j : Int) : ∀ ns : List Int, j ∈ sortU ns ↔ j ∈ ns
  | [] => by simp [sortU]
  | k :: ns => by
    have := sortU_mem j ns
    simp only [sortU, List.foldr_cons] at this ⊢
    rw [insU_mem, this]; simp
end FL

set_option maxRecDepth 100000
namespace FL
open PySem PySem.Spec PyProof.Rows L2

theorem setR_card {w : World} {h : Heap} {a : Addr} {c : Nat} {ns : List Int} (R : SetR w h a (fun j => decide (j ∈ ns)) c) : c = (sortU ns).length := by
  obtain ⟨o, es, ep, t, _, _, _, _, nd, hm, _, _, hs, _⟩ := R
  have nd2 : (sortU ns).Nodup := (sortU_rise ns).imp fun h => by omega
  have p : (es.toList.map keyOf).Perm (sortU ns) := (List.perm_ext_iff_of_nodup nd nd2).mpr fun k => by rw [← hm k, sortU_mem]; simp
  have := p.length_eq
  rw [List.length_map, Array.length_toList] at this
  omega
theorem rise_len : ∀ (l : List Int) (a b : Int), l.Pairwise (· < ·) → (∀ k ∈ l, a ≤ k ∧ k < b) → (l.length : Int) ≤ max 0 (b - a)
  | [], a, b, _, _ => by simp; omega
  | x :: l, a, b, h, hb => by
    obtain ⟨h1, h2⟩ := List.pairwise_cons.mp h
    have := hb x List.mem_cons_self
    have := rise_len l (x + 1) b h2 fun k hk => ⟨by have := h1 k hk; omega, (hb k (List.mem_cons_of_mem _ hk)).2⟩
    simp only [List.length_cons]; omega
section
variable {X : Cx}
def rSetI (w : World) : List V → Hp → VK → Prop := fun vs H Q => ∃ (a : Addr) (ns : List Int), vs = [V.ref a] ∧ H a = some (.lst (ns.map V.int)) ∧ ns.length + 1 < scanBound ∧ ∀ (n : Nat) (p : Addr), n = (sortU ns).length → H p = none → Q (.ref p) (upd H p (SetO w p (fun j => decide (j ∈ ns)) n))
theorem cr_setI (hc : X.calm = true) : CallR X (.type "set") (rSetI X.w) := by
  intro pins s σ H vs us Q I r h
  obtain ⟨a, ns, rfl, ha, hb, q⟩ := h
  rw [Vals.ref1 r]
  obtain ⟨z, its, n, rr, hl, e⟩ := I.lstM ha
  refine set_of_ints (its := its.toArray) ns (I.ok.hd hc) ⟨_, e, rfl, n, rfl⟩ (by simpa using ints_of_vals rr) hb fun g tk c R hc keep => ?_
  exact ⟨.ref s.heap.objs.size, upd H s.heap.objs.size (SetO X.w s.heap.objs.size (fun j => decide (j ∈ ns)) c), I.laid (t' := tk) (fun b u e => keep b u e) (Nat.le_refl _) (setO_new R), rfl, q c _ (setR_card R) (I.hok.fresh (Nat.le_refl _))⟩
end
/-! ### sorted(set(xs)), xs ints -/
def gSortSet (d : D) (m : Me) : Res D := match view m d with
  | .lst xs => match intsD xs with
    | some ns => if (sortU ns).length < 64 ∧ ns.length < 4095 then .ok (.lst ((sortU ns).map .int)) m else .no
    | none => .no
  | _ => .no
theorem ints_rv {K : PySem.W.Frag} {H : Hp} {μ : Mu} : ∀ (ks : List Int), RVs K H μ (ks.map D.int) (ks.map V.int)
  | [] => by simp [RVs]
  | k :: ks => by simp only [List.map_cons, RVs]; exact ⟨_, _, rfl, by simp [RV], ints_rv ks⟩
theorem pd_sortSet {X : Cx} {W : WX} {x y : Str} {e : Expr} {f : ME} {p1 p2 p3 pos : Pos} (hc : X.calm = true) (g1 : Gl X x) (n1 : X.mg x = none) (b1 : bootBuiltins x = some (.builtin "sorted")) (g2 : Gl X y) (n2 : X.mg y = none) (b2 : bootBuiltins y = some (.type "set")) (he : PD X W e f)
    (hx : x ≠ "__name__" := by decide) (dx : (x == ("__debug__" : Str)) = false := by decide) (hy : y ≠ "__name__" := by decide) (dy : (y == ("__debug__" : Str)) = false := by decide)
    (s1 : starEach [.Call (.Name y p2) [e] [] p3] X.env = (false, eval (.Call (.Name y p2) [e] [] p3) X.env) :: starEach [] X.env := by rfl) (s2 : starEach [e] X.env = (false, eval e X.env) :: starEach [] X.env := by rfl)
    (l1 : (backTo pos (starEach [] X.env)).any (·.1) = false := by rfl) (l2 : (backTo p3 (starEach [] X.env)).any (·.1) = false := by rfl) :
    PD X W (.Call (.Name x p1) [.Call (.Name y p2) [e] [] p3] [] pos) (m1 gSortSet f) :=
  PE.imp (pe_callB (cr_sortedSet hc) g1 n1 b1 (pa_cons (pe_callTy (cr_setI hc) g2 n2 b2 (pa_cons he pa_nil s2) hy dy s2 l2) pa_nil s1) hx dx s1 l1) fun σ H Q ⟨μ, ρ, m, hH, hS, q⟩ => by
    refine seqR q hH hS fun d m1 v H1 μ1 e1 hH1 r1 hS1 q1 => ?_
    unfold gSortSet at q1
    split at q1
    · rename_i xs ev
      split at q1
      · rename_i ns ei
        split at q1
        · rename_i h64
          obtain ⟨a, vs, rfl, ha, hz, w1⟩ := view_lst hH1 r1 ev
          have := intsD_rv w1 ei
          subst this
          refine ⟨a, ns, rfl, ha, by unfold scanBound; omega, fun n p hn hp => ?_⟩
          refine ⟨p, fun j => decide (j ∈ ns), n, rfl, upd_same, by omega, fun ks p' hr hm hl hp' => ?_⟩
          have ek : ks = sortU ns := rise_eq hr (sortU_rise ns) fun k => by rw [hm k, sortU_mem]; simp
          have x1 := Ext.new (o := SetO X.w p (fun j => decide (j ∈ ns)) n) hH1 hp
          have hN := hH1.new (o := SetO X.w p (fun j => decide (j ∈ ns)) n) hp
          have x2 := Ext.new (o := .lst (ks.map V.int)) hN hp'
          refine q1 _ _ μ1 (x1.trans x2) (hN.new hp') ?_
          simp only [RV]
          refine ⟨p', _, rfl, ⟨hN.notin hp', fun z => hN.hid _ z hp'⟩, upd_same, ?_, ?_⟩
          · rw [List.length_map, hl, sizeLine_eq]; omega
          · rw [ek]; exact ints_rv _
        · exact q1.elim
      · exact q1.elim
    · exact q1.elim
end FL

set_option maxRecDepth 100000
namespace FL
open PySem PySem.Spec PyProof.Rows L2

/-! ### index of a tuple, flat items -/
section
variable {X : Cx}
def rIndexT (K : PySem.W.Frag) : V → List V → Hp → VK → Prop := fun x xs H Q => ∃ (a : Addr) (ys : List V) (y : V) (j : Nat) (z : V), x = V.ref a ∧ xs = [y] ∧ SqT K H a ys ∧ flatV y = true ∧ ys.all flatV = true ∧ ys[j]? = some z ∧ eqV z y = true ∧
  (∀ (m : Nat) (z' : V), m < j → ys[m]? = some z' → eqV z' y = false) ∧ Q (.int (j : Nat)) H
theorem mt_indexT : MtR X "tuple.index" (rIndexT X.K) := by
  intro pins s σ H x xs v us Q I rx rxs h
  obtain ⟨a, ys, y, j, z, rfl, rfl, hs, fy, fys, hz, hzj, hno, q⟩ := h
  cases rx
  cases rxs with
  | cons ry rt =>
    rename_i uy ut
    cases rt
    obtain ⟨its, rv, pl, hlen⟩ := I.tuple hs
    obtain ⟨⟨cls, dd, data, sl⟩, ho, hc, n, hd⟩ := pl
    simp only at hc hd
    subst hc hd
    obtain ⟨u, hu, ru⟩ := rv.get hz
    obtain ⟨hjl, hje⟩ := List.getElem?_eq_some_iff.mp hu
    have hvl := rv.length
    have hj : j < its.toArray.size := by simpa using hjl
    refine call_meets PySem.F.slot_tuple_index ⟨_, ho, rfl⟩ PySem.F.entry_tuple_index (PySem.F.args_tuple_index_2 _ _)
      (TI.tuple_indexAt a its.toArray n dd sl uy (eqU y) j hj ?_ ?_) ⟨ho, fun u' hu' => mem_eqAt ry fy rv fys u' (by simpa using hu'), ?_⟩
    · have e1 : its.toArray[j] = u := by simpa using hje
      rw [e1, eqU_of ru (flat_at fys hz)]
      exact hzj
    · intro m hm hmj
      have hml : m < its.length := by simpa using hm
      have hmy : m < ys.length := by omega
      have hy' : ys[m]? = some ys[m] := List.getElem?_eq_getElem hmy
      obtain ⟨u2, hu2, ru2⟩ := rv.get hy'
      obtain ⟨_, hme⟩ := List.getElem?_eq_some_iff.mp hu2
      have e1 : its.toArray[m] = u2 := by simpa using hme
      rw [e1, eqU_of ru2 (flat_at fys hy')]
      exact hno m _ hmj hy'
    · exact ⟨.int (j : Nat), H, I.tok _, ⟨_, rfl⟩, q⟩
variable {o e : Expr} {es : List Expr} {to : TE} {t : TA} {apos cpos : Pos}
/-- x.index(y), x a list or a tuple -/
def tIdx (K : PySem.W.Frag) (to : TE) (t : TA) : TE := fun σ H Q => to σ H fun x H1 => (tyV K "list" x H1 ∧ t σ H1 fun xs H2 => rIndex K x xs H2 Q) ∨ ((∃ a ys, x = .ref a ∧ TupN K H1 a ys) ∧ t σ H1 fun xs H2 => rIndexT K x xs H2 Q)
theorem tupN_ty {pins : List (Addr × Obj)} {σ : L2.St} {H : Hp} {s : Shared} {a : Addr} {ys : List V} (I : Inv X pins σ H s) (h : TupN X.K H a ys) : s.TypeIs (.ref a) "tuple" ∧ ∃ ob, s.heap.get? a = some ob ∧ ob.dict = none := by
  rcases h with ⟨o, h, hd⟩ | ⟨o, its, n, hk, hc, _, _, _, hd⟩
  · obtain ⟨e, _, its, _, ob, e2, hc, _⟩ := I.hok a _ h
    rw [e] at e2; cases e2
    exact ⟨⟨o, e, hc⟩, o, e, hd.1⟩
  · exact ⟨⟨o, I.kIn _ o hk, hc⟩, o, I.kIn _ o hk, hd.1⟩
theorem pe_idx (ho : PE X o to) (ha : PA X (e :: es) t)
    (hbase : attributeBase o "index" X.env (eval o X.env) = eval o X.env := by rfl)
    (hfew : ((backTo cpos (starEach (e :: es) X.env)).all (fun x => !x.1) && (backToKw cpos (keywordEach [] X.env)).all (fun x => x.1.isSome)
      && decide ((e :: es).length + ([] : List Keyword).length + (if ([] : List Keyword).isEmpty then 0 else 1) < 30)) = true := by rfl)
    (hline : (apos.endLine == cpos.line) = true := by rfl) (hs : starEach (e :: es) X.env = (false, eval e X.env) :: starEach es X.env := by rfl) (hplain : (backTo cpos (starEach es X.env)).any (·.1) = false := by rfl) :
    PE X (.Call (.Attribute o "index" apos) (e :: es) [] cpos) (tIdx X.K to t) := by
  refine ⟨fun pins s σ H Q I h => ?_⟩
  refine wpAny_Call_method_late hbase hfew hline rfl (thn (ho.run pins s σ H _ I h) fun v s1 ⟨x, H1, I1, r1, q1⟩ => ?_)
  rcases q1 with ⟨ty, q1⟩ | ⟨⟨a, ys, rfl, ty⟩, q1⟩
  · obtain ⟨h1, h2⟩ := tyV_is I1 r1 ty
    refine ⟨"list", "list.index", PySem.F.plainAttrs_list, PySem.F.slot_list_index, PySem.F.type_list_index, h1, h2, ?_⟩
    have hA := ha.run cpos pins s1 σ H1 _ I1 q1
    rw [hs] at hA ⊢
    refine Calls.callWith_builtin (by show (false || (backTo cpos (starEach es X.env)).any (·.1)) = false; rw [hplain] <;> rfl) (Calls.evalArgs_plain ?_)
    exact thn hA fun us s2 ⟨vs, H2, I2, r2, q2⟩ => mt_index pins s2 σ H2 x vs v us Q I2 r1 r2 q2
  · cases r1
    obtain ⟨h1, h2⟩ := tupN_ty I1 ty
    refine ⟨"tuple", "tuple.index", PySem.F.plainAttrs_tuple, PySem.F.slot_tuple_index, PySem.F.type_tuple_index, h1, fun b e => by cases e; exact h2, ?_⟩
    have hA := ha.run cpos pins s1 σ H1 _ I1 q1
    rw [hs] at hA ⊢
    refine Calls.callWith_builtin (by show (false || (backTo cpos (starEach es X.env)).any (·.1)) = false; rw [hplain] <;> rfl) (Calls.evalArgs_plain ?_)
    exact thn hA fun us s2 ⟨vs, H2, I2, r2, q2⟩ => mt_indexT pins s2 σ H2 (V.ref a) vs (.ref a) us Q I2 (by rfl) r2 q2
end
/-- the first place of an equal flat item -/
def idxD (y : D) : List D → Option Nat
  | [] => none
  | x :: xs => if eqF x y = true then some 0 else (idxD y xs).map (· + 1)
theorem idx_rv {K : PySem.W.Frag} {H : Hp} {μ : Mu} {y : D} {u : V} (ry : RV K H μ y u) (fy : flatD y = true) : ∀ {ds : List D} {vs : List V} {j : Nat}, RVs K H μ ds vs → ds.all flatD = true → idxD y ds = some j →
    ∃ z, vs[j]? = some z ∧ eqV z u = true ∧ ∀ (m : Nat) (z' : V), m < j → vs[m]? = some z' → eqV z' u = false
  | [], _, _, _, _, e => by cases e
  | d :: ds, vs, j, r, f, e => by
    simp only [RVs] at r
    obtain ⟨v, w, rfl, r1, r2⟩ := r
    simp only [List.all_cons, Bool.and_eq_true] at f
    have q := eqF_eq r1 ry f.1 fy
    simp only [idxD] at e
    split at e
    · rename_i h
      cases e
      exact ⟨v, rfl, by rw [← q]; exact h, fun m z hm => by omega⟩
    · rename_i h
      obtain ⟨k, hk, rfl⟩ := Option.map_eq_some_iff.mp e
      obtain ⟨z, h1, h2, h3⟩ := idx_rv ry fy r2 f.2 hk
      refine ⟨z, h1, h2, fun m z' hm hz => ?_⟩
      cases m with
      | zero =>
        cases hz
        rw [← q]; simpa using h
      | succ m => exact h3 m z' (by omega) hz
/-- what may be indexed: a list, a tuple -/
def isSeq (m : Me) (d : D) : Bool := (seqV m d).isSome
def gIndex (d y : D) (m : Me) : Res D := match seqV m d with
  | some xs => if flatD y = true ∧ xs.all flatD = true then match idxD y xs with
    | some j => .ok (.int (j : Int)) m
    | none => .no
    else .no
  | none => .no
def mIndex (fo fe : ME) : ME := fun ρ m => (fo ρ m).bind fun d m => if isSeq m d = true then (fe ρ m).bind fun y m => gIndex d y m else .no
theorem seqV_ty {K : PySem.W.Frag} {H : Hp} {μ : Mu} {m : Me} {d : D} {v : V} {xs : List D} (hH : RH K H μ m) (r : RV K H μ d v) (e : seqV m d = some xs) : ∃ a vs, v = .ref a ∧ RVs K H μ xs vs ∧ ((view m d = .lst xs ∧ SqL K H a vs) ∨ (d = .tup xs ∧ TupN K H a vs)) := by
  unfold seqV at e
  split at e
  · rename_i ys e1
    cases e
    have := view_tup e1; subst this
    obtain ⟨a, vs, rfl, h1, _, h3⟩ := rv_tup r
    exact ⟨a, vs, rfl, h3, .inr ⟨rfl, h1⟩⟩
  · rename_i ys e1
    cases e
    obtain ⟨a, vs, rfl, h1, _, h3⟩ := view_lst hH r e1
    exact ⟨a, vs, rfl, h3, .inl ⟨e1, .of h1⟩⟩
  · cases e
theorem pd_index {X : Cx} {W : WX} {o e : Expr} {apos cpos : Pos} {fo fe : ME} (ho : PD X W o fo) (he : PD X W e fe) (hbase : attributeBase o "index" X.env (eval o X.env) = eval o X.env := by rfl)
    (hfew : ((backTo cpos (starEach [e] X.env)).all (fun x => !x.1) && (backToKw cpos (keywordEach [] X.env)).all (fun x => x.1.isSome)
      && decide (([e] : List Expr).length + ([] : List Keyword).length + (if ([] : List Keyword).isEmpty then 0 else 1) < 30)) = true := by rfl)
    (hline : (apos.endLine == cpos.line) = true := by rfl) (hs : starEach [e] X.env = (false, eval e X.env) :: starEach [] X.env := by rfl) (hplain : (backTo cpos (starEach [] X.env)).any (·.1) = false := by rfl) :
    PD X W (.Call (.Attribute o "index" apos) [e] [] cpos) (mIndex fo fe) :=
  PE.imp (pe_idx ho (pa_cons he pa_nil hs) hbase hfew hline hs hplain) fun σ H Q ⟨μ, ρ, m, hH, hS, q⟩ => by
    refine seqR q hH hS fun d m1 v H1 μ1 e1 hH1 r1 hS1 q1 => ?_
    split at q1
    case isFalse => exact q1.elim
    rename_i hseq
    obtain ⟨xs, ex⟩ := Option.isSome_iff_exists.mp hseq
    obtain ⟨a, vs, rfl, _, hk⟩ := seqV_ty hH1 r1 ex
    have fin : ∀ (y : D) (m2 : Me) (z : V) (H2 : Hp) (μ2 : Mu), Ext X.K H1 μ1 H2 μ2 → RH X.K H2 μ2 m2 → RV X.K H2 μ2 y z → RS X.K H2 μ2 ρ σ → Ok X.K (fun c d H' => W c d σ H') H2 μ2 (RVv X.K) Q (gIndex d y m2) →
        ∃ (vs : List V) (j : Nat) (w : V), ((∃ ys, view m2 d = .lst ys ∧ SqL X.K H2 a vs) ∨ ((∃ ys, d = .tup ys) ∧ SqT X.K H2 a vs)) ∧ flatV z = true ∧ vs.all flatV = true ∧ vs[j]? = some w ∧ eqV w z = true ∧ (∀ (m : Nat) (z' : V), m < j → vs[m]? = some z' → eqV z' z = false) ∧ Q (.int (j : Nat)) H2 := by
      intro y m2 z H2 μ2 x2 hH2 r2 hS2 q2
      unfold gIndex at q2
      split at q2
      case h_2 => exact q2.elim
      rename_i ys ey
      obtain ⟨b, ws, eb, hr, hk2⟩ := seqV_ty hH2 (RV.ext x2 d _ r1) ey
      cases eb
      split at q2
      case isFalse => exact q2.elim
      rename_i hf
      split at q2
      case h_2 => exact q2.elim
      rename_i j ej
      obtain ⟨w, w1, w2, w3⟩ := idx_rv r2 hf.1 hr hf.2 ej
      obtain ⟨f2, _⟩ := inD_eq r2 hf.1 hr hf.2
      refine ⟨ws, j, w, ?_, by rw [← flat_eq r2]; exact hf.1, f2, w1, w2, w3, q2 _ H2 μ2 .refl hH2 (by simp [RV])⟩
      rcases hk2 with ⟨g1, g2⟩ | ⟨g1, g2⟩
      · exact .inl ⟨ys, g1, g2⟩
      · exact .inr ⟨⟨ys, g1⟩, g2.sq⟩
    rcases hk with ⟨g1, g2⟩ | ⟨g1, g2⟩
    · refine .inl ⟨.inl ⟨rfl, _, g2⟩, ?_⟩
      refine seqR q1 hH1 hS1 fun y m2 z H2 μ2 x2 hH2 r2 hS2 q2 => ?_
      obtain ⟨ws, j, w, hk2, h1, h2, h3, h4, h5, h6⟩ := fin y m2 z H2 μ2 x2 hH2 r2 hS2 q2
      rcases hk2 with ⟨_, _, hk2⟩ | ⟨⟨ys, e2⟩, hk2⟩
      · exact ⟨a, ws, z, j, w, rfl, rfl, hk2, h1, h2, h3, h4, h5, h6⟩
      · rw [e2] at g1; cases g1
    · refine .inr ⟨⟨a, _, rfl, g2⟩, ?_⟩
      refine seqR q1 hH1 hS1 fun y m2 z H2 μ2 x2 hH2 r2 hS2 q2 => ?_
      obtain ⟨ws, j, w, hk2, h1, h2, h3, h4, h5, h6⟩ := fin y m2 z H2 μ2 x2 hH2 r2 hS2 q2
      rcases hk2 with ⟨ys, e2, hk2⟩ | ⟨_, hk2⟩
      · rw [g1] at e2; cases e2
      · exact ⟨a, ws, z, j, w, rfl, rfl, hk2, h1, h2, h3, h4, h5, h6⟩
end FL

set_option maxRecDepth 100000
namespace FL
open PySem PySem.Spec PyProof.Rows L2

/-! ### tuple(range(..)), list(range(..)) -/
section
variable {X : Cx} {W : WX} {e a b : Expr} {te : L2.St → Hp → (Int → Int → Hp → Prop) → Prop} {p p2 pos : Pos}
def tTupRgN (te : L2.St → Hp → (Int → Int → Hp → Prop) → Prop) : TE := fun σ H Q => te σ H fun a b H1 => RgOk a b ∧ ∀ q (o : Obj), PlO o → H1 q = none → Q (.ref q) (upd H1 q (.frz o (.tup (rgV a b))))
theorem pe_tupRgN (hc : X.calm = true) (hg : Gl X "tuple") (hm : X.mg "tuple" = none) (he : PRg X e te) (na : starEach [e] X.env = (false, eval e X.env) :: starEach [] X.env := by rfl) : PE X (.Call (.Name "tuple" p) [e] [] pos) (tTupRgN te) := by
  refine ⟨fun pins s σ H Q I h => ?_⟩
  refine Call_ (ld_blt I hg hm boot_tuple (PyProof.Rows.callWith_type1 (args_cons (thn (he pins s σ H _ I h) fun x s1 ⟨r, a, b, t, u, v, H1, ex, hr, I1, ok, q⟩ => args_nil ?_) na) na))
  subst ex
  obtain ⟨b1, b2, b3, b4, b5⟩ := ok
  refine call_tuple_range (n := (b - a).toNat) (I1.ok.hd hc) hr (small_one b1 b2 b3 b4) (rangeSize_nat a b) b5 fun h' tk acc hk hi => ?_
  have I2 : Inv X pins σ H1 { s1 with heap := h', toks := tk } := I1.kept hk
  refine ⟨.ref h'.objs.size, upd H1 h'.objs.size (.frz { cls := .type "tuple", data := .seq acc } (.tup (rgV a b))), I2.laid (t' := tk) (fun c o e => Heap.get?_push_of_some _ e) (Nat.le_refl _) (show ObjOk X.prog X.w _ _ _ (.frz _ (.tup (rgV a b))) from ⟨Heap.get?_push_size _ rfl, ?_, acc.toList, vals_rg hi, ?_⟩), rfl, q _ _ ⟨rfl, rfl⟩ (I2.hok.fresh (Nat.le_refl _))⟩
  · rw [rgV_length, sizeLine_eq]; omega
  · rw [Array.toArray_toList]; exact PyProof.Rows.IsTup.new _ _
/-- an expression that makes a range -/
abbrev PDRg (X : Cx) (W : WX) (e : Expr) (f : En → Me → Res (Int × Int)) : Prop := ∃ te, PRg X e te ∧ ∀ σ H (Q : Int → Int → Hp → Prop), tR X.K W (fun _ _ a b => a = b) f σ H (fun p H => Q p.1 p.2 H) → te σ H Q
def mRg1 (fa : ME) : En → Me → Res (Int × Int) := fun ρ m => (fa ρ m).bind fun d m => match d with
  | .int j => .ok (0, j) m
  | _ => .no
def mRg2 (fa fb : ME) : En → Me → Res (Int × Int) := fun ρ m => (fa ρ m).bind fun d m => (fb ρ m).bind fun d' m => match d, d' with
  | .int i, .int j => .ok (i, j) m
  | _, _ => .no
theorem pdrg_1 {fa : ME} (hg : Gl X "range") (hm : X.mg "range" = none) (ha : PD X W a fa) (na : starEach [a] X.env = (false, eval a X.env) :: starEach [] X.env := by rfl) : PDRg X W (.Call (.Name "range" p) [a] [] pos) (mRg1 fa) :=
  ⟨_, prg_1 hg hm ha na, fun σ H Q ⟨μ, ρ, m, hH, hS, q⟩ => by
    refine seqR q hH hS fun d m1 v H1 μ1 e1 hH1 r1 hS1 q1 => ?_
    cases d with
    | int j => simp only [RVv, RV] at r1; exact ⟨j, r1, q1 (0, j) H1 μ1 .refl hH1 rfl⟩
    | _ => exact q1.elim⟩
theorem pdrg_2 {fa fb : ME} (hg : Gl X "range") (hm : X.mg "range" = none) (ha : PD X W a fa) (hb : PD X W b fb) (na : starEach [a, b] X.env = (false, eval a X.env) :: starEach [b] X.env := by rfl)
    (nb : starEach [b] X.env = (false, eval b X.env) :: starEach [] X.env := by rfl) (hp : (backTo pos (starEach [b] X.env)).any (·.1) = false := by rfl) : PDRg X W (.Call (.Name "range" p) [a, b] [] pos) (mRg2 fa fb) :=
  ⟨_, prg_2 hg hm ha hb na nb hp, fun σ H Q ⟨μ, ρ, m, hH, hS, q⟩ => by
    refine seqR q hH hS fun d m1 v H1 μ1 e1 hH1 r1 hS1 q1 => ?_
    refine seqR q1 hH1 hS1 fun d' m2 v' H2 μ2 e2 hH2 r2 hS2 q2 => ?_
    cases d with
    | int i =>
      cases d' with
      | int j => simp only [RVv, RV] at r1 r2; exact ⟨i, j, r1, r2, q2 (i, j) H2 μ2 .refl hH2 rfl⟩
      | _ => exact q2.elim
    | _ => exact q2.elim⟩
theorem rg_rv {K : PySem.W.Frag} {H : Hp} {μ : Mu} (a b : Int) : RVs K H μ (rngL a (b - a).toNat) (rgV a b) := by
  unfold rngL rgV
  generalize List.range (b - a).toNat = l
  induction l with
  | nil => simp [RVs]
  | cons k l ih => simp only [List.map_cons, RVs]; exact ⟨_, _, rfl, by simp [RV], ih⟩
def mTupRg (g : En → Me → Res (Int × Int)) : ME := fun ρ m => (g ρ m).bind fun p m => if (p.1 ≤ 1000000 ∧ -1000000 ≤ p.1) ∧ p.2 ≤ 1000000 ∧ -1000000 ≤ p.2 then .ok (.tup (rngL p.1 (p.2 - p.1).toNat)) m else .no
def mLstRg (g : En → Me → Res (Int × Int)) : ME := fun ρ m => (g ρ m).bind fun p m => if (p.1 ≤ 1000000 ∧ -1000000 ≤ p.1) ∧ p.2 ≤ 1000000 ∧ -1000000 ≤ p.2 then .ok (.lst (rngL p.1 (p.2 - p.1).toNat)) m else .no
theorem rg_ok {a b : Int} (h : (a ≤ 1000000 ∧ -1000000 ≤ a) ∧ b ≤ 1000000 ∧ -1000000 ≤ b) : RgOk a b := ⟨by omega, by omega, by omega, by omega, by omega⟩
theorem rgV_line {a b : Int} (h : (a ≤ 1000000 ∧ -1000000 ≤ a) ∧ b ≤ 1000000 ∧ -1000000 ≤ b) : (rgV a b).length ≤ sizeLine := by rw [rgV_length, sizeLine_eq]; omega
theorem pd_tupRg {g : En → Me → Res (Int × Int)} (hc : X.calm = true) (hg : Gl X "tuple") (hm : X.mg "tuple" = none) (h : PDRg X W e g) (na : starEach [e] X.env = (false, eval e X.env) :: starEach [] X.env := by rfl) :
    PD X W (.Call (.Name "tuple" p2) [e] [] pos) (mTupRg g) := by
  obtain ⟨te, h1, h2⟩ := h
  refine PE.imp (pe_tupRgN hc hg hm h1 na) fun σ H Q ⟨μ, ρ, m, hH, hS, q⟩ => h2 σ H _ ?_
  refine seqR q hH hS fun pr m1 pr' H1 μ1 e1 hH1 r1 hS1 q1 => ?_
  subst r1
  split at q1
  case isFalse => exact q1.elim
  rename_i hb
  refine ⟨rg_ok hb, fun p o hd hp => ?_⟩
  have ex := Ext.new (o := .frz o (.tup (rgV pr.1 pr.2))) hH1 hp
  refine q1 _ _ μ1 ex (hH1.new hp) ?_
  simp only [RV]
  exact ⟨p, _, rfl, .inl ⟨o, upd_same, hd⟩, rgV_line hb, rg_rv _ _⟩
theorem pd_lstRg {g : En → Me → Res (Int × Int)} (hc : X.calm = true) (hg : Gl X "list") (hm : X.mg "list" = none) (h : PDRg X W e g) (na : starEach [e] X.env = (false, eval e X.env) :: starEach [] X.env := by rfl) :
    PD X W (.Call (.Name "list" p2) [e] [] pos) (mLstRg g) := by
  obtain ⟨te, h1, h2⟩ := h
  refine PE.imp (pe_listRg hc hg hm h1 na) fun σ H Q ⟨μ, ρ, m, hH, hS, q⟩ => h2 σ H _ ?_
  refine seqR q hH hS fun pr m1 pr' H1 μ1 e1 hH1 r1 hS1 q1 => ?_
  subst r1
  split at q1
  case isFalse => exact q1.elim
  rename_i hb
  refine ⟨rg_ok hb, fun p hp => ?_⟩
  have ex := Ext.new (o := .lst (rgV pr.1 pr.2)) hH1 hp
  refine q1 _ _ μ1 ex (hH1.new hp) ?_
  simp only [RV]
  exact ⟨p, _, rfl, ⟨hH1.notin hp, fun z => hH1.hid _ z hp⟩, upd_same, rgV_line hb, rg_rv _ _⟩
end
end FL

set_option maxRecDepth 100000
namespace FL
open PySem PySem.Spec PyProof.Rows L2

/-! ### instances -/
def putA (f : Str) (d : D) : List (Str × D) → List (Str × D)
  | [] => [(f, d)]
  | (g, x) :: r => if g = f then (g, d) :: r else (g, x) :: putA f d r
abbrev FsV (K : PySem.W.Frag) (H : Hp) (μ : Mu) : List (Str × D) → List (Str × V) → Prop := Paired (fun (p : Str × D) (q : Str × V) => p.1 = q.1 ∧ RV K H μ p.2 q.2)
section
variable {K : PySem.W.Frag} {H : Hp} {μ : Mu} {m : Me}
theorem putA_rv {f : Str} {d : D} {v : V} (r : RV K H μ d v) : ∀ {fs : List (Str × D)} {gs : List (Str × V)}, FsV K H μ fs gs → FsV K H μ (putA f d fs) (putF f v gs)
  | [], _, .nil => .cons ⟨rfl, r⟩ .nil
  | (g, x) :: fs, (g', y) :: gs, .cons h t => by
    obtain ⟨e, h2⟩ := h
    dsimp only at e h2
    subst e
    by_cases q : g = f
    · simp only [putA, putF, if_pos q]; exact .cons ⟨rfl, r⟩ t
    · simp only [putA, putF, if_neg q]; exact .cons ⟨rfl, h2⟩ (putA_rv r t)
theorem lookA {f : Str} : ∀ {fs : List (Str × D)} {gs : List (Str × V)}, FsV K H μ fs gs → match fs.lookup f with
    | some d => ∃ v, gs.lookup f = some v ∧ RV K H μ d v
    | none => gs.lookup f = none
  | [], _, .nil => rfl
  | (g, x) :: fs, (g', y) :: gs, .cons h t => by
    obtain ⟨e, h2⟩ := h
    dsimp only at e h2
    subst e
    by_cases q : (f == g) = true
    · simp only [List.lookup, q]; exact ⟨y, rfl, h2⟩
    · simp only [Bool.not_eq_true] at q
      simp only [List.lookup, q]; exact lookA t
theorem ins_of (hH : RH K H μ m) {i : Nat} {v : V} (r : RV K H μ (.ref i) v) {C : Addr} {fs : List (Str × D)} (e : m[i]? = some (.ins C fs)) : ∃ a dx gs, v = .ref a ∧ μ.l[i]? = some a ∧ H a = some (.ins C dx gs) ∧ FsV K H μ fs gs := by
  simp only [RV] at r
  obtain ⟨a, rfl, ha⟩ := r
  obtain ⟨a', e', dx, gs, h1, h2⟩ := hH.at' i _ e
  rw [ha] at e'; cases e'
  exact ⟨a, dx, gs, rfl, ha, h1, h2⟩
end
section
variable {X : Cx} {W : WX} {o e value : Expr} {pos pos' apos tpos p : Pos} {fo fe fv : ME} {x y : Str} {C : Addr} {es : List Expr}
/-- o.x -/
def mFld (C : Addr) (x : Str) (fo : ME) : ME := fun ρ m => (fo ρ m).bind fun d m => match d with
  | .ref i => match m[i]? with
    | some (.ins C' fs) => if C' = C then match fs.lookup x with
      | some d => .ok d m
      | none => .no
      else .no
    | _ => .no
  | _ => .no
theorem pd_fld (c : Cls X.K C) (nA : NoAttr X.K C x) (ho : PD X W o fo) (hb : attributeBase o x X.env (eval o X.env) = eval o X.env := by rfl) : PD X W (.Attribute o x pos) (mFld C x fo) :=
  PE.imp (pe_fld ho hb) fun σ H Q ⟨μ, ρ, m, hH, hS, q⟩ => by
    refine seqR q hH hS fun d m1 v H1 μ1 e1 hH1 r1 hS1 q1 => ?_
    split at q1
    case h_2 => exact q1.elim
    rename_i i
    split at q1
    case h_2 => exact q1.elim
    rename_i C' fs ei
    split at q1
    case isFalse => exact q1.elim
    rename_i hC
    subst hC
    obtain ⟨a, dx, gs, rfl, ha, h1, h2⟩ := ins_of hH1 r1 ei
    have hl := lookA (f := x) h2
    split at q1
    case h_2 => exact q1.elim
    rename_i d' ed
    rw [ed] at hl
    obtain ⟨w, h3, h4⟩ := hl
    exact ⟨a, _, dx, gs, w, rfl, h1, c, nA, h3, q1 w H1 μ1 .refl hH1 h4⟩
/-- o.x = e -/
def sFldD (C : Addr) (x : Str) (fo fv : ME) : MS := fun ρ m => bindS (fv ρ m) ρ fun y m => bindS (fo ρ m) ρ fun d m => match d with
  | .ref i => match m[i]? with
    | some (.ins C' fs) => if C' = C ∧ fs.length < 1000 then .nx ρ (m.set i (.ins C (putA x y fs))) else .no
    | _ => .no
  | _ => .no
theorem fsv_len {K : PySem.W.Frag} {H : Hp} {μ : Mu} {fs : List (Str × D)} {gs : List (Str × V)} (h : FsV K H μ fs gs) : fs.length = gs.length := Paired.length h
theorem pds_fld (c : Cls X.K C) (nA : NoAttr X.K C x) (ho : PD X W o fo) (hv : PD X W value fv) (hs : swapsWith value (some (.Attribute o x pos')) pos.line X.env = pure false := by rfl) : PDS X W (.Assign [.Attribute o x pos'] value pos) (sFldD C x fo fv) :=
  PS.imp (ps_fld ho hv hs) fun D σ H ⟨μ, ρ, m, hH, hS, q⟩ => by
    refine seqS q hH hS fun y m1 z H1 μ1 e1 hH1 r1 hS1 q1 => ?_
    refine seqS q1 hH1 hS1 fun d m2 v H2 μ2 e2 hH2 r2 hS2 q2 => ?_
    split at q2
    case h_2 => exact q2.elim
    rename_i i
    split at q2
    case h_2 => exact q2.elim
    rename_i C' fs ei
    split at q2
    case isFalse => exact q2.elim
    rename_i hC
    obtain ⟨hC, hl⟩ := hC
    subst hC
    obtain ⟨a, dx, gs, rfl, ha, h1, h2⟩ := ins_of hH2 r2 ei
    have ex := Ext.wr (o := .ins C' dx (putF x z gs)) hH2 ha
    refine ⟨a, _, dx, gs, rfl, h1, c, nA, by rw [← fsv_len h2]; exact hl, q2 σ _ μ2 ex (hH2.wr ha ⟨dx, _, upd_same, ?_⟩) (hS2.ext ex)⟩
    exact L2.Paired.mapP (putA_rv (RV.ext e2 y z r1) h2) fun p q z => ⟨z.1, RV.ext ex _ _ z.2⟩
/-- o.x += e, o.x -= e of whole numbers -/
def sFldAug (C : Addr) (x : Str) (g : Int → Int → Int) (fo fe : ME) : MS := fun ρ m => bindS (fo ρ m) ρ fun d m => match d with
  | .ref i => match m[i]? with
    | some (.ins C' fs) => if C' = C then match fs.lookup x with
      | some (.int a) => bindS (fe ρ m) ρ fun y m => match y with
        | .int b => match m[i]? with
          | some (.ins C2 fs2) => if C2 = C ∧ fs2.length < 1000 then .nx ρ (m.set i (.ins C (putA x (.int (g a b)) fs2))) else .no
          | _ => .no
        | _ => .no
      | _ => .no
      else .no
    | _ => .no
  | _ => .no
def rGI (g : Int → Int → Int) : V → V → Hp → VK → Prop := fun x y H Q => ∃ i j, x = .int i ∧ y = .int j ∧ Q (.int (g i j)) H
theorem pds_fldaug {op : Operator} {g : Int → Int → Int} (hop : InOp X op (rGI g)) (c : Cls X.K C) (nA : NoAttr X.K C x) (ho : PD X W o fo) (hv : PD X W e fe) : PDS X W (.AugAssign (.Attribute o x tpos) op e pos) (sFldAug C x g fo fe) :=
  PS.imp (ps_fldaug ho hv hop) fun D σ H ⟨μ, ρ, m, hH, hS, q⟩ => by
    refine seqS q hH hS fun d m1 v H1 μ1 e1 hH1 r1 hS1 q1 => ?_
    split at q1
    case h_2 => exact q1.elim
    rename_i i
    split at q1
    case h_2 => exact q1.elim
    rename_i C' fs ei
    split at q1
    case isFalse => exact q1.elim
    rename_i hC
    subst hC
    obtain ⟨a, dx, gs, rfl, ha, h1, h2⟩ := ins_of hH1 r1 ei
    have hl := lookA (f := x) h2
    split at q1
    case h_2 => exact q1.elim
    rename_i n ed
    rw [ed] at hl
    obtain ⟨w, h3, h4⟩ := hl
    simp only [RV] at h4
    subst h4
    refine ⟨a, _, dx, gs, _, rfl, h1, c, nA, h3, ?_⟩
    refine seqS q1 hH1 hS1 fun y m2 z H2 μ2 e2 hH2 r2 hS2 q2 => ?_
    split at q2
    case h_2 => exact q2.elim
    rename_i b
    simp only [RVv, RV] at r2
    subst r2
    split at q2
    case h_2 => exact q2.elim
    rename_i C2 fs2 ei2
    split at q2
    case isFalse => exact q2.elim
    rename_i hC
    obtain ⟨hC, hl2⟩ := hC
    subst hC
    obtain ⟨a', dx2, gs2, ea, ha2, h1', h2'⟩ := ins_of hH2 (RV.ext e2 _ _ r1) ei2
    cases ea
    have ex := Ext.wr (o := .ins C2 dx2 (putF x (.int (g n b)) gs2)) hH2 ha2
    refine ⟨n, b, rfl, rfl, dx2, gs2, h1', by rw [← fsv_len h2']; exact hl2, q2 σ _ μ2 ex (hH2.wr ha2 ⟨dx2, _, upd_same, ?_⟩) (hS2.ext ex)⟩
    exact L2.Paired.mapP (putA_rv (d := .int (g n b)) (v := .int (g n b)) (by simp [RV]) h2') fun p q z => ⟨z.1, RV.ext ex _ _ z.2⟩
theorem inI_add : InOp X .Add (rGI fun i j => i + j) := in_add
theorem inI_sub : InOp X .Sub (rGI fun i j => i - j) := in_sub
/-- o.x(..) -/
def mMeth (C : Addr) (x : Str) (F : List D → Me → Res D) (fo : ME) (fa : MA) : ME := fun ρ m => (fo ρ m).bind fun d m => match d with
  | .ref i => match m[i]? with
    | some (.ins C' fs) => if C' = C ∧ fs.lookup x = none then (fa ρ m).bind fun ds m => noX (F (.ref i :: ds) m) else .no
    | _ => .no
  | _ => .no
variable {k n : Nat} {f : Addr} {fd : FuncData} {ps : List Str} {Fm : List D → Me → Res D} {fa : MA}
theorem meth_imp {t : TA} {tq : TE} (ht : t = tR X.K W (RVn X.K n) fa) (ho : tq = tR X.K W (RVv X.K) fo) : ∀ σ H Q, tR X.K W (RVv X.K) (mMeth C x Fm fo fa) σ H Q → tMeth C x (spF X.K (n + 1) Fm) [] (fun _ _ _ => False) tq t σ H Q := fun σ H Q ⟨μ, ρ, m, hH, hS, q⟩ => by
  subst ht ho
  refine seqR q hH hS fun d m1 v H1 μ1 e1 hH1 r1 hS1 q1 => ?_
  split at q1
  case h_2 => exact q1.elim
  rename_i i
  split at q1
  case h_2 => exact q1.elim
  rename_i C' fs ei
  split at q1
  case isFalse => exact q1.elim
  rename_i hC
  obtain ⟨hC, hl⟩ := hC
  subst hC
  obtain ⟨a, dx, gs, rfl, ha, h1, h2⟩ := ins_of hH1 r1 ei
  have hl' := lookA (f := x) h2
  rw [hl] at hl'
  refine ⟨a, dx, gs, rfl, h1, hl', ?_⟩
  refine seqR q1 hH1 hS1 fun ds m2 vs H2 μ2 e2 hH2 r2 hS2 q2 => ?_
  refine ⟨μ2, m2, .ref i :: ds, hH2, ?_, by simp [r2.2], Ok.noX' q2⟩
  simp only [RVs]
  exact ⟨_, _, rfl, RV.ext e2 _ _ r1, by simpa using r2.1⟩
theorem pd_meth (pl : Sem Bool) (c : Cls X.K C) (hm : Meth X.K C x f) (G : FnOk X.prog X.w X.K X.mg X.base CX0 k f fd ps (spF X.K (n + 1) Fm)) (hr : Room k X.A) (hb : Binds X.K fd ps []) (ho : PD X W o fo) (ha : PDA X W n (e :: es) fa)
    (hst : starEach (e :: es) X.env = (false, eval e X.env) :: starEach es X.env := by rfl) (hpl : (backTo pos (starEach es X.env)).any (·.1) = false := by rfl)
    (ht : eval (.Call (.Attribute o x apos) (e :: es) [] pos) X.env = (do
      let ov ← eval o X.env
      standAt apos.atName
      let (f, first) ← holding [ov] (getMethod ov x pl)
      callWith pos f first (backTo pos (starEach (e :: es) X.env)) (backToKw pos (keywordEach [] X.env))) := by rfl) : PD X W (.Call (.Attribute o x apos) (e :: es) [] pos) (mMeth C x Fm fo fa) :=
  PE.imp (pe_meth (pl := pl) ho c hm G hr hb .nil pass0 ha hst hpl ht) (meth_imp rfl rfl)
theorem pd_meth0 (pl : Sem Bool) (c : Cls X.K C) (hm : Meth X.K C x f) (G : FnOk X.prog X.w X.K X.mg X.base CX0 k f fd ps (spF X.K (0 + 1) Fm)) (hr : Room k X.A) (hb : Binds X.K fd ps []) (ho : PD X W o fo)
    (ht : eval (.Call (.Attribute o x apos) [] [] pos) X.env = (do
      let ov ← eval o X.env
      standAt apos.atName
      let (f, first) ← holding [ov] (getMethod ov x pl)
      callWith pos f first (backTo pos (starEach [] X.env)) (backToKw pos (keywordEach [] X.env))) := by rfl) : PD X W (.Call (.Attribute o x apos) [] [] pos) (mMeth C x Fm fo mNil) :=
  PE.imp (pe_meth0 (pl := pl) ho c hm G hr hb .nil pass0 ht) fun σ H Q h => by
    have := meth_imp (t := tR X.K W (RVn X.K 0) mNil) (tq := tR X.K W (RVv X.K) fo) rfl rfl σ H Q h
    obtain ⟨μ, ρ, m, hH, hS, q⟩ := h
    refine seqR q hH hS fun d m1 v H1 μ1 e1 hH1 r1 hS1 q1 => ?_
    split at q1
    case h_2 => exact q1.elim
    rename_i i
    split at q1
    case h_2 => exact q1.elim
    rename_i C' fs ei
    split at q1
    case isFalse => exact q1.elim
    rename_i hC
    obtain ⟨hC, hl⟩ := hC
    subst hC
    obtain ⟨a, dx, gs, rfl, ha, h1, h2⟩ := ins_of hH1 r1 ei
    have hl' := lookA (f := x) h2
    rw [hl] at hl'
    refine ⟨a, dx, gs, rfl, h1, hl', μ1, m1, [.ref i], hH1, ?_, rfl, Ok.noX' q1⟩
    simp only [RVs]
    exact ⟨_, _, rfl, r1, rfl⟩
/-! ### a new instance -/
def mkC (C : Addr) (F : List D → Me → Res D) : List D → Me → Res D := fun ds m => (F (.ref m.length :: ds) (m ++ [.ins C []])).bind fun d m' => match d with
  | .non => .ok (.ref m.length) m'
  | _ => .no
def ctF (C : Addr) (Fn : Nat → List D → Me → Res D) : Nat → List D → Me → Res D
  | 0 => fun _ _ => .no
  | k + 1 => mkC C (Fn k)
def CtOk (P : Program) (w : World) (K : PySem.W.Frag) (mg : Str → Option Value) (base : Heap) (f : Addr) (fd : FuncData) (ps : List Str) (np : Nat) (Fn : Nat → List D → Me → Res D) : Nat → Prop
  | 0 => True
  | k + 1 => FnOk P w K mg base CX0 k f fd ps (spF K np (Fn k))
theorem make_imp {H1 : Hp} {μ1 : Mu} {m1 : Me} {ds : List D} {vs : List V} {F : List D → Me → Res D} {np : Nat} {Ex : XK} {Q : VK} (hH1 : RH X.K H1 μ1 m1) (r1 : RVs X.K H1 μ1 ds vs) (hn : ds.length + 1 = np) (q1 : Ok X.K Ex H1 μ1 (RVv X.K) Q (noX (mkC C F ds m1))) :
    ∀ x dx, H1 x = none → H1 dx = none → dx ≠ x → spF X.K np F (.ref x :: vs) (upd (upd H1 dx (.own x)) x (.ins C dx [])) (fun v H2 => v = .non ∧ Q (.ref x) H2) (fun _ _ _ => False) := by
  intro a dx hx hdx hne
  have ex1 := Ext.new (o := .own a) hH1 hdx
  have hH2 := hH1.new (o := .own a) hdx
  have hx2 : upd H1 dx (.own a) a = none := by rw [upd_ne (Ne.symm hne)]; exact hx
  have ex2 := Ext.cell (o := .ins C dx []) hH2 hx2
  have hH3 := hH2.cell (o := .ins C dx []) (c := .ins C []) hx2 ⟨dx, [], upd_same, .nil⟩
  have hlen := hH1.len
  refine ⟨μ1.add a, m1 ++ [.ins C []], .ref m1.length :: ds, hH3, ?_, by simpa using hn, ?_⟩
  · simp only [RVs]
    refine ⟨_, _, rfl, ?_, RVs.ext ex2 _ _ (RVs.ext ex1 _ _ r1)⟩
    simp only [RV]
    exact ⟨a, rfl, by simp [Mu.add, ← hlen]⟩
  · unfold mkC at q1
    cases e : F (.ref m1.length :: ds) (m1 ++ [.ins C []]) with
    | no => rw [e] at q1; exact q1.elim
    | exc y m' => rw [e] at q1; exact q1.elim
    | ok d m' =>
      rw [e] at q1
      simp only [Res.bind_ok] at q1
      cases d with
      | non =>
        intro v H' μ' x' hH' r'
        simp only [RVv, RV] at r'
        refine ⟨r', q1 _ H' μ' (ex1.trans (ex2.trans x')) hH' ?_⟩
        simp only [RVv, RV]
        exact ⟨a, rfl, x'.get (by simp [Mu.add, ← hlen])⟩
      | _ => exact q1.elim
theorem run_ctor {Fn : Nat → List D → Me → Res D} {np : Nat} {H1 : Hp} {μ1 : Mu} {m1 : Me} {ds : List D} {vs : List V} {us : List Value} {Ex : XK} {Q : VK} {pins : List (Addr × Obj)} {σ : L2.St} {s : Shared} (M : Mk X.K C f)
    (h : CtOk X.prog X.w X.K X.mg X.base f fd ps np Fn n) (hr : Room n X.A) (hb : Binds X.K fd ps []) (I : Inv X pins σ H1 s) (r : Vals vs us)
    (hH1 : RH X.K H1 μ1 m1) (r1 : RVs X.K H1 μ1 ds vs) (hn : ds.length + 1 = np) (q1 : Ok X.K Ex H1 μ1 (RVv X.K) Q (noX (ctF C Fn n ds m1))) : wpAny (model X.prog X.w) X.A (call (.ref C) us) (EP X pins σ Q) X.xe s := by
  cases n with
  | zero => exact q1.elim
  | succ n =>
    refine run_make M h hr hb .nil pass0 I r ?_
    have := make_imp hH1 r1 hn q1
    simpa using this
theorem pd_make {Fn : Nat → List D → Me → Res D} {np q : Nat} (M : Mk X.K C f) (h : CtOk X.prog X.w X.K X.mg X.base f fd ps np Fn n) (hr : Room n X.A) (hg : Gl X y) (hm : X.mg y = some (.ref C)) (hb : Binds X.K fd ps [])
    (ha : PDA X W q (e :: es) fa) (hF : Fm = ctF C Fn n) (hq : q + 1 = np := by rfl) (hdb : (y == ("__debug__" : Str)) = false := by decide) (he : starEach (e :: es) X.env = (false, eval e X.env) :: starEach es X.env := by rfl) (hpl : (backTo pos (starEach es X.env)).any (·.1) = false := by rfl) :
    PD X W (.Call (.Name y p) (e :: es) [] pos) (mCall Fm fa) := by
  subst hF
  refine ⟨fun pins s σ H Q I ⟨μ, ρ, m, hH, hS, qq⟩ => ?_⟩
  refine wpAny_Call_Name_kw (ld_glob I hg hm ?_ hdb)
  have h2 : tR X.K W (RVn X.K q) fa σ H (fun vs H1 => ∃ μ1 m1 ds, RH X.K H1 μ1 m1 ∧ RVs X.K H1 μ1 ds vs ∧ ds.length = q ∧ Ok X.K (fun c d H' => W c d σ H') H1 μ1 (RVv X.K) Q (noX (ctF C Fn n ds m1))) :=
    seqR qq hH hS fun ds m1 vs H1 μ1 e1 hH1 r1 hS1 q1 => ⟨μ1, m1, ds, hH1, r1.1, r1.2, q1⟩
  refine PySem.W.callWith_K (h₀ := X.base) I.ok.mod.kin M.kp (thn (ha.run pos pins s σ H _ I h2) fun us s1 ⟨vs, H1, I1, r, μ1, m1, ds, hH1, r1, hn, q1⟩ => ⟨I1.kIn, ?_⟩) he hpl
  exact run_ctor M h hr hb I1 r hH1 r1 (by rw [hn]; exact hq) q1
theorem pd_make0 {Fn : Nat → List D → Me → Res D} {np : Nat} (M : Mk X.K C f) (h : CtOk X.prog X.w X.K X.mg X.base f fd ps np Fn n) (hr : Room n X.A) (hg : Gl X y) (hm : X.mg y = some (.ref C)) (hb : Binds X.K fd ps [])
    (hF : Fm = ctF C Fn n) (hq : 1 = np := by rfl) (hdb : (y == ("__debug__" : Str)) = false := by decide) : PD X W (.Call (.Name y p) [] [] pos) (mCall Fm mNil) := by
  subst hF
  refine ⟨fun pins s σ H Q I ⟨μ, ρ, m, hH, hS, qq⟩ => ?_⟩
  refine wpAny_Call_Name_kw (ld_glob I hg hm ?_ hdb)
  exact PySem.W.callWith_K0 I.kIn M.kp (run_ctor (us := []) (vs := []) (ds := []) M h hr hb I .nil hH rfl hq qq)
end
/-! ### a def that keeps what it made -/
def runDefK (N n : Nat) (f : MS) : List D → Me → Res D := fun ds m => match f (ds.map some ++ List.replicate (N - n) none) m with
  | .nx _ m' => .ok .non m'
  | .rt d m' => .ok d m'
  | _ => .no
section
variable {P : Program} {w : World} {K : PySem.W.Frag} {mg : Str → Option Value} {base : Heap}
theorem fn_okK {x qual : Str} {st : Stmt} {f : Addr} {fd : FuncData} {N ps : List Str} {k : Nat} (F : Fun K x qual st f fd) (S : FnScope N ps (defScope st)) {fm : MS}
    (hbody : ∀ (cdv : Value) (A : Around) (outer : List Env) (s : Shared) (H : Hp) (E : XK), Room k (A.deeper (envOfC qual (defScope st) s.heap.objs.size f cdv)) →
      PDB (cxOf CX0 P w K mg base N qual (defScope st) f cdv A outer s H E).nox WF (defBody st) fm) : FnOk P w K mg base CX0 (k + 1) f fd ps (spF K ps.length (runDefK N.length ps.length fm)) := by
  refine F.ok S (fun vs H Q E h => ?_) (fun cdv A outer s H vs Q E hr h => ?_)
  · obtain ⟨μ, m, ds, _, r, hn, _⟩ := h
    rw [← r.length, hn]
  · obtain ⟨μ, m, ds, hH, r, hn, q⟩ := h
    refine ⟨_, hbody cdv A outer s H E hr, μ, _, m, hH, start_rs r hn, ?_⟩
    unfold runDefK at q
    cases e : fm (ds.map some ++ List.replicate (N.length - ps.length) none) m with
    | no => simp only [e] at q; exact q
    | exc x ρ m' => simp only [e] at q; exact q.elim
    | bk ρ m' => simp only [e] at q; exact q.elim
    | ct ρ m' => simp only [e] at q; exact q.elim
    | nx ρ m' => simp only [e] at q; exact fun σ' H' μ' x hH' hS' => q _ H' μ' x hH' (by simp [RV])
    | rt d m' => simp only [e] at q; exact fun v H' μ' x hH' r' => q v H' μ' x hH' r'
end
end FL

set_option maxRecDepth 100000
namespace FL
open PySem PySem.Spec PyProof.Rows L2

/-! ### dicts whose keys are written tuples -/
section
variable {K : PySem.W.Frag} {H : Hp} {μ : Mu} {m : Me}
theorem dT_of (hH : RH K H μ m) {i : Nat} {v : V} (r : RV K H μ (.ref i) v) {kvs : List (List Key × D)} (e : m[i]? = some (.dT kvs)) : ∃ a ps, v = .ref a ∧ μ.l[i]? = some a ∧ H a = some (.dT ps) ∧ RVq K H μ kvs ps := by
  simp only [RV] at r
  obtain ⟨a, rfl, ha⟩ := r
  obtain ⟨a', e', ps, h1, h2⟩ := hH.at' i _ e
  rw [ha] at e'; cases e'
  exact ⟨a, ps, rfl, ha, h1, h2⟩
/-- the entry at a tuple: none if it is no such dict -/
def lookT (m : Me) (d : D) (ks : List D) : Option (Option D) := match d with
  | .ref i => match m[i]? with
    | some (.dT kvs) => (keysD ks).map fun k => getK kvs k
    | _ => none
  | _ => none
def dputT (m : Me) (d : D) (ks : List D) (y : D) : Option Me := match d, keysD ks with
  | .ref i, some k => match m[i]? with
    | some (.dT kvs) => if kvs.length < 1000000 then some (m.set i (.dT (setK kvs k y))) else none
    | _ => none
  | _, _ => none
theorem lookT_of {d : D} {ks : List D} {v : V} {us : List V} {b : Addr} {o : Option D} (hH : RH K H μ m) (r : RV K H μ d v) (rk : RVs K H μ ks us) (hb : H b = some (.tup us)) (e : lookT m d ks = some o) :
    ∃ a, v = .ref a ∧ match o with
      | some y => ∃ z, DGet H a (.ref b) (some z) ∧ RV K H μ y z
      | none => DGet H a (.ref b) none := by
  obtain ⟨i, kvs, rfl, ei, e⟩ : ∃ i kvs, d = .ref i ∧ m[i]? = some (.dT kvs) ∧ (keysD ks).map (fun k => getK kvs k) = some o := by
    cases d with
    | ref i =>
      cases ei : m[i]? with
      | none => simp [lookT, ei] at e
      | some c =>
        cases c with
        | dT kvs => simp only [lookT, ei] at e; exact ⟨i, kvs, rfl, ei, e⟩
        | _ => simp [lookT, ei] at e
    | _ => simp [lookT] at e
  obtain ⟨k, e2, e3⟩ := Option.map_eq_some_iff.mp e
  obtain ⟨a, ps, rfl, ha, h1, h2⟩ := dT_of hH r ei
  have g := rvq_get (k := k) h2
  have ek := keysD_rv rk e2
  subst ek
  refine ⟨a, rfl, ?_⟩
  rw [e3] at g
  cases o with
  | none => have := DGet.t h1 hb; rw [g] at this; exact this
  | some y => obtain ⟨z, h3, h4⟩ := g; exact ⟨z, by have := DGet.t h1 hb; rw [h3] at this; exact this, h4⟩
theorem dputT_of {m' : Me} {d y : D} {ks : List D} {v z : V} {us : List V} {b : Addr} (hH : RH K H μ m) (r : RV K H μ d v) (rk : RVs K H μ ks us) (hb : H b = some (.tup us)) (ry : RV K H μ y z) (e : dputT m d ks y = some m') :
    ∃ a H', v = .ref a ∧ DPut H a (.ref b) z H' ∧ Ext K H μ H' μ ∧ RH K H' μ m' := by
  unfold dputT at e
  split at e
  case h_2 => cases e
  rename_i i k ek
  split at e
  case h_2 => cases e
  rename_i kvs ei
  split at e
  case isFalse => cases e
  rename_i hl
  cases e
  obtain ⟨a, ps, rfl, ha, h1, h2⟩ := dT_of hH r ei
  have ek' := keysD_rv rk ek
  subst ek'
  have hlen : ps.length < sizeLine := by rw [← rvq_len h2, sizeLine_eq]; omega
  have x := Ext.wr (o := .dT (putK ps k z)) hH ha
  refine ⟨a, _, rfl, DPut.t h1 hb hlen, x, hH.wr ha ⟨_, upd_same, ?_⟩⟩
  exact L2.Paired.mapP (rvq_set ry h2) fun p q z => ⟨z.1, RV.ext x _ _ z.2⟩
end
section
variable {X : Cx} {W : WX} {o i e value : Expr} {es : List Expr} {pos pos' tpos apos cpos : Pos} {fo fv : ME} {fa : MA} {n : Nat} {x1 : Nat}
/-- what the key's tuple leaves: a new object -/
theorem key_new {fa : MA} {R : Hp → Mu → D → V → Prop} {Ex : WX} {H : Hp} {μ : Mu} {m : Me} {ds : List D} {vs : List V} (hH : RH X.K H μ m) (r : RVs X.K H μ ds vs) {p : Addr} (hp : H p = none) :
    Ext X.K H μ (upd H p (.tup vs)) μ ∧ RH X.K (upd H p (.tup vs)) μ m ∧ RVs X.K (upd H p (.tup vs)) μ ds vs ∧ upd H p (.tup vs) p = some (.tup vs) ∧ p ∉ μ.l :=
  have ex := Ext.new (o := .tup vs) hH hp
  ⟨ex, hH.new hp, RVs.ext ex _ _ r, upd_same, hH.notin hp⟩
/-- d[a, b] -/
def mDgetT (fo : ME) (fa : MA) : ME := fun ρ m => (fo ρ m).bind fun d m => (fa ρ m).bind fun ks m => match lookT m d ks with
  | some (some y) => .ok y m
  | _ => .no
theorem pd_dgetT (hu : X.A.units + 1 < cLine) (ho : PD X W o fo) (ha : PDA X W n es fa) (hn : n ≤ 1000 := by decide) (hs : NoSl (.Tuple es x1 tpos) := by exact fun _ _ => rfl) : PD X W (.Subscript o (.Tuple es x1 tpos) pos) (mDgetT fo fa) :=
  PE.imp (pe_dget hu ho (pe_tup ha) hs) fun σ H Q ⟨μ, ρ, m, hH, hS, q⟩ => by
    refine seqR q hH hS fun d m1 v H1 μ1 e1 hH1 r1 hS1 q1 => ?_
    refine seqR q1 hH1 hS1 fun ks m2 us H2 μ2 e2 hH2 r2 hS2 q2 => ?_
    have hl := r2.1.length
    refine ⟨by rw [← hl, r2.2]; exact le_line hn, fun p hp => ?_⟩
    obtain ⟨ex, hH3, r3, hb, hpn⟩ := key_new (fa := fa) (R := RVv X.K) (Ex := W) hH2 r2.1 hp
    split at q2
    case h_2 => exact q2.elim
    rename_i y ey
    obtain ⟨a, rfl, z, h1, h2⟩ := lookT_of hH3 (RV.ext ex _ _ (RV.ext e2 d v r1)) r3 hb ey
    exact ⟨a, z, rfl, h1, q2 z _ μ2 ex hH3 h2⟩
/-- (a, b) in d -/
def mDinT (neg : Bool) (fa : MA) (fo : ME) : ME := fun ρ m => (fa ρ m).bind fun ks m => (fo ρ m).bind fun d m => match lookT m d ks with
  | some o => .ok (.bl (if neg then !o.isSome else o.isSome)) m
  | none => .no
theorem tup_stay {K : PySem.W.Frag} {H H' : Hp} {μ μ' : Mu} {us : List V} {p : Addr} (x : Ext K H μ H' μ') (hp : p ∉ μ.l) (h : H p = some (.tup us)) : H' p = some (.tup us) := (x.dat p (.tup us) hp trivial h).1
theorem pc_inT (hu : X.A.units + 1 < cLine) (ha : PDA X W n es fa) (ho : PD X W o fo) (hn : n ≤ 1000 := by decide) : PC X .In (.Tuple es x1 tpos) o (tR X.K W (RVv X.K) (mDinT false fa fo)) :=
  ⟨fun pins s σ H Q I h => (pc_din hu (pe_tup ha) ho).run pins s σ H Q I (by
    obtain ⟨μ, ρ, m, hH, hS, q⟩ := h
    refine seqR q hH hS fun ks m1 us H1 μ1 e1 hH1 r1 hS1 q1 => ?_
    have hl := r1.1.length
    refine ⟨by rw [← hl, r1.2]; exact le_line hn, fun p hp => ?_⟩
    obtain ⟨ex, hH1', r1', hb, hpn⟩ := key_new (fa := fa) (R := RVv X.K) (Ex := W) hH1 r1.1 hp
    refine seqR (q1.ext ex) hH1' (hS1.ext ex) fun d m2 v H2 μ2 e2 hH2 r2 hS2 q2 => ?_
    split at q2
    case h_2 => exact q2.elim
    rename_i oo eo
    obtain ⟨a, rfl, h1⟩ := lookT_of hH2 r2 (RVs.ext e2 _ _ r1') (tup_stay e2 hpn hb) eo
    cases oo with
    | none => exact ⟨a, none, rfl, h1, q2 _ H2 μ2 .refl hH2 (by simp [RV])⟩
    | some y => obtain ⟨z, h1, _⟩ := h1; exact ⟨a, some z, rfl, h1, q2 _ H2 μ2 .refl hH2 (by simp [RV])⟩)⟩
theorem pc_notinT (hu : X.A.units + 1 < cLine) (ha : PDA X W n es fa) (ho : PD X W o fo) (hn : n ≤ 1000 := by decide) : PC X .NotIn (.Tuple es x1 tpos) o (tR X.K W (RVv X.K) (mDinT true fa fo)) :=
  ⟨fun pins s σ H Q I h => (pc_dnotin hu (pe_tup ha) ho).run pins s σ H Q I (by
    obtain ⟨μ, ρ, m, hH, hS, q⟩ := h
    refine seqR q hH hS fun ks m1 us H1 μ1 e1 hH1 r1 hS1 q1 => ?_
    have hl := r1.1.length
    refine ⟨by rw [← hl, r1.2]; exact le_line hn, fun p hp => ?_⟩
    obtain ⟨ex, hH1', r1', hb, hpn⟩ := key_new (fa := fa) (R := RVv X.K) (Ex := W) hH1 r1.1 hp
    refine seqR (q1.ext ex) hH1' (hS1.ext ex) fun d m2 v H2 μ2 e2 hH2 r2 hS2 q2 => ?_
    split at q2
    case h_2 => exact q2.elim
    rename_i oo eo
    obtain ⟨a, rfl, h1⟩ := lookT_of hH2 r2 (RVs.ext e2 _ _ r1') (tup_stay e2 hpn hb) eo
    cases oo with
    | none => exact ⟨a, none, rfl, h1, q2 _ H2 μ2 .refl hH2 (by simp [RV])⟩
    | some y => obtain ⟨z, h1, _⟩ := h1; exact ⟨a, some z, rfl, h1, q2 _ H2 μ2 .refl hH2 (by simp [RV])⟩)⟩
theorem pd_dinT (hu : X.A.units + 1 < cLine) (ha : PDA X W n es fa) (ho : PD X W o fo) (hn : n ≤ 1000 := by decide) (h1 : behindInMarks .In o = false := by rfl) : PD X W (.Compare (.Tuple es x1 tpos) [.In] [o] pos) (mDinT false fa fo) := pe_cmp (pc_inT hu ha ho hn) h1
theorem pd_dnotinT (hu : X.A.units + 1 < cLine) (ha : PDA X W n es fa) (ho : PD X W o fo) (hn : n ≤ 1000 := by decide) (h1 : behindInMarks .NotIn o = false := by rfl) : PD X W (.Compare (.Tuple es x1 tpos) [.NotIn] [o] pos) (mDinT true fa fo) := pe_cmp (pc_notinT hu ha ho hn) h1
theorem pdt_dinT (hu : X.A.units + 1 < cLine) (ha : PDA X W n es fa) (ho : PD X W o fo) (hn : n ≤ 1000 := by decide) (h1 : behindInMarks .In o = false := by rfl) : PDT X W (.Compare (.Tuple es x1 tpos) [.In] [o] pos) (mB (mDinT false fa fo)) := PT.imp (pt_cmp (pc_inT hu ha ho hn) h1) fun σ H Q h => tB_imp h
theorem pdt_dnotinT (hu : X.A.units + 1 < cLine) (ha : PDA X W n es fa) (ho : PD X W o fo) (hn : n ≤ 1000 := by decide) (h1 : behindInMarks .NotIn o = false := by rfl) : PDT X W (.Compare (.Tuple es x1 tpos) [.NotIn] [o] pos) (mB (mDinT true fa fo)) := PT.imp (pt_cmp (pc_notinT hu ha ho hn) h1) fun σ H Q h => tB_imp h
/-- d[a, b] = v -/
def sDputT (fo : ME) (fa : MA) (fv : ME) : MS := fun ρ m => bindS (fv ρ m) ρ fun y m => bindS (fo ρ m) ρ fun d m => bindS (fa ρ m) ρ fun ks m => match dputT m d ks y with
  | some m' => .nx ρ m'
  | none => .no
theorem pds_dputT (hu : X.A.units + 1 < cLine) (ho : PD X W o fo) (ha : PDA X W n es fa) (hv : PD X W value fv) (hn : n ≤ 1000 := by decide) (hs : swapsWith value (some (.Subscript o (.Tuple es x1 tpos) pos')) pos.line X.env = pure false := by rfl) : PDS X W (.Assign [.Subscript o (.Tuple es x1 tpos) pos'] value pos) (sDputT fo fa fv) :=
  PS.imp (ps_dput hu ho (pe_tup ha) hv hs) fun D σ H ⟨μ, ρ, m, hH, hS, q⟩ => by
    refine seqS q hH hS fun y m1 z H1 μ1 e1 hH1 r1 hS1 q1 => ?_
    refine seqS q1 hH1 hS1 fun d m2 v H2 μ2 e2 hH2 r2 hS2 q2 => ?_
    refine seqS q2 hH2 hS2 fun ks m3 us H3 μ3 e3 hH3 r3 hS3 q3 => ?_
    have hl := r3.1.length
    refine ⟨by rw [← hl, r3.2]; exact le_line hn, fun p hp => ?_⟩
    obtain ⟨ex, hH4, r4, hb, hpn⟩ := key_new (fa := fa) (R := RVv X.K) (Ex := W) hH3 r3.1 hp
    cases e4 : dputT m3 d ks y with
    | none => rw [e4] at q3; exact q3.elim
    | some m' =>
      rw [e4] at q3
      obtain ⟨a, H5, rfl, h1, x, h2⟩ := dputT_of hH4 (RV.ext ex _ _ (RV.ext e3 d v r2)) r4 hb (RV.ext ex _ _ (RV.ext e3 y z (RV.ext e2 y z r1))) e4
      exact ⟨a, H5, rfl, h1, q3 σ H5 μ3 (ex.trans x) h2 ((hS3.ext ex).ext x)⟩
end
end FL

set_option maxRecDepth 100000
namespace FL
open PySem PySem.Spec PyProof.Rows L2

section
variable {X : Cx} {W : WX} {a b c o e : Expr} {es : List Expr} {pos apos cpos : Pos} {fa fb fc fo fe : ME}
/-! ### a < b < c -/
def mChain (g g' : D → D → Me → Res D) (fa fb fc : ME) : ME := fun ρ m => (fa ρ m).bind fun d m => (fb ρ m).bind fun d' m => (g d d' m).bind fun z m => match z with
  | .bl true => (fc ρ m).bind fun d'' m => g' d' d'' m
  | .bl false => .ok (.bl false) m
  | _ => .no
theorem okQ {α β γ δ : Type} {K : PySem.W.Frag} {Ex : XK} {H : Hp} {μ : Mu} {R : Hp → Mu → α → β → Prop} {R' : Hp → Mu → γ → δ → Prop} {Q1 : β → Hp → Prop} {Q : δ → Hp → Prop} {r : Res α} {f : α → Me → Res γ} (q : Ok K Ex H μ R' Q (r.bind f))
    (h : ∀ a m v H1 μ1, Ext K H μ H1 μ1 → RH K H1 μ1 m → R H1 μ1 a v → Ok K Ex H1 μ1 R' Q (f a m) → Q1 v H1) : Ok K Ex H μ R Q1 r ∨ ∃ x m, r = .exc x m := by
  cases r with
  | no => exact q.elim
  | exc x m => exact .inr ⟨x, m, rfl⟩
  | ok a m => exact .inl fun v H1 μ1 x hH1 r1 => h a m v H1 μ1 x hH1 r1 (q.ext x)
theorem chain_imp {r r' : R2} {g g' : D → D → Me → Res D} (hg : G2 X.K r g) (hg' : G2 X.K r' g') (hne : ∀ d d' m x m', g d d' m ≠ .exc x m') {σ : L2.St} {H : Hp} {Q : VK} (h : tR X.K W (RVv X.K) (mChain g g' fa fb fc) σ H Q) :
    tChain r r' (tR X.K W (RVv X.K) fa) (tR X.K W (RVv X.K) fb) (tR X.K W (RVv X.K) fc) σ H Q := by
  obtain ⟨μ, ρ, m, hH, hS, q⟩ := h
  refine seqR q hH hS fun d m1 v H1 μ1 e1 hH1 r1 hS1 q1 => ?_
  refine seqR q1 hH1 hS1 fun d' m2 v' H2 μ2 e2 hH2 r2 hS2 q2 => ?_
  refine hg (fun c d H' => W c d σ H') H2 μ2 m2 d d' v v' _ hH2 (RV.ext e2 _ _ r1) r2 ?_
  have hk : ∀ z m3 u H3 μ3, Ext X.K H2 μ2 H3 μ3 → RH X.K H3 μ3 m3 → RVv X.K H3 μ3 z u → Ok X.K (fun c d H' => W c d σ H') H3 μ3 (RVv X.K) Q (match z with
      | .bl true => (fc ρ m3).bind fun d'' m => g' d' d'' m
      | .bl false => .ok (.bl false) m3
      | _ => .no) → ∃ k, u = .bl k ∧ (if k = true then tR X.K W (RVv X.K) fc σ H3 fun w' H4 => r' v' w' H4 Q else Q (.bl false) H3) := by
    intro z m3 u H3 μ3 e3 hH3 r3 q3
    cases z with
    | bl k =>
      simp only [RVv, RV] at r3
      subst r3
      refine ⟨k, rfl, ?_⟩
      cases k with
      | true =>
        rw [if_pos rfl]
        refine seqR q3 hH3 (hS2.ext e3) fun d'' m4 w H4 μ4 e4 hH4 r4 hS4 q4 => ?_
        exact hg' (fun c d H' => W c d σ H') H4 μ4 m4 d' d'' v' w _ hH4 (RV.ext e4 _ _ (RV.ext e3 _ _ r2)) r4 q4
      | false => rw [if_neg Bool.false_ne_true]; exact q3 _ H3 μ3 .refl hH3 (by simp [RV])
    | _ => exact q3.elim
  rcases okQ q2 hk with h | ⟨x, m', he⟩
  · exact h
  · exact absurd he (hne _ _ _ _ _)
theorem gII_ne {C : Int → Int → Prop} [∀ i j, Decidable (C i j)] {f : Int → Int → D} (d d' : D) (m : Me) (x : Exn) (m' : Me) : gII C f d d' m ≠ .exc x m' := by
  unfold gII
  split
  · split <;> intro h <;> cases h
  · intro h; cases h
theorem pd_chain {op op' : CmpOp} {r r' : R2} {g g' : D → D → Me → Res D} (ho : OpR X (compareOp op) r) (hg : G2 X.K r g) (ho' : OpR X (compareOp op') r') (hg' : G2 X.K r' g') (hne : ∀ d d' m x m', g d d' m ≠ .exc x m') (ha : PD X W a fa) (hb : PD X W b fb) (hc : PD X W c fc)
    (hm : lastMarks [op, op'] [b, c] = false := by with_unfolding_all rfl) : PD X W (.Compare a [op, op'] [b, c] pos) (mChain g g' fa fb fc) :=
  PE.imp (pe_chain ho ho' ha hb hc hm) fun σ H Q h => chain_imp hg hg' hne h
theorem pdt_chain {op op' : CmpOp} {r r' : R2} {g g' : D → D → Me → Res D} (ho : OpR X (compareOp op) r) (hg : G2 X.K r g) (ho' : OpR X (compareOp op') r') (hg' : G2 X.K r' g') (hne : ∀ d d' m x m', g d d' m ≠ .exc x m') (ha : PD X W a fa) (hb : PD X W b fb) (hc : PD X W c fc)
    (hm : lastMarks [op, op'] [b, c] = false := by with_unfolding_all rfl) : PDT X W (.Compare a [op, op'] [b, c] pos) (mB (mChain g g' fa fb fc)) :=
  PT.imp (pt_chain ho ho' ha hb hc hm) fun σ H Q h => chain_imp hg hg' hne (tB_imp h)
theorem ne_lt (d d' : D) (m : Me) (x : Exn) (m' : Me) : gLt d d' m ≠ .exc x m' := gII_ne d d' m x m'
theorem ne_le (d d' : D) (m : Me) (x : Exn) (m' : Me) : gLe d d' m ≠ .exc x m' := gII_ne d d' m x m'
/-! ### max, min -/
def maxI : List Int → Option Int
  | [] => none
  | a :: r => some (r.foldl (fun x y => if y > x then y else x) a)
def minI : List Int → Option Int
  | [] => none
  | a :: r => some (r.foldl (fun x y => if y < x then y else x) a)
theorem foldmax (r : List Int) : ∀ a : Int, a ≤ r.foldl (fun x y => if y > x then y else x) a ∧ (∀ y ∈ r, y ≤ r.foldl (fun x y => if y > x then y else x) a) ∧ (r.foldl (fun x y => if y > x then y else x) a = a ∨ r.foldl (fun x y => if y > x then y else x) a ∈ r) := by
  induction r with
  | nil => intro a; simp
  | cons b r ih =>
    intro a
    rw [List.foldl_cons]
    obtain ⟨h1, h2, h3⟩ := ih (if b > a then b else a)
    by_cases q : b > a
    · rw [if_pos q] at h1 h2 h3 ⊢
      refine ⟨by omega, fun y hy => ?_, .inr ?_⟩
      · rcases List.mem_cons.mp hy with rfl | hy
        · exact h1
        · exact h2 y hy
      · rcases h3 with h3 | h3
        · rw [h3]; exact List.mem_cons_self
        · exact List.mem_cons_of_mem _ h3
    · rw [if_neg q] at h1 h2 h3 ⊢
      refine ⟨h1, fun y hy => ?_, ?_⟩
      · rcases List.mem_cons.mp hy with rfl | hy
        · omega
        · exact h2 y hy
      · rcases h3 with h3 | h3
        · exact .inl h3
        · exact .inr (List.mem_cons_of_mem _ h3)
theorem foldmin (r : List Int) : ∀ a : Int, r.foldl (fun x y => if y < x then y else x) a ≤ a ∧ (∀ y ∈ r, r.foldl (fun x y => if y < x then y else x) a ≤ y) ∧ (r.foldl (fun x y => if y < x then y else x) a = a ∨ r.foldl (fun x y => if y < x then y else x) a ∈ r) := by
  induction r with
  | nil => intro a; simp
  | cons b r ih =>
    intro a
    rw [List.foldl_cons]
    obtain ⟨h1, h2, h3⟩ := ih (if b < a then b else a)
    by_cases q : b < a
    · rw [if_pos q] at h1 h2 h3 ⊢
      refine ⟨by omega, fun y hy => ?_, .inr ?_⟩
      · rcases List.mem_cons.mp hy with rfl | hy
        · exact h1
        · exact h2 y hy
      · rcases h3 with h3 | h3
        · rw [h3]; exact List.mem_cons_self
        · exact List.mem_cons_of_mem _ h3
    · rw [if_neg q] at h1 h2 h3 ⊢
      refine ⟨h1, fun y hy => ?_, ?_⟩
      · rcases List.mem_cons.mp hy with rfl | hy
        · omega
        · exact h2 y hy
      · rcases h3 with h3 | h3
        · exact .inl h3
        · exact .inr (List.mem_cons_of_mem _ h3)
theorem maxI_is {ns : List Int} {k : Int} (h : maxI ns = some k) : k ∈ ns ∧ ∀ y ∈ ns, y ≤ k := by
  cases ns with
  | nil => cases h
  | cons a r =>
    obtain ⟨h1, h2, h3⟩ := foldmax r a
    simp only [maxI, Option.some.injEq] at h
    rw [h] at h1 h2 h3
    refine ⟨?_, fun y hy => ?_⟩
    · rcases h3 with h3 | h3
      · rw [h3]; exact List.mem_cons_self
      · exact List.mem_cons_of_mem _ h3
    · rcases List.mem_cons.mp hy with rfl | hy
      · exact h1
      · exact h2 y hy
theorem minI_is {ns : List Int} {k : Int} (h : minI ns = some k) : k ∈ ns ∧ ∀ y ∈ ns, k ≤ y := by
  cases ns with
  | nil => cases h
  | cons a r =>
    obtain ⟨h1, h2, h3⟩ := foldmin r a
    simp only [minI, Option.some.injEq] at h
    rw [h] at h1 h2 h3
    refine ⟨?_, fun y hy => ?_⟩
    · rcases h3 with h3 | h3
      · rw [h3]; exact List.mem_cons_self
      · exact List.mem_cons_of_mem _ h3
    · rcases List.mem_cons.mp hy with rfl | hy
      · exact h1
      · exact h2 y hy
def gMaxL (ds : List D) (m : Me) : Res D := match ds with
  | [d] => match ((lstV m d).bind intsD).bind maxI with
    | some k => .ok (.int k) m
    | none => .no
  | _ => .no
def gMinL (ds : List D) (m : Me) : Res D := match ds with
  | [d] => match ((lstV m d).bind intsD).bind minI with
    | some k => .ok (.int k) m
    | none => .no
  | _ => .no
theorem g_maxL {K : PySem.W.Frag} : GC K (rMax K) gMaxL := fun Ex H μ m ds vs Q hH rr q => by
  unfold gMaxL at q
  split at q
  · obtain ⟨v, rfl, r⟩ := rvs1 rr
    split at q
    · rename_i d k e
      obtain ⟨ns, e0, e3⟩ := Option.bind_eq_some_iff.mp e
      obtain ⟨xs, e1, e2⟩ := Option.bind_eq_some_iff.mp e0
      obtain ⟨a, vs, rfl, s1, z1, w1⟩ := lstV_of hH r e1
      have := intsD_rv w1 e2; subst this
      obtain ⟨h1, h2⟩ := maxI_is e3
      refine ⟨a, ns, rfl, .of s1, List.length_pos_of_mem h1, fun m' hm hle => ?_⟩
      have : m' = k := Int.le_antisymm (h2 m' hm) (hle k h1)
      subst this
      exact q _ H μ .refl hH (by simp [RV])
    · exact q.elim
  · exact q.elim
theorem g_minL {K : PySem.W.Frag} : GC K (rMin K) gMinL := fun Ex H μ m ds vs Q hH rr q => by
  unfold gMinL at q
  split at q
  · obtain ⟨v, rfl, r⟩ := rvs1 rr
    split at q
    · rename_i d k e
      obtain ⟨ns, e0, e3⟩ := Option.bind_eq_some_iff.mp e
      obtain ⟨xs, e1, e2⟩ := Option.bind_eq_some_iff.mp e0
      obtain ⟨a, vs, rfl, s1, z1, w1⟩ := lstV_of hH r e1
      have := intsD_rv w1 e2; subst this
      obtain ⟨h1, h2⟩ := minI_is e3
      refine ⟨a, ns, rfl, .of s1, List.length_pos_of_mem h1, fun m' hm hle => ?_⟩
      have : m' = k := Int.le_antisymm (hle k h1) (h2 m' hm)
      subst this
      exact q _ H μ .refl hH (by simp [RV])
    · exact q.elim
  · exact q.elim
def gMin2 (ds : List D) (m : Me) : Res D := match ds with
  | [.int i, .int j] => .ok (.int (if j < i then j else i)) m
  | _ => .no
theorem g_min2 {K : PySem.W.Frag} : GC K (fun xs H Q => ∃ i j, xs = [.int i, .int j] ∧ Q (.int (if j < i then j else i)) H) gMin2 := fun Ex H μ m ds vs Q hH rr q => by
  unfold gMin2 at q
  split at q
  · have := ints2 rr; subst this
    exact ⟨_, _, rfl, q _ H μ .refl hH (by simp [RV])⟩
  · exact q.elim
/-! ### pop, remove, count -/
def mPop (fo : ME) : ME := fun ρ m => (fo ρ m).bind fun d m => match d with
  | .ref i => match m[i]? with
    | some (.lst xs) => match xs[xs.length - 1]? with
      | some y => .ok y (m.set i (.lst xs.dropLast))
      | none => .no
    | _ => .no
  | _ => .no
theorem rvs_dropLast {K : PySem.W.Frag} {H : Hp} {μ : Mu} {ds : List D} {vs : List V} (r : RVs K H μ ds vs) : RVs K H μ ds.dropLast vs.dropLast := by
  rw [List.dropLast_eq_take, List.dropLast_eq_take, r.length]; exact r.take _
theorem pd_pop (ho : PD X W o fo) (hbase : attributeBase o "pop" X.env (eval o X.env) = eval o X.env := by rfl) (hline : (apos.endLine == cpos.line) = true := by rfl) : PD X W (.Call (.Attribute o "pop" apos) [] [] cpos) (mPop fo) :=
  PE.imp (pe_bm0 PySem.F.plainAttrs_list PySem.F.slot_list_pop PySem.F.type_list_pop mt_pop ho hbase hline) fun σ H Q ⟨μ, ρ, m, hH, hS, q⟩ => by
    refine seqR q hH hS fun d m1 v H1 μ1 e1 hH1 r1 hS1 q1 => ?_
    cases d with
    | ref i =>
      simp only [RVv, RV] at r1
      obtain ⟨a, rfl, ha⟩ := r1
      cases e2 : m1[i]? with
      | none => simp only [e2] at q1; exact q1.elim
      | some c =>
        cases c with
        | lst xs =>
          simp only [e2] at q1
          obtain ⟨a', ea, vs, hs, hz, hr⟩ := hH1.at' i _ e2
          rw [ha] at ea; cases ea
          cases e3 : xs[xs.length - 1]? with
          | none => simp only [e3] at q1; exact q1.elim
          | some y =>
            simp only [e3] at q1
            obtain ⟨w, h1, h2⟩ := hr.get e3
            have ex := Ext.wr (o := .lst vs.dropLast) hH1 ha
            refine ⟨.inl ⟨rfl, vs, .of hs⟩, a, vs, w, rfl, rfl, hs, by rw [← hr.length]; exact h1, q1 _ _ μ1 ex (hH1.wr ha ⟨_, upd_same, ?_, RVs.ext ex _ _ (rvs_dropLast hr)⟩) (RV.ext ex _ _ h2)⟩
            rw [List.length_dropLast]; omega
        | _ => simp only [e2] at q1; exact q1.elim
    | _ => exact q1.elim
def idxI (k : Int) : List Int → Option Nat
  | [] => none
  | a :: r => if a = k then some 0 else (idxI k r).map (· + 1)
theorem idxI_is {k : Int} : ∀ {ns : List Int} {j : Nat}, idxI k ns = some j → ns[j]? = some k ∧ ∀ m, m < j → ns[m]? ≠ some k
  | [], _, h => by cases h
  | a :: r, j, h => by
    simp only [idxI] at h
    split at h
    · rename_i q; cases h; subst q; exact ⟨rfl, fun m hm => by omega⟩
    · rename_i q
      obtain ⟨j', e, rfl⟩ := Option.map_eq_some_iff.mp h
      obtain ⟨h1, h2⟩ := idxI_is e
      refine ⟨h1, fun m hm => ?_⟩
      cases m with
      | zero => intro z; simp at z; exact q z
      | succ m => exact h2 m (by omega)
def mRemove (fo fe : ME) : ME := fun ρ m => (fo ρ m).bind fun d m => match d with
  | .ref i => match m[i]? with
    | some (.lst _) => (fe ρ m).bind fun y m => match y with
      | .int k => match m[i]? with
        | some (.lst xs) => match intsD xs with
          | some ns => match idxI k ns with
            | some j => .ok .non (m.set i (.lst ((ns.eraseIdx j).map .int)))
            | none => .no
          | none => .no
        | _ => .no
      | _ => .no
    | _ => .no
  | _ => .no
theorem rvs_ints {K : PySem.W.Frag} {H : Hp} {μ : Mu} : ∀ ns : List Int, RVs K H μ (ns.map D.int) (ns.map V.int)
  | [] => by simp [RVs]
  | a :: r => by simp only [List.map_cons, RVs]; exact ⟨_, _, rfl, by simp [RV], rvs_ints r⟩
theorem pd_remove (ho : PD X W o fo) (he : PD X W e fe) (hbase : attributeBase o "remove" X.env (eval o X.env) = eval o X.env := by rfl)
    (hfew : ((backTo cpos (starEach [e] X.env)).all (fun x => !x.1) && (backToKw cpos (keywordEach [] X.env)).all (fun x => x.1.isSome)
      && decide (([e] : List Expr).length + ([] : List Keyword).length + (if ([] : List Keyword).isEmpty then 0 else 1) < 30)) = true := by rfl)
    (hline : (apos.endLine == cpos.line) = true := by rfl) (hs : starEach [e] X.env = (false, eval e X.env) :: starEach [] X.env := by rfl) (hplain : (backTo cpos (starEach [] X.env)).any (·.1) = false := by rfl) :
    PD X W (.Call (.Attribute o "remove" apos) [e] [] cpos) (mRemove fo fe) :=
  PE.imp (pe_bm PySem.F.plainAttrs_list PySem.F.slot_list_remove PySem.F.type_list_remove mt_remove ho (pa_cons he pa_nil hs) hbase hfew hline hs hplain) fun σ H Q ⟨μ, ρ, m, hH, hS, q⟩ => by
    refine seqR q hH hS fun d m1 v H1 μ1 e1 hH1 r1 hS1 q1 => ?_
    cases d with
    | ref i =>
      simp only [RVv, RV] at r1
      obtain ⟨a, rfl, ha⟩ := r1
      cases e2 : m1[i]? with
      | none => simp only [e2] at q1; exact q1.elim
      | some c =>
        cases c with
        | lst xs0 =>
          simp only [e2] at q1
          obtain ⟨a', ea, vs0, hs0, _, _⟩ := hH1.at' i _ e2
          rw [ha] at ea; cases ea
          refine ⟨.inl ⟨rfl, vs0, .of hs0⟩, ?_⟩
          refine seqR q1 hH1 hS1 fun y m2 z H2 μ2 e2' hH2 r2 hS2 q2 => ?_
          split at q2
          case h_2 => exact q2.elim
          rename_i k
          simp only [RVv, RV] at r2
          subst r2
          split at q2
          case h_2 => exact q2.elim
          rename_i xs e3
          split at q2
          case h_2 => exact q2.elim
          rename_i ns e4
          split at q2
          case h_2 => exact q2.elim
          rename_i j e5
          have ha2 := e2'.get ha
          obtain ⟨a', ea, vs, hs, hz, hr⟩ := hH2.at' i _ e3
          rw [ha2] at ea; cases ea
          have := intsD_rv hr e4; subst this
          obtain ⟨h1, h2⟩ := idxI_is e5
          have ex := Ext.wr (o := .lst ((ns.eraseIdx j).map V.int)) hH2 ha2
          refine ⟨a, ns, k, j, rfl, rfl, hs, h1, h2, q2 _ _ μ2 ex (hH2.wr ha2 ⟨_, upd_same, ?_, rvs_ints _⟩) (by simp [RV])⟩
          rw [List.length_map] at hz ⊢
          have := List.length_eraseIdx_le ns j
          omega
        | _ => simp only [e2] at q1; exact q1.elim
    | _ => exact q1.elim
def mCount (fo fe : ME) : ME := fun ρ m => (fo ρ m).bind fun d m => match lstV m d with
  | some _ => (fe ρ m).bind fun y m => match y, (lstV m d).bind intsD with
    | .int k, some ns => .ok (.int (ns.count k : Nat)) m
    | _, _ => .no
  | none => .no
theorem pd_count (ho : PD X W o fo) (he : PD X W e fe) (hbase : attributeBase o "count" X.env (eval o X.env) = eval o X.env := by rfl)
    (hfew : ((backTo cpos (starEach [e] X.env)).all (fun x => !x.1) && (backToKw cpos (keywordEach [] X.env)).all (fun x => x.1.isSome)
      && decide (([e] : List Expr).length + ([] : List Keyword).length + (if ([] : List Keyword).isEmpty then 0 else 1) < 30)) = true := by rfl)
    (hline : (apos.endLine == cpos.line) = true := by rfl) (hs : starEach [e] X.env = (false, eval e X.env) :: starEach [] X.env := by rfl) (hplain : (backTo cpos (starEach [] X.env)).any (·.1) = false := by rfl) :
    PD X W (.Call (.Attribute o "count" apos) [e] [] cpos) (mCount fo fe) :=
  PE.imp (pe_bm PySem.F.plainAttrs_list PySem.F.slot_list_count PySem.F.type_list_count mt_lcount ho (pa_cons he pa_nil hs) hbase hfew hline hs hplain) fun σ H Q ⟨μ, ρ, m, hH, hS, q⟩ => by
    refine seqR q hH hS fun d m1 v H1 μ1 e1 hH1 r1 hS1 q1 => ?_
    split at q1
    case h_2 => exact q1.elim
    rename_i xs0 e2
    obtain ⟨a, vs0, rfl, s1, _, _⟩ := lstV_of hH1 r1 e2
    refine ⟨.inl ⟨rfl, vs0, .of s1⟩, ?_⟩
    refine seqR q1 hH1 hS1 fun y m2 z H2 μ2 e2' hH2 r2 hS2 q2 => ?_
    split at q2
    case h_2 => exact q2.elim
    rename_i k ns e3
    simp only [RVv, RV] at r2
    subst r2
    obtain ⟨xs, e4, e5⟩ := Option.bind_eq_some_iff.mp e3
    obtain ⟨a', vs, ea, s2, _, w1⟩ := lstV_of hH2 (RV.ext e2' _ _ r1) e4
    cases ea
    have := intsD_rv w1 e5; subst this
    exact ⟨a, ns, k, rfl, rfl, .of s2, q2 _ H2 μ2 .refl hH2 (by simp [RV])⟩
end
end FL

set_option maxRecDepth 100000
namespace FL
open PySem PySem.Spec PyProof.Rows L2

/-! ### the end, with classes -/
def spScr (K : PySem.W.Frag) : Sp := fun vs H Q _ => ∃ (a : Addr) (ns : List Int), vs = [.ref a] ∧ SqL K H a (ns.map V.int) ∧ ns.length ≤ 63 ∧ ∀ H', Q (.bl true) H'
theorem spScr_imp {K : PySem.W.Frag} {F0 : List D → Me → Res D} (L : ∀ ns : List Int, ns.length ≤ 63 → ∃ m', F0 [.scr ns] [] = .ok (.bl true) m') {vs : List V} {H : Hp} {Q : VK} {E : XK} (h : spScr K vs H Q E) : spF K 1 F0 vs H Q E := by
  obtain ⟨a, ns, rfl, hS, hl, q⟩ := h
  obtain ⟨m', e⟩ := L ns hl
  refine ⟨⟨[], []⟩, [], [.scr ns], ⟨rfl, List.nodup_nil, fun i c h => by simp at h, fun a h => by simp at h, fun a h => by simp at h⟩, ?_, rfl, ?_⟩
  · simp only [RVs, RV]
    refine ⟨.ref a, [], rfl, ⟨a, rfl, ?_⟩, rfl⟩
    rcases hS with hS | hS
    · exact .inl ⟨⟨by simp, by simp⟩, hS⟩
    · exact .inr (.inr hS)
  · rw [e]
    intro v H' μ' _ _ r
    simp only [RVv, RV] at r
    subst r
    exact q H'
theorem fn_imp {P : Program} {w : World} {K : PySem.W.Frag} {mg : Str → Option Value} {base : Heap} {k : Nat} {f : Addr} {fd : FuncData} {ps : List Str} {sp sp' : Sp} (F : FnOk P w K mg base CX0 k f fd ps sp) (h : ∀ vs H Q E, sp' vs H Q E → sp vs H Q E) : FnOk P w K mg base CX0 k f fd ps sp' :=
  ⟨fun vs H Q E q => F.len vs H Q E (h _ _ _ _ q), fun A outer s H args us vs Q E h1 h2 h3 h4 q => F.run A outer s H args us vs Q E h1 h2 h3 h4 (h _ _ _ _ q)⟩
theorem walk_fnC {l : PySem.W.OpenLaw} {q : Program} {loose : List Str} {XP : (Str → Option Value) → Heap → Prop} {YP : World → Heap → Prop} {d : DefRec} {K : Params → PySem.W.Frag} {x : Str}
    (hn : l.most = some 63) (hdf : d.params.defaults = []) (hY : ∀ (w : World) (h : Heap), YP w h → (K w.params).In h)
    (F : ∀ (w : World) (mg : Str → Option Value) (fa : Addr) (h : Heap), (K w.params).In h → h.Ns mainGlobals mg → mg d.name = some (.ref fa) →
      ∃ (fd : FuncData) (F0 : List D → Me → Res D), (∀ ns : List Int, ns.length ≤ 63 → ∃ m', F0 [.scr ns] [] = .ok (.bl true) m') ∧ (∀ (s : Shared) (u : Value), BindsTo s fd ⟨[u], []⟩ [(x, u)]) ∧
        ∀ base : Heap, (K w.params).In base → base.Ns mainGlobals mg → FnOk l.prog w (K w.params) mg base CX0 230 fa fd [x] (spF (K w.params) 1 F0)) :
    PySem.W.WalkO q loose XP YP l.row.toRowW d [] (fun f vs => PySem.call f vs) :=
  L2.walk_of (n := 63) (k := 230) (x := x) (CX := fun _ => CX0) (sp := fun w => spScr (K w.params)) hn (by decide) hdf ⟨rfl, by decide, by decide⟩ hY (fun w mg fa h h1 h2 h3 =>
    have ⟨fd, F0, L, b, G⟩ := F w mg fa h h1 h2 h3
    ⟨fd, b, fun base k1 k2 => fn_imp (G base k1 k2) fun vs H Q E z => spScr_imp L z⟩) (fun w H a ns hl _ hS => ⟨a, ns, rfl, hS, hl, fun _ => rfl⟩) fun _ _ _ _ _ z => z
end FL

set_option maxRecDepth 100000
namespace FL
open PySem PySem.Spec PyProof.Rows L2

section
variable {X : Cx} {W : WX} {o e : Expr} {apos cpos : Pos} {fo fe : ME}
/-! ### xs.extend(t), t a tuple -/
def rExtendT (K : PySem.W.Frag) : V → List V → Hp → VK → Prop := fun x vs H Q => ∃ l b xs zs, x = .ref l ∧ vs = [.ref b] ∧ H l = some (.lst xs) ∧ TupN K H b zs ∧ xs.length + zs.length ≤ sizeLine ∧ Q .non (upd H l (.lst (xs ++ zs)))
theorem tupN_obj {pins : List (Addr × Obj)} {σ : L2.St} {H : Hp} {s : Shared} {a : Addr} {ys : List V} (I : Inv X pins σ H s) (h : TupN X.K H a ys) : ∃ (its : List Value) (n : Nat), Vals ys its ∧ s.heap.get? a = some { cls := .type "tuple", dict := none, data := .seq its.toArray n, slots := #[] } := by
  rcases h with ⟨o, h, hd⟩ | ⟨o, its, n, hk, hc, hda, _, hv, hd⟩
  · obtain ⟨e, _, its, hv, ob, e2, hc, n, hda⟩ := I.hok a _ h
    rw [e] at e2; cases e2
    refine ⟨its, n, hv, ?_⟩
    rw [e]
    obtain ⟨cls, dict, data, slots⟩ := o
    obtain ⟨h1, h2⟩ := hd
    dsimp only at h1 h2 hc hda
    subst h1 h2 hc hda; rfl
  · refine ⟨its.toList, n, hv, ?_⟩
    rw [I.kIn _ o hk]
    obtain ⟨cls, dict, data, slots⟩ := o
    obtain ⟨h1, h2⟩ := hd
    dsimp only at h1 h2 hc hda
    subst h1 h2 hc hda
    rw [Array.toArray_toList]
theorem mt_extendT : MtM X "list.extend" (rExtendT X.K) := by
  intro pins s σ H x vs v us Q I rx rv h
  obtain ⟨l, b, xs, zs, rfl, rfl, hH, hB, hz, q⟩ := h
  cases rx
  obtain ⟨u, rfl, ru⟩ := rv.one
  cases ru
  obtain ⟨z, its, n, r, hl, e⟩ := I.lstM hH
  obtain ⟨its2, n2, r2, e2⟩ := tupN_obj I hB
  have hl2 := r2.length
  have hsz : its.toArray.size + its2.toArray.size ≤ sizeLine := by rw [List.size_toArray, List.size_toArray]; omega
  have hlong : ¬ (!its.toArray.isEmpty && Builtin.List.listTooLong (its.toArray.size + its2.toArray.size)) = true := by
    rw [notLongL hsz, Bool.and_false]
    exact Bool.false_ne_true
  refine call_meets F.slot_list_extend ⟨_, e, rfl⟩ F.entry_list_extend (F.args_list_extend_2 _ _)
    (AutoSeq1.list_extend_list_tuple_0 l its.toArray n b its2.toArray n2 hlong (by rw [List.size_toArray]; omega) (by omega)) ⟨e, e2, ?_⟩
  refine ⟨.non, _, I.lset (its' := its ++ its2) hH e (by simp) (r.append r2) ?_, rfl, q⟩
  rw [List.length_append]
  omega
def mExtendT (fo fe : ME) : ME := fun ρ m => (fo ρ m).bind fun d m => match d with
  | .ref i => match m[i]? with
    | some (.lst _) => (fe ρ m).bind fun y m => match m[i]?, y with
      | some (.lst xs), .tup ys => if xs.length + ys.length < 1000000 then .ok .non (m.set i (.lst (xs ++ ys))) else .no
      | _, _ => .no
    | _ => .no
  | _ => .no
theorem pd_extendT (ho : PD X W o fo) (he : PD X W e fe) (hbase : attributeBase o "extend" X.env (eval o X.env) = eval o X.env := by rfl)
    (hfew : ((backTo cpos (starEach [e] X.env)).all (fun x => !x.1) && (backToKw cpos (keywordEach [] X.env)).all (fun x => x.1.isSome)
      && decide (([e] : List Expr).length + ([] : List Keyword).length + (if ([] : List Keyword).isEmpty then 0 else 1) < 30)) = true := by rfl)
    (hline : (apos.endLine == cpos.line) = true := by rfl) (hs : starEach [e] X.env = (false, eval e X.env) :: starEach [] X.env := by rfl) (hplain : (backTo cpos (starEach [] X.env)).any (·.1) = false := by rfl) :
    PD X W (.Call (.Attribute o "extend" apos) [e] [] cpos) (mExtendT fo fe) :=
  PE.imp (pe_bm PySem.F.plainAttrs_list PySem.F.slot_list_extend PySem.F.type_list_extend mt_extendT ho (pa_cons he pa_nil hs) hbase hfew hline hs hplain) fun σ H Q ⟨μ, ρ, m, hH, hS, q⟩ => by
    refine seqR q hH hS fun d m1 v H1 μ1 e1 hH1 r1 hS1 q1 => ?_
    cases d with
    | ref i =>
      simp only [RVv, RV] at r1
      obtain ⟨a, rfl, ha⟩ := r1
      cases e2 : m1[i]? with
      | none => simp only [e2] at q1; exact q1.elim
      | some c =>
        cases c with
        | lst xs0 =>
          simp only [e2] at q1
          obtain ⟨a', ea, vs0, hs0, _, _⟩ := hH1.at' i _ e2
          rw [ha] at ea; cases ea
          refine ⟨.inl ⟨rfl, vs0, .of hs0⟩, ?_⟩
          refine seqR q1 hH1 hS1 fun y m2 z H2 μ2 e2' hH2 r2 hS2 q2 => ?_
          split at q2
          case h_2 => exact q2.elim
          rename_i xs ys e3
          split at q2
          case isFalse => exact q2.elim
          rename_i hl
          have ha2 := e2'.get ha
          obtain ⟨a', ea, vs, hs, hz, hr⟩ := hH2.at' i _ e3
          rw [ha2] at ea; cases ea
          obtain ⟨b, us, rfl, hb, hzb, hrb⟩ := rv_tup r2
          have hlen := hr.length
          have hlenb := hrb.length
          have ex := Ext.wr (o := .lst (vs ++ us)) hH2 ha2
          refine ⟨a, b, vs, us, rfl, rfl, hs, hb, by rw [sizeLine_eq]; omega, ?_⟩
          refine q2 _ _ μ2 ex (hH2.wr ha2 ⟨_, upd_same, ?_, RVs.ext ex _ _ (hr.append hrb)⟩) (by simp [RV])
          rw [List.length_append, sizeLine_eq]; omega
        | _ => simp only [e2] at q1; exact q1.elim
    | _ => exact q1.elim
/-! ### max of three -/
theorem vals3 {x y z : V} {us : List Value} (r : Vals [x, y, z] us) : ∃ a b c, us = [a, b, c] ∧ RelV x a ∧ RelV y b ∧ RelV z c := by
  cases r with
  | cons r1 r =>
    cases r with
    | cons r2 r =>
      cases r with
      | cons r3 r => cases r; exact ⟨_, _, _, rfl, r1, r2, r3⟩
def max3 (i j k : Int) : Int := if j > i then (if k > j then k else j) else (if k > i then k else i)
theorem call_max3 (hc : X.calm = true) : CallR X (.builtin "max") (fun xs H Q => ∃ i j k, xs = [.int i, .int j, .int k] ∧ Q (.int (max3 i j k)) H) := by
  intro pins s σ H xs us Q I r h
  obtain ⟨i, j, k, rfl, q⟩ := h
  obtain ⟨u, v, w', rfl, ⟨t, rfl⟩, ⟨t', rfl⟩, ⟨t'', rfl⟩⟩ := vals3 r
  refine max_three_ints (I.ok.hd hc) fun h' tk kk => ⟨_, H, I.kept kk, ?_, q⟩
  unfold max3
  by_cases h1 : j > i
  · rw [if_pos h1, if_pos h1]
    by_cases h2 : k > j
    · rw [if_pos h2, if_pos h2]; exact ⟨_, rfl⟩
    · rw [if_neg h2, if_neg h2]; exact ⟨_, rfl⟩
  · rw [if_neg h1, if_neg h1]
    by_cases h2 : k > i
    · rw [if_pos h2, if_pos h2]; exact ⟨_, rfl⟩
    · rw [if_neg h2, if_neg h2]; exact ⟨_, rfl⟩
def gMax3 (ds : List D) (m : Me) : Res D := match ds with
  | [.int i, .int j, .int k] => .ok (.int (max3 i j k)) m
  | _ => .no
theorem g_max3 {K : PySem.W.Frag} : GC K (fun xs H Q => ∃ i j k, xs = [.int i, .int j, .int k] ∧ Q (.int (max3 i j k)) H) gMax3 := fun Ex H μ m ds vs Q hH rr q => by
  unfold gMax3 at q
  split at q
  · simp only [RVs, RV] at rr
    obtain ⟨v, r, rfl, h1, v2, r2, rfl, h2, v3, r3, rfl, h3, rfl⟩ := rr
    subst h1 h2 h3
    exact ⟨_, _, _, rfl, q _ H μ .refl hH (by simp [RV])⟩
  · exact q.elim
end
end FL

set_option maxRecDepth 100000
namespace FL
open PySem PySem.Spec PyProof.Rows L2

/-! ### zip of two: ranges, lists, tuples -/
section
variable {prog : Program} {w : World} {A : Around} {E : Value → Shared → Prop} {s : Shared}
theorem nextOf_range_item {it : Addr} {x left step : Int} {Q : Value → Shared → Prop} (hit : IsRangeIter s.heap it x left step) (hleft : 0 < left)
    (hQ : ∀ h', IsRangeIter h' it (x + step) (left - 1) step → Heap.SameBut it s.heap h' → Q (.int x s.toks) { s with heap := h', toks := s.toks + 1 }) :
    wpAny (model prog w) A (Builtin.SmallTypes.nextOf (.ref it)) Q E s := by
  have hT : s.TypeIs (.ref it) "range_iterator" := ⟨_, hit, rfl⟩
  unfold Builtin.SmallTypes.nextOf
  refine wpAny_bind (wpAny_callSpecial?_slot (name := Str.ofString "__next__") hT F.slot_range_iterator_next
    (call_meets F.slot_range_iterator_next hT F.entry_range_iterator_next (F.args_range_iterator_next_1 _) (AutoRange.range_iterator___next___range_iterator_1 it x left step (by omega)) ⟨hit, ?_⟩))
  exact wpAny_pure (hQ _ (Heap.get?_update_self _ (Heap.get?_update_self _ hit rfl) rfl) ((Heap.SameBut.update ..).trans (Heap.SameBut.update ..)))
theorem nextOf_range_end {it : Addr} {x left step : Int} {Q : Value → Shared → Prop} (hh : A.handled = none) (hit : IsRangeIter s.heap it x left step) (hleft : left ≤ 0)
    (hE : ∀ h' e, Heap.ExtBut it s.heap h' → (∃ o, h'.get? e = some o ∧ o.cls = .type "StopIteration") → E (.ref e) { s with heap := h' }) :
    wpAny (model prog w) A (Builtin.SmallTypes.nextOf (.ref it)) Q E s := by
  have hT : s.TypeIs (.ref it) "range_iterator" := ⟨_, hit, rfl⟩
  unfold Builtin.SmallTypes.nextOf
  refine wpAny_bind (wpAny_callSpecial?_slot (name := Str.ofString "__next__") hT F.slot_range_iterator_next
    (wpAny_call_entry F.slot_range_iterator_next hT F.entry_range_iterator_next ?_ (F.args_range_iterator_next_1 _)))
  show wpAny _ _ (field (.ref it) 0 >>= _) _ _ s
  refine wpAny_bind (wpAny_field hit rfl (x := rawInt x) rfl ?_)
  show wpAny _ _ (field (.ref it) 1 >>= _) _ _ s
  refine wpAny_bind (wpAny_field hit rfl (x := rawInt left) rfl ?_)
  show wpAny _ _ (field (.ref it) 2 >>= _) _ _ s
  refine wpAny_bind (wpAny_field hit rfl (x := rawInt step) rfl ?_)
  show wpAny _ _ (if left ≤ 0 then _ else _) _ _ s
  rw [if_pos hleft]
  refine wpAny_bind (wpAny_rule ?_)
  refine wpAny_bind ?_
  show wpAny _ _ (newExc (.type "StopIteration") [] >>= _) _ _ _
  refine wpAny_bind ?_
  simp only [newExc, newTuple]
  refine wpAny_bind (wpAny_newObj_type ?_ (by size_fits))
  refine wpAny_bind (m := firstArgMember _ _) (wpAny_of_eq (a := Value.none) (by first | rfl | (simp only [firstArgMember]; rfl)) ?_)
  refine wpAny_newObj_type ?_ (by size_fits)
  simp only [raiseNew]
  refine wpAny_bind (wpAny_handled ?_)
  first | rw [show A.in1.handled = none from hh] | rw [hh]
  refine wpAny_bind (wpAny_pure (wpAny_throw ?_))
  exact hE _ _ (((Heap.ExtBut.refl it s.heap).push _).push _) ⟨_, Heap.get?_push_size _ rfl, rfl⟩
end
theorem draws_range {prog : Program} {w : World} {A : Around} (hh : A.handled = none) (it : Addr) (lo : Int) (n : Nat) :
    Draws prog w A it [it] n (fun i v => ∃ t, v = .int (lo + (i : Nat)) t) (fun i h => IsRangeIter h it (lo + (i : Nat)) ((n : Int) - (i : Nat)) 1) where
  live := fun _ _ st => ⟨_, st⟩
  frame := fun _ _ _ st hk => hk it (by simp) _ st
  item := fun i s Q E hi st hQ => by
    refine nextOf_range_item st (by omega) fun h' st' sb => hQ _ h' _ ⟨_, rfl⟩ ?_ sb
    have e1 : lo + ((i + 1 : Nat) : Int) = lo + (i : Nat) + 1 := by omega
    have e2 : (n : Int) - ((i + 1 : Nat) : Int) = (n : Int) - (i : Nat) - 1 := by omega
    rw [e1, e2]; exact st'
  done := fun s Q E st hE => nextOf_range_end hh st (by omega) hE

/-- what is zipped -/
inductive Src
  | rng (lo : Int) (n : Nat)
  | lst (a : Addr)
  | tup (a : Addr)
def Src.at : Src → Option Addr
  | .rng _ _ => none
  | .lst a => some a
  | .tup a => some a
def Src.st (k : Src) (it : Addr) (i : Nat) (h : Heap) : Prop := match k with
  | .rng lo n => IsRangeIter h it (lo + (i : Nat)) ((n : Int) - (i : Nat)) 1
  | .lst a => h.IsListIter it a i
  | .tup a => h.IsTupleIter it a i
def rngV (lo : Int) (n : Nat) : List V := (List.range n).map fun (k : Nat) => .int (lo + k)
def Src.has (K : PySem.W.Frag) (H : Hp) (k : Src) (vs : List V) : Prop := match k with
  | .rng lo n => vs = rngV lo n
  | .lst a => SqL K H a vs
  | .tup a => SqT K H a vs
theorem Src.st_obj {k : Src} {it : Addr} {i : Nat} {h : Heap} (s : k.st it i h) : ∃ o, h.get? it = some o ∧ ∀ v, o.data ≠ .cell v := by
  cases k with
  | rng lo n => exact ⟨_, s, fun v z => by have z' : Data.fields _ = Data.cell v := z; cases z'⟩
  | lst a => obtain ⟨o, e, _, d⟩ := s; exact ⟨o, e, fun v z => by rw [d] at z; cases z⟩
  | tup a => obtain ⟨o, e, _, d⟩ := s; exact ⟨o, e, fun v z => by rw [d] at z; cases z⟩
theorem Src.st_keep {k : Src} {it : Addr} {i : Nat} {h h' : Heap} (s : k.st it i h) (q : ∀ o, h.get? it = some o → h'.get? it = some o) : k.st it i h' := by
  cases k with
  | rng lo n => exact q _ s
  | lst a => exact s.at q
  | tup a => exact s.at q
theorem Src.has_inj {X : Cx} {pins : List (Addr × Obj)} {σ : L2.St} {H : Hp} {s : Shared} (I : Inv X pins σ H s) {k : Src} {xs ys : List V} (h1 : k.has X.K H xs) (h2 : k.has X.K H ys) : xs = ys := by
  cases k with
  | rng lo n => exact h1.trans h2.symm
  | lst a => exact I.list_inj h1 h2
  | tup a => exact I.tuple_inj h1 h2
theorem rel_at {vs : List V} {its : List Value} (rv : Vals vs its) {i : Nat} {x : Value} (h : its[i]? = some x) : ∃ v, vs[i]? = some v ∧ RelV v x := by
  have hi := (List.getElem?_eq_some_iff.mp h).1
  have hl := rv.length
  have hv : vs[i]? = some vs[i] := List.getElem?_eq_getElem (by omega)
  obtain ⟨u, hu, r⟩ := rv.get hv
  rw [h] at hu; cases hu
  exact ⟨_, hv, r⟩
theorem src_draws {X : Cx} {pins : List (Addr × Obj)} {σ : L2.St} {H : Hp} {s : Shared} {A : Around} (hh : A.handled = none) (I : Inv X pins σ H s) {k : Src} {it : Addr} (hk : k.at ≠ some it) {vs : List V} (hq : k.has X.K H vs) :
    ∃ (fp : List Addr) (P : Nat → Value → Prop) (S : Nat → Heap → Prop), Draws X.prog X.w A it fp vs.length P S ∧ it ∈ fp ∧ (∀ i h, S i h → k.st it i h) ∧ (∀ i, k.st it i s.heap → S i s.heap) ∧
      (∀ i x, P i x → ∃ v, vs[i]? = some v ∧ RelV v x) ∧ ∀ b ∈ fp, b = it ∨ k.at = some b := by
  cases k with
  | rng lo n =>
    cases hq
    have hl : (rngV lo n).length = n := by simp [rngV]
    rw [hl]
    have D := draws_range (prog := X.prog) (w := X.w) hh it lo n
    refine ⟨[it], fun i v => i < n ∧ ∃ t, v = .int (lo + (i : Nat)) t, _, ⟨D.live, D.frame, fun i s Q E hi st hQ => D.item i s Q E hi st fun x h' tk hx => hQ x h' tk ⟨hi, hx⟩, D.done⟩, by simp, fun _ _ h => h, fun _ h => h, ?_, fun b hb => .inl (by simpa using hb)⟩
    rintro i x ⟨hi, t, rfl⟩
    exact ⟨.int (lo + i), by simp [rngV, hi], t, rfl⟩
  | lst a =>
    obtain ⟨its, rv, p, _⟩ := I.list hq
    have hne : a ≠ it := fun z => hk (by rw [z]; rfl)
    have D := Draws.list (prog := X.prog) (w := X.w) hh it a hne its.toArray
    have hl : its.toArray.size = vs.length := by simpa using rv.length.symm
    rw [hl] at D
    refine ⟨_, _, _, D, by simp, fun _ _ h => h.1, fun _ h => ⟨h, p.isList⟩, fun i x hx => rel_at rv (by simpa using hx), fun b hb => ?_⟩
    simp only [List.mem_cons, List.not_mem_nil, or_false] at hb
    rcases hb with rfl | rfl
    · exact .inl rfl
    · exact .inr rfl
  | tup a =>
    obtain ⟨its, rv, p, _⟩ := I.tuple hq
    have hne : a ≠ it := fun z => hk (by rw [z]; rfl)
    have D := Draws.tuple (prog := X.prog) (w := X.w) hh it a hne its.toArray
    have hl : its.toArray.size = vs.length := by simpa using rv.length.symm
    rw [hl] at D
    refine ⟨_, _, _, D, by simp, fun _ _ h => h.1, fun _ h => ⟨h, p⟩, fun i x hx => rel_at rv (by simpa using hx), fun b hb => ?_⟩
    simp only [List.mem_cons, List.not_mem_nil, or_false] at hb
    rcases hb with rfl | rfl
    · exact .inl rfl
    · exact .inr rfl

/-- the pairs -/
def ItzS (K : PySem.W.Frag) (k1 k2 : Src) : It :=
  ⟨fun i H => ∃ (xs ys : List V), k1.has K H xs ∧ k2.has K H ys ∧ i < xs.length ∧ i < ys.length,
    fun i H v H' => ∃ (T : Addr) (o : Obj) (x y : V), v = .ref T ∧ H T = none ∧ PlO o ∧ H' = upd H T (.frz o (.tup [x, y])) ∧ (∀ xs, k1.has K H xs → xs[i]? = some x) ∧ ∀ ys, k2.has K H ys → ys[i]? = some y,
    fun i H => ∃ xs ys : List V, k1.has K H xs ∧ k2.has K H ys ∧ i ≤ xs.length ∧ i ≤ ys.length ∧ (i = xs.length ∨ i = ys.length)⟩
structure ZipAp (k1 k2 : Src) (z TI TO i1 i2 : Addr) : Prop where
  TIz : TI ≠ z
  TOz : TO ≠ z
  TITO : TI ≠ TO
  TIi1 : TI ≠ i1
  TIi2 : TI ≠ i2
  zi1 : z ≠ i1
  zi2 : z ≠ i2
  Ti1 : TO ≠ i1
  Ti2 : TO ≠ i2
  i12 : i1 ≠ i2
  a1 : ∀ a, k1.at = some a → a ≠ z ∧ a ≠ TO ∧ a ≠ i1 ∧ a ≠ i2
  a2 : ∀ a, k2.at = some a → a ≠ z ∧ a ≠ TO ∧ a ≠ i1 ∧ a ≠ i2
theorem ZipAp.sep {k1 k2 : Src} {z TI TO i1 i2 : Addr} (D : ZipAp k1 k2 z TI TO i1 i2) {fp1 fp2 : List Addr} (m1 : i1 ∈ fp1) (m2 : i2 ∈ fp2) (h1 : ∀ b ∈ fp1, b = i1 ∨ k1.at = some b) (h2 : ∀ b ∈ fp2, b = i2 ∨ k2.at = some b) : ZipSep2 z TI TO i1 i2 fp1 fp2 where
  TIz := D.TIz
  TOz := D.TOz
  TITO := D.TITO
  TIi1 := D.TIi1
  TIi2 := D.TIi2
  mem1 := m1
  mem2 := m2
  zf1 := fun h => by rcases h1 _ h with e | e; exact D.zi1 e; exact (D.a1 _ e).1 rfl
  Tf1 := fun h => by rcases h1 _ h with e | e; exact D.Ti1 e; exact (D.a1 _ e).2.1 rfl
  zf2 := fun h => by rcases h2 _ h with e | e; exact D.zi2 e; exact (D.a2 _ e).1 rfl
  Tf2 := fun h => by rcases h2 _ h with e | e; exact D.Ti2 e; exact (D.a2 _ e).2.1 rfl
  sep1_2 := fun h => by rcases h2 _ h with e | e; exact D.i12 e; exact (D.a2 _ e).2.2.1 rfl
  sep2_1 := fun h => by rcases h1 _ h with e | e; exact D.i12 e.symm; exact (D.a1 _ e).2.2.2 rfl
theorem turn_zipS {P : Program} {w : World} {K : PySem.W.Frag} {elts : List Expr} {kk : Nat} {tpos : Pos} {k1 k2 : Src} {z TI TO i1 i2 : Addr} (D : ZipAp k1 k2 z TI TO i1 i2) :
    Turn P w K (.Tuple elts kk tpos) (ItzS K k1 k2) [z, TI, TO, i1, i2] z (fun i h => IsZip h z TI TO .none ∧ IsTupOf2 h TI (.ref i1) (.ref i2) ∧ (∃ x y, IsTupOf2 h TO x y) ∧ k1.st i1 i h ∧ k2.st i2 i h) where
  mem := by simp
  obj := fun i h st c hc => by
    obtain ⟨hz, hTI, ⟨x, y, hTO⟩, s1, s2⟩ := st
    have e' : c = z ∨ c = TI ∨ c = TO ∨ c = i1 ∨ c = i2 := by simpa using hc
    rcases e' with q | q | q | q | q
    · rw [q]; exact ⟨_, hz, fun v q => nomatch q⟩
    · rw [q]; exact ⟨_, hTI, fun v q => nomatch q⟩
    · rw [q]; exact ⟨_, hTO, fun v q => nomatch q⟩
    · rw [q]; exact Src.st_obj s1
    · rw [q]; exact Src.st_obj s2
  keep := fun i h h' st k => by
    obtain ⟨hz, hTI, ⟨x, y, hTO⟩, s1, s2⟩ := st
    exact ⟨k z (by simp) _ hz, k TI (by simp) _ hTI, ⟨x, y, k TO (by simp) _ hTO⟩, Src.st_keep s1 fun o q => k i1 (by simp) o q, Src.st_keep s2 fun o q => k i2 (by simp) o q⟩
  item := by
    intro X hP hw hK hc i pins s σ H E I hf st hg
    subst hP hw hK
    obtain ⟨hz, hTI, ⟨x0, y0, hTO⟩, s1, s2⟩ := st
    obtain ⟨xs, ys, hqx, hqy, l1, l2⟩ := hg
    have hh : X.A.in1.handled = none := I.ok.hd hc
    obtain ⟨fp1, P1, S1, D1, m1, b1, c1, p1, f1⟩ := src_draws hh I (it := i1) (fun e => (D.a1 _ e).2.2.1 rfl) hqx
    obtain ⟨fp2, P2, S2, D2, m2, b2, c2, p2, f2⟩ := src_draws hh I (it := i2) (fun e => (D.a2 _ e).2.2.2 rfl) hqy
    have hzl : z < s.heap.objs.size := Heap.lt_size hz
    refine wpAny_pyNext_zipD2_item (D.sep m1 m2 f1 f2) D1 D2 hz hTI hTO (c1 i s1) (c2 i s2) l1 l2 fun x y h' tk hx hy z' TO' t1 t2 hT hsz hk => ?_
    obtain ⟨v1, hv1, r1⟩ := p1 _ _ hx
    obtain ⟨v2, hv2, r2⟩ := p2 _ _ hy
    refine ⟨_, rfl, wpAny_letOwnedTupleGo_zip (s := { s with heap := h', toks := tk }) z' fun h'' z'' sb => ?_⟩
    have hT2 : h''.get? s.heap.objs.size = some { cls := .type "tuple", data := .seq #[x, y] } := (sb.2 _ (Nat.ne_of_gt hzl)).trans hT
    have new : ObjOk X.prog X.w (upd H s.heap.objs.size (.frz { cls := .type "tuple", data := .seq #[x, y] } (.tup [v1, v2]))) h'' s.heap.objs.size (.frz { cls := .type "tuple", data := .seq #[x, y] } (.tup [v1, v2])) :=
      ⟨hT2, by show 2 ≤ sizeLine; decide, [x, y], .cons r1 (.cons r2 .nil), ⟨_, hT2, rfl, _, rfl⟩⟩
    have I1 : Inv X pins σ (upd H s.heap.objs.size (.frz { cls := .type "tuple", data := .seq #[x, y] } (.tup [v1, v2]))) { s with heap := h'', toks := tk } :=
      I.turnedNew (t' := tk) (ch := [z, TI, TO, i1, i2]) (fun c o hb q => (sb.2 c (fun q' => hb (by simp [q']))).trans (hk c o (fun q' => hb (by simp [q'])) (fun q' => hb (by simp [q'])) (fun q' => hb (by simp [q'])) (fun q' => hb (by simp [q'])) q)) hf (Nat.le_refl _) new
    refine ⟨.ref s.heap.objs.size, _, I1, rfl, ⟨_, _, v1, v2, rfl, I.hok.fresh (Nat.le_refl _), ⟨rfl, rfl⟩, rfl, fun l hl => by rw [Src.has_inj I hl hqx]; exact hv1, fun l hl => by rw [Src.has_inj I hl hqy]; exact hv2⟩, ⟨z'', ?_, ⟨x, y, ?_⟩, ?_, ?_⟩, fun c hcm => ?_⟩
    · exact (sb.2 _ D.TIz).trans (hk _ _ D.TIz D.TITO D.TIi1 D.TIi2 hTI)
    · exact (sb.2 _ D.TOz).trans TO'
    · exact Src.st_keep (b1 _ _ t1) fun o q => (sb.2 _ D.zi1.symm).trans q
    · exact Src.st_keep (b2 _ _ t2) fun o q => (sb.2 _ D.zi2.symm).trans q
    · have hlt : c < s.heap.objs.size := by
        have e' : c = z ∨ c = TI ∨ c = TO ∨ c = i1 ∨ c = i2 := by simpa using hcm
        rcases e' with q | q | q | q | q
        · rw [q]; exact hzl
        · rw [q]; exact Heap.lt_size hTI
        · rw [q]; exact Heap.lt_size hTO
        · rw [q]; obtain ⟨_, e1, _⟩ := Src.st_obj s1; exact Heap.lt_size e1
        · rw [q]; obtain ⟨_, e2, _⟩ := Src.st_obj s2; exact Heap.lt_size e2
      rw [upd_ne (Nat.ne_of_lt hlt)]
      exact (hf c hcm).1
  done := by
    intro X hP hw hK hc i pins s σ H E I hf st hg
    subst hP hw hK
    obtain ⟨hz, hTI, ⟨x0, y0, hTO⟩, s1, s2⟩ := st
    obtain ⟨xs, ys, hqx, hqy, l1, l2, hend⟩ := hg
    have hh : X.A.in1.handled = none := I.ok.hd hc
    obtain ⟨fp1, P1, S1, D1, m1, b1, c1, p1, f1⟩ := src_draws hh I (it := i1) (fun e => (D.a1 _ e).2.2.1 rfl) hqx
    obtain ⟨fp2, P2, S2, D2, m2, b2, c2, p2, f2⟩ := src_draws hh I (it := i2) (fun e => (D.a2 _ e).2.2.2 rfl) hqy
    refine wpAny_pyNext_zipD2_end (D.sep m1 m2 f1 f2) D1 D2 hz hTI hTO (c1 i s1) (c2 i s2) l1 l2 hend fun h' tk hk => ⟨rfl, I.turnedL (t' := tk) (ch := [z, TI, TO, i1, i2]) (fun c o hb q =>
      hk c o (fun q' => hb (by simp [q'])) (fun q' => hb (by simp [q'])) (fun q' => hb (by simp [q'])) (fun q' => hb (by simp [q'])) q) hf⟩
  self := fun A i s Q E st h => wpAny_pyIter_zip st.1 h

/-! ### zip begins -/
/-- the value of a source -/
def SrcV (K : PySem.W.Frag) (H : Hp) : Src → V → Prop
  | .rng lo n, x => ∃ (a : Addr) (o : Obj) (hi : Int), x = .ref a ∧ H a = some (.frz o (.rng lo hi)) ∧ n = (hi - lo).toNat ∧ (-(2 ^ 62) ≤ lo ∧ lo < 2 ^ 62 ∧ -(2 ^ 62) ≤ hi ∧ hi < 2 ^ 62)
  | .lst a, x => x = .ref a ∧ ∃ vs, SqL K H a vs
  | .tup a, x => x = .ref a ∧ ∃ vs, SqT K H a vs
theorem begins_rangeR {a : Addr} {lo hi : Int} (h1 : -(2 ^ 62) ≤ lo ∧ lo < 2 ^ 62 ∧ -(2 ^ 62) ≤ hi ∧ hi < 2 ^ 62) :
    Begins (.ref a) { cls := .type "range_iterator", data := .fields #[rawInt lo, rawInt (Builtin.Range.rangeSize lo hi 1), rawInt 1] } fun h => ∃ t u v, IsRange h a lo hi 1 t u v where
  iter := fun prog w A E s Q ⟨t, u, v, hr⟩ h => wpAny_pyIter_range hr (small_one h1.1 h1.2.1 h1.2.2.1 h1.2.2.2) h
  keeps := fun h h' ⟨t, u, v, hr⟩ hk => ⟨t, u, v, hk a _ hr⟩
  free := rfl
theorem src_begins {X : Cx} {pins : List (Addr × Obj)} {σ : L2.St} {H : Hp} {s : Shared} (I : Inv X pins σ H s) {k : Src} {x : V} {u : Value} (hv : SrcV X.K H k x) (r : RelV x u) :
    ∃ (o : Obj) (S : Heap → Prop), Begins u o S ∧ S s.heap ∧ (∀ it h, h.get? it = some o → k.st it 0 h) ∧ ∀ a, k.at = some a → a < s.heap.objs.size := by
  cases k with
  | rng lo n =>
    obtain ⟨a, o, hi, rfl, e, rfl, hb⟩ := hv
    obtain rfl : u = Value.ref a := r
    obtain ⟨_, t, u, v, hr⟩ := I.hok a _ e
    refine ⟨_, _, begins_rangeR hb, ⟨t, u, v, hr⟩, fun it h q => ?_, fun a z => nomatch z⟩
    have e1 : lo + ((0 : Nat) : Int) = lo := by simp
    have e2 : (((hi - lo).toNat : Nat) : Int) - ((0 : Nat) : Int) = Builtin.Range.rangeSize lo hi 1 := by rw [rangeSize_one]; split <;> omega
    show IsRangeIter _ _ (lo + ((0 : Nat) : Int)) ((((hi - lo).toNat : Nat) : Int) - ((0 : Nat) : Int)) 1
    rw [e1, e2]; exact q
  | lst a =>
    obtain ⟨rfl, vs, hq⟩ := hv
    obtain rfl : u = Value.ref a := r
    obtain ⟨its, rv, p, _⟩ := I.list hq
    exact ⟨_, _, begins_list a its.toArray, p.isList, fun it h q => ⟨_, q, rfl, rfl⟩, fun b z => by cases z; exact p.lt⟩
  | tup a =>
    obtain ⟨rfl, vs, hq⟩ := hv
    obtain rfl : u = Value.ref a := r
    obtain ⟨its, rv, p, _⟩ := I.tuple hq
    exact ⟨_, _, begins_tuple a its.toArray, p, fun it h q => ⟨_, q, rfl, rfl⟩, fun b z => by cases z; exact p.lt⟩
theorem ZipAp.mk' {k1 k2 : Src} (n : Nat) (h1 : ∀ a, k1.at = some a → a < n) (h2 : ∀ a, k2.at = some a → a < n) : ZipAp k1 k2 (n + 4) (n + 2) (n + 3) n (n + 1) := by
  have ne : ∀ {a b : Nat}, a ≠ b → @Ne Addr a b := fun h => h
  have lt : ∀ {a : Addr}, a < n → @Ne Addr a (n + 4) ∧ @Ne Addr a (n + 3) ∧ @Ne Addr a n ∧ @Ne Addr a (n + 1) := fun {a} h => by
    have h' : @LT.lt Nat _ a n := h
    exact ⟨ne (by omega), ne (by omega), ne (by omega), ne (by omega)⟩
  exact ⟨ne (by omega), ne (by omega), ne (by omega), ne (by omega), ne (by omega), ne (by omega), ne (by omega), ne (by omega), ne (by omega), ne (by omega), fun a z => lt (h1 a z), fun a z => lt (h2 a z)⟩
def iZipS (K : PySem.W.Frag) (ta : TA) : TI := fun σ H R => ta σ H fun vs H1 => ∃ (k1 k2 : Src) (x y : V), vs = [x, y] ∧ SrcV K H1 k1 x ∧ SrcV K H1 k2 y ∧ R (ItzS K k1 k2) H1
theorem pi_zipS {X : Cx} {e e2 : Expr} {ta : TA} {p pos tpos : Pos} {elts : List Expr} {kk : Nat} (hg : Gl X "zip") (hm : X.mg "zip" = none) (ha : PA X [e, e2] ta)
    (hs : starEach [e, e2] X.env = (false, eval e X.env) :: starEach [e2] X.env := by rfl) (hpl : (backTo pos (starEach [e2] X.env)).any (·.1) = false := by rfl) :
    PI X (.Tuple elts kk tpos) (.Call (.Name "zip" p) [e, e2] [] pos) (iZipS X.K ta) := by
  refine ⟨fun pins s σ H R I h => ?_⟩
  refine Call_ (ld_blt I hg hm PyProof.Rows.boot_zip (PyProof.Rows.callWith_type1 (thn (ha.run pos pins s σ H _ I h) fun us s1 ⟨vs, H1, I1, r1, q1⟩ => ?_) hs hpl))
  obtain ⟨k1, k2, x, y, ex, v1, v2, q⟩ := q1
  subst ex
  obtain ⟨u1, u2, rfl, ri, rj⟩ := vals2 r1
  obtain ⟨o1, S1, B1, h1, st1, lt1⟩ := src_begins I1 v1 ri
  obtain ⟨o2, S2, B2, h2, st2, lt2⟩ := src_begins I1 v2 rj
  have fresh5 : ∀ c, c ∈ [s1.heap.objs.size + 4, s1.heap.objs.size + 2, s1.heap.objs.size + 3, s1.heap.objs.size, s1.heap.objs.size + 1] → FpOk X pins H1 c := fun c hcm => by
    have e' : c = s1.heap.objs.size + 4 ∨ c = s1.heap.objs.size + 2 ∨ c = s1.heap.objs.size + 3 ∨ c = s1.heap.objs.size ∨ c = s1.heap.objs.size + 1 := by simpa using hcm
    have hle : s1.heap.objs.size ≤ c := by omega
    exact I1.fpOk hle (I1.hok.fresh hle)
  refine zip_begins2 B1 B2 h1 h2 fun h' hz hTI hTO g1 g2 hsz hk => wpAny_pyIter_zip hz ?_
  have I2 : Inv X pins σ H1 { s1 with heap := h' } := I1.kept (t' := s1.toks) hk
  exact ⟨s1.heap.objs.size + 4, [s1.heap.objs.size + 4, s1.heap.objs.size + 2, s1.heap.objs.size + 3, s1.heap.objs.size, s1.heap.objs.size + 1], _, _, H1, rfl, I2,
    turn_zipS (ZipAp.mk' _ lt1 lt2),
    ⟨hz, hTI, ⟨_, _, hTO⟩, st1 _ _ g1, st2 _ _ g2⟩, fresh5, q⟩
/-- a range as a value, kept as it is -/
theorem cr_rangeF1 {X : Cx} : CallR X (.type "range") (fun vs H Q => ∃ j, vs = [V.int j] ∧ ∀ p (o : Obj), H p = none → Q (.ref p) (upd H p (.frz o (.rng 0 j)))) := by
  intro pins s σ H vs us Q I r h
  obtain ⟨j, rfl, q⟩ := h
  obtain ⟨u1, rfl, rj⟩ := vals1 r
  obtain ⟨u, rfl⟩ := rj
  refine call_range_1 ⟨.ref s.heap.objs.size, upd H s.heap.objs.size (.frz { cls := .type "range", data := .fields #[.int 0 s.toks, .int j u, .int 1 (s.toks + 1)] } (.rng 0 j)), I.laid (t' := s.toks + 1 + 1) (fun b o e => Heap.get?_push_of_some _ e) (Nat.le_refl _) ?_, rfl, q _ _ (I.hok.fresh (Nat.le_refl _))⟩
  exact ⟨Heap.get?_push_size _ rfl, s.toks, u, s.toks + 1, Heap.get?_push_size _ rfl⟩
theorem cr_rangeF2 {X : Cx} : CallR X (.type "range") (fun vs H Q => ∃ i j, vs = [V.int i, V.int j] ∧ ∀ p (o : Obj), H p = none → Q (.ref p) (upd H p (.frz o (.rng i j)))) := by
  intro pins s σ H vs us Q I r h
  obtain ⟨i, j, rfl, q⟩ := h
  obtain ⟨u1, u2, rfl, ri, rj⟩ := vals2 r
  obtain ⟨t, rfl⟩ := ri
  obtain ⟨u, rfl⟩ := rj
  refine call_range_2 ⟨.ref s.heap.objs.size, upd H s.heap.objs.size (.frz { cls := .type "range", data := .fields #[.int i t, .int j u, .int 1 s.toks] } (.rng i j)), I.laid (t' := s.toks + 1) (fun b o e => Heap.get?_push_of_some _ e) (Nat.le_refl _) ?_, rfl, q _ _ (I.hok.fresh (Nat.le_refl _))⟩
  exact ⟨Heap.get?_push_size _ rfl, t, u, s.toks, Heap.get?_push_size _ rfl⟩
/-! ### what is zipped, as plain data -/
inductive ZD
  | rng (lo hi : Int)
  | dat (d : D)
def RZ (K : PySem.W.Frag) (H : Hp) (μ : Mu) : ZD → V → Prop
  | .rng lo hi, v => ∃ (a : Addr) (o : Obj), v = .ref a ∧ a ∉ μ.l ∧ H a = some (.frz o (.rng lo hi))
  | .dat d, v => RV K H μ d v
abbrev MZ := En → Me → Res ZD
abbrev PDZ (X : Cx) (W : WX) (e : Expr) (f : MZ) : Prop := PE X e (tR X.K W (RZ X.K) f)
def zDat (f : ME) : MZ := fun ρ m => (f ρ m).bind fun d m => .ok (.dat d) m
def zRng1 (f : MA) : MZ := fun ρ m => (f ρ m).bind fun ds m => match ds with
  | [.int j] => .ok (.rng 0 j) m
  | _ => .no
def zRng2 (f : MA) : MZ := fun ρ m => (f ρ m).bind fun ds m => match ds with
  | [.int i, .int j] => .ok (.rng i j) m
  | _ => .no
noncomputable def zItems (z : ZD) (m : Me) : Res (List D × (Me → Bool)) := match z with
  | .rng lo hi => if (hi ≤ 1000000 ∧ -1000000 ≤ hi) ∧ lo ≤ 1000000 ∧ -1000000 ≤ lo then .ok (rngL lo (hi - lo).toNat, gdY) m else .no
  | .dat d => asIt d m
noncomputable def iZip (f g : MZ) : MI := fun ρ m => (f ρ m).bind fun z m => (g ρ m).bind fun z' m => (zItems z m).bind fun p m => (zItems z' m).bind fun p' m => .ok (List.zipWith (fun a b => D.tup [a, b]) p.1 p'.1, fun m => p.2 m && p'.2 m) m
/-- a source gives these data as long as the heap goes on -/
def Zok (K : PySem.W.Frag) (H0 : Hp) (μ0 : Mu) (k : Src) (ds : List D) (gd : Me → Bool) : Prop := ∀ H μ m, Tr K H0 μ0 H μ → RH K H μ m → gd m = true → ∃ vs, k.has K H vs ∧ RVs K H μ ds vs
theorem RZ.ext {K : PySem.W.Frag} {H H' : Hp} {μ μ' : Mu} (e : Ext K H μ H' μ') {z : ZD} {v : V} (h : RZ K H μ z v) : RZ K H' μ' z v := by
  cases z with
  | rng lo hi =>
    obtain ⟨a, o, rfl, hn, ha⟩ := h
    obtain ⟨h1, n1⟩ := e.frz a o _ hn ha
    exact ⟨a, o, rfl, n1, h1⟩
  | dat d => exact RV.ext e d v h
theorem zok_of {K : PySem.W.Frag} {H : Hp} {μ : Mu} {m m' : Me} {z : ZD} {v : V} {p : List D × (Me → Bool)} (hH : RH K H μ m) (r : RZ K H μ z v) (e : zItems z m = .ok p m') : m' = m ∧ p.1.length ≤ sizeLine ∧ ∃ k : Src, SrcV K H k v ∧ Zok K H μ k p.1 p.2 := by
  cases z with
  | rng lo hi =>
    simp only [zItems] at e
    split at e
    · rename_i hb
      cases e
      obtain ⟨a, o, rfl, hn, ha⟩ := r
      refine ⟨rfl, rng_len (by omega), .rng lo (hi - lo).toNat, ⟨a, o, hi, rfl, ha, rfl, (small62 hb.2).1, (small62 hb.2).2, (small62 hb.1).1, (small62 hb.1).2⟩, fun H μ m _ _ _ => ⟨_, rfl, ?_⟩⟩
      have : ∀ (n : Nat) (l : List Nat), RVs K H μ (l.map fun (k : Nat) => D.int (lo + k)) (l.map fun (k : Nat) => V.int (lo + k)) := fun n l => by
        induction l with
        | nil => simp [RVs]
        | cons x l ih => simp only [List.map_cons, RVs, RV]; exact ⟨_, _, rfl, rfl, ih⟩
      exact this 0 _
    · cases e
  | dat d =>
    simp only [zItems] at e
    cases d with
    | tup ds =>
      cases e
      simp only [RZ, RV] at r
      obtain ⟨a, vs, rfl, hs, hz, hr⟩ := r
      exact ⟨rfl, by rw [hr.length]; exact hz, .tup a, ⟨rfl, vs, hs.sq⟩, fun H1 μ1 m1 x hH1 _ => ⟨vs, (x.tup a vs hs).sq, RVs.map x _ _ hr⟩⟩
    | lst ds =>
      cases e
      simp only [RZ, RV] at r
      obtain ⟨a, vs, rfl, hn, hs, hz, hr⟩ := r
      exact ⟨rfl, by rw [hr.length]; exact hz, .lst a, ⟨rfl, vs, .of hs⟩, fun H1 μ1 m1 x hH1 _ => ⟨vs, SqL.ext x hn hs, RVs.map x _ _ hr⟩⟩
    | ref i =>
      simp only [RZ, RV] at r
      obtain ⟨a, rfl, ha⟩ := r
      unfold asIt at e
      cases e2 : m[i]? with
      | none => simp only [e2] at e; cases e
      | some c =>
        cases c with
        | lst ds =>
          simp only [e2] at e
          cases e
          obtain ⟨a', e', vs, h1, hz, r2⟩ := hH.at' i _ e2
          rw [ha] at e'; cases e'
          refine ⟨rfl, by rw [r2.length]; exact hz, .lst a, ⟨rfl, vs, .of h1⟩, fun H1 μ1 m1 x hH1 g => ?_⟩
          have g' : m1[i]? = some (.lst ds) := @of_decide_eq_true _ (Classical.propDecidable _) g
          obtain ⟨a', e, vs, h1, hz, r1⟩ := hH1.at' i _ g'
          rw [x.get i a ha] at e; cases e
          exact ⟨vs, .of h1, r1⟩
        | _ => simp only [e2] at e; cases e
    | _ => simp only [asIt] at e; cases e
theorem goes_zip {K : PySem.W.Frag} {H : Hp} {μ : Mu} {k1 k2 : Src} {ds1 ds2 : List D} {g1 g2 : Me → Bool} (z1 : Zok K H μ k1 ds1 g1) (z2 : Zok K H μ k2 ds2 g2) :
    Goes1 K (ItzS K k1 k2) H μ (List.zipWith (fun a b => D.tup [a, b]) ds1 ds2) fun m => g1 m && g2 m := by
  intro H1 μ1 m x hH g
  simp only [Bool.and_eq_true] at g
  obtain ⟨vs1, h1, r1⟩ := z1 H1 μ1 m x hH g.1
  obtain ⟨vs2, h2, r2⟩ := z2 H1 μ1 m x hH g.2
  have l1 := r1.length
  have l2 := r2.length
  refine ⟨fun i d e => ?_, vs1, vs2, h1, h2, ?_, ?_, ?_⟩
  · obtain ⟨d1, d2, e1, e2, rfl⟩ := List.getElem?_zipWith_eq_some.mp e
    obtain ⟨v1, q1, w1⟩ := r1.get e1
    obtain ⟨v2, q2, w2⟩ := r2.get e2
    refine ⟨⟨vs1, vs2, h1, h2, (List.getElem?_eq_some_iff.mp q1).1, (List.getElem?_eq_some_iff.mp q2).1⟩, ?_⟩
    rintro v H' ⟨T, o, y1, y2, rfl, hT, po, rfl, f1, f2⟩
    have e1 := f1 vs1 h1
    have e2 := f2 vs2 h2
    rw [q1] at e1; cases e1
    rw [q2] at e2; cases e2
    have ex := Ext.new (o := .frz o (.tup [v1, v2])) hH hT
    refine ⟨ex, hH.new hT, ?_⟩
    simp only [RV]
    refine ⟨T, [v1, v2], rfl, .inl ⟨o, upd_same, po⟩, by rw [sizeLine_eq]; simp, ?_⟩
    simp only [RVs]
    exact ⟨_, _, rfl, RV.ext ex _ _ w1, _, _, rfl, RV.ext ex _ _ w2, rfl⟩
  all_goals simp only [List.length_zipWith]; omega
section
variable {X : Cx} {W : WX} {e e2 a b : Expr} {p pos tpos : Pos} {elts : List Expr} {kk : Nat}
theorem pdz_dat {f : ME} (h : PD X W e f) : PDZ X W e (zDat f) :=
  h.imp fun σ H Q ⟨μ, ρ, m, hH, hS, q⟩ => seqR q hH hS fun d m1 v H1 μ1 e1 hH1 r1 hS1 q1 => q1 v H1 μ1 .refl hH1 r1
theorem pdz_range1 {f : MA} (hg : Gl X "range") (hm : X.mg "range" = none) (ha : PDA X W 1 [a] f)
    (he : starEach [a] X.env = (false, eval a X.env) :: starEach [] X.env := by rfl) (hpl : (backTo pos (starEach [] X.env)).any (·.1) = false := by rfl) : PDZ X W (.Call (.Name "range" p) [a] [] pos) (zRng1 f) :=
  PE.imp (pe_callTy cr_rangeF1 hg hm boot_range ha (by decide) (by decide) he hpl) fun σ H Q ⟨μ, ρ, m, hH, hS, q⟩ => seqR q hH hS fun ds m1 vs H1 μ1 e1 hH1 r1 hS1 q1 => by
    split at q1
    · rename_i j
      refine ⟨j, ints1 r1.1, fun l o hp => ?_⟩
      have ex := Ext.new (o := .frz o (.rng 0 j)) hH1 hp
      exact q1 _ _ μ1 ex (hH1.new hp) ⟨l, o, rfl, hH1.notin hp, upd_same⟩
    · exact q1.elim
theorem pdz_range2 {f : MA} (hg : Gl X "range") (hm : X.mg "range" = none) (ha : PDA X W 2 [a, b] f)
    (he : starEach [a, b] X.env = (false, eval a X.env) :: starEach [b] X.env := by rfl) (hpl : (backTo pos (starEach [b] X.env)).any (·.1) = false := by rfl) : PDZ X W (.Call (.Name "range" p) [a, b] [] pos) (zRng2 f) :=
  PE.imp (pe_callTy cr_rangeF2 hg hm boot_range ha (by decide) (by decide) he hpl) fun σ H Q ⟨μ, ρ, m, hH, hS, q⟩ => seqR q hH hS fun ds m1 vs H1 μ1 e1 hH1 r1 hS1 q1 => by
    split at q1
    · rename_i i j
      refine ⟨i, j, ints2 r1.1, fun l o hp => ?_⟩
      have ex := Ext.new (o := .frz o (.rng i j)) hH1 hp
      exact q1 _ _ μ1 ex (hH1.new hp) ⟨l, o, rfl, hH1.notin hp, upd_same⟩
    · exact q1.elim
theorem pdi_zip {f g : MZ} (hg : Gl X "zip") (hm : X.mg "zip" = none) (h1 : PDZ X W e f) (h2 : PDZ X W e2 g)
    (hs : starEach [e, e2] X.env = (false, eval e X.env) :: starEach [e2] X.env := by rfl) (hs2 : starEach [e2] X.env = (false, eval e2 X.env) :: starEach [] X.env := by rfl) (hpl : (backTo pos (starEach [e2] X.env)).any (·.1) = false := by rfl) :
    PDI X W (.Tuple elts kk tpos) (.Call (.Name "zip" p) [e, e2] [] pos) (iZip f g) :=
  PI.imp (pi_zipS hg hm (pa_cons h1 (pa_cons h2 pa_nil hs2) hs) hs hpl) fun σ H R ⟨μ, ρ, m, hH, hS, q⟩ => by
    refine seqR q hH hS fun z m1 v H1 μ1 e1 hH1 r1 hS1 q1 => ?_
    refine seqR q1 hH1 hS1 fun z' m2 v' H2 μ2 e2 hH2 r2 hS2 q2 => ?_
    have r1 := r1.ext e2
    cases i1 : zItems z m2 with
    | no => rw [i1] at q2; exact q2.elim
    | exc x m => cases z with
      | rng lo hi => simp only [zItems] at i1; split at i1 <;> cases i1
      | dat d => cases d <;> simp only [zItems, asIt] at i1 <;> try cases i1
                 split at i1 <;> cases i1
    | ok p m3 =>
      obtain ⟨rfl, lz, k1, s1, o1⟩ := zok_of hH2 r1 i1
      rw [i1] at q2
      simp only [Res.bind_ok] at q2
      cases i2 : zItems z' m3 with
      | no => rw [i2] at q2; exact q2.elim
      | exc x m => cases z' with
        | rng lo hi => simp only [zItems] at i2; split at i2 <;> cases i2
        | dat d => cases d <;> simp only [zItems, asIt] at i2 <;> try cases i2
                   split at i2 <;> cases i2
      | ok p' m4 =>
        obtain ⟨rfl, lz2, k2, s2, o2⟩ := zok_of hH2 r2 i2
        rw [i2] at q2
        exact ⟨k1, k2, v, v', rfl, s1, s2, q2 _ H2 μ2 .refl hH2 ⟨by simp only [List.length_zipWith]; omega, goes_zip o1 o2⟩⟩
end
end FL

set_option maxRecDepth 100000
namespace FL
open PySem PySem.Spec PyProof.Rows L2

/-! ### lists that will change, made by a comprehension or of a range -/
theorem Tr.show {K : PySem.W.Frag} {H : Hp} {l h : List Addr} {A : Addr} : Tr K H ⟨l, A :: h⟩ H ⟨l ++ [A], h⟩ := by
  have key : ∀ {a}, a ∉ l ∧ a ∉ A :: h → a ∉ l ++ [A] ∧ a ∉ h := fun {a} n => ⟨fun z => by
    rcases List.mem_append.mp z with z | z
    · exact n.1 z
    · exact n.2 (by rw [List.mem_singleton.mp z]; exact List.mem_cons_self), fun z => n.2 (List.mem_cons_of_mem _ z)⟩
  exact ⟨fun i a q => by rw [List.getElem?_append_left (List.getElem?_eq_some_iff.mp q).1]; exact q, fun _ _ q => q, fun a u n _ q => ⟨q, key n⟩, fun a o u n q => ⟨q, key n⟩, fun a kvs n q => ⟨.inl q, key n⟩, fun _ _ _ q => q⟩
theorem RH.show {K : PySem.W.Frag} {H : Hp} {l h : List Addr} {A : Addr} {m : Me} {ys : List D} {vs : List V} (z2 : RH K H ⟨l, A :: h⟩ m) (z3 : H A = some (.lst vs)) (z4 : A ∉ l) (z5 : RVs K H ⟨l, A :: h⟩ ys vs) (z6 : vs.length ≤ sizeLine) (nh : A ∉ h) : RH K H ⟨l ++ [A], h⟩ (m ++ [.lst ys]) := by
  have hl : l.length = m.length := z2.len
  refine ⟨by simp [hl], List.nodup_append.mpr ⟨z2.nd, by simp, fun a ha b hb z => ?_⟩, fun i c q => ?_, fun a z => z2.hid a (List.mem_cons_of_mem _ z), fun a z y => ?_⟩
  · rw [List.mem_singleton.mp hb] at z; rw [z] at ha; exact z4 ha
  · by_cases hi : i < m.length
    · rw [List.getElem?_append_left hi] at q
      obtain ⟨a, e, rc⟩ := z2.at' i c q
      exact ⟨a, by rw [List.getElem?_append_left (by show i < l.length; omega)]; exact e, rc.map Tr.show rfl⟩
    · rw [List.getElem?_append_right (by omega)] at q
      have hi0 : i = m.length := by
        have := (List.getElem?_eq_some_iff.mp q).1
        simp at this; omega
      subst hi0
      simp at q; subst q
      exact ⟨A, by rw [List.getElem?_append_right (by omega), hl]; simp, vs, z3, z6, RVs.map Tr.show _ _ z5⟩
  · rcases List.mem_append.mp z with z | z
    · exact z2.sep a z (List.mem_cons_of_mem _ y)
    · rw [List.mem_singleton.mp z] at y; exact nh y
theorem Ext.show {K : PySem.W.Frag} {H H' : Hp} {μ : Mu} {l : List Addr} {A : Addr} (x : Ext K H μ H' ⟨l, μ.h⟩) (n : H A = none) : Ext K H μ H' ⟨l ++ [A], μ.h⟩ := by
  obtain ⟨p, e⟩ := x.pre
  have e' : l = μ.l ++ p := e
  have key : ∀ {a u}, H a = some u → a ∉ l → a ∉ l ++ [A] := fun {a u} q na z => by
    rcases List.mem_append.mp z with z | z
    · exact na z
    · rw [List.mem_singleton.mp z, n] at q; cases q
  exact ⟨⟨p ++ [A], by simp [e']⟩, rfl, x.tup, fun a u na d q => let ⟨h1, h2⟩ := x.dat a u na d q; ⟨h1, key q h2⟩, fun a o u na q => let ⟨h1, h2⟩ := x.frz a o u na q; ⟨h1, key q h2⟩, fun a kvs na q => let ⟨h1, h2⟩ := x.dct a kvs na q; ⟨h1, key q h2⟩, x.fz, x.xd⟩
def mCompC (it : MI) (vs : List Nat) (gt : D → En → Option En) (c : MT) (e : ME) : ME := fun ρ m => (it ρ m).bind fun p m => (noX (compF gt c e p.2 (wipeD ρ vs) p.1 m)).bind fun ys m => .ok (.ref m.length) (m ++ [.lst ys])
section
variable {X : Cx} {W : WX} {elt tg iter c e : Expr} {scope : Scope} {own : List (Str × Nat)} {pos p2 : Pos} {it : MI} {g : TG} {is : List Nat} {gt : D → En → Option En} {fc : MT} {fe : ME}
theorem comp_impC (ht : TgOk X.K g is gt) (hin : ∀ i ∈ is, i ∈ own.map (·.2)) : ∀ σ H Q, tR X.K W (RVv X.K) (mCompC it (own.map (·.2)) gt fc fe) σ H Q → tLc (tR X.K W (RIt X.K) it) g (tR X.K WF RVB fc) (tR X.K WF (RVv X.K) fe) (own.map (·.2)) σ H Q := by
  rintro σ H Q ⟨μ, ρ, m, hH, hS, q⟩
  refine seqR q hH hS fun pr m1 J H1 μ1 e1 hH1 r1 hS1 q1 => ?_
  obtain ⟨ds, gd⟩ := pr
  refine comp_core ht hin r1.1 r1.2 hH1 hS1 fun A nA => ?_
  dsimp only at q1
  cases e : compF gt fc fe gd (wipeD ρ (own.map (·.2))) ds m1 with
  | no => simp only [e] at q1; exact q1.elim
  | exc x mm => simp only [e] at q1; exact q1.elim
  | ok ys m2 =>
    simp only [e, noX_ok, Res.bind_ok] at q1
    intro H' l' vs z1 z2 z3 z4 z5 z6
    have z5' : RVs X.K H' ⟨l', A :: μ1.h⟩ ys vs := by simpa using z5
    refine q1 _ H' ⟨l' ++ [A], μ1.h⟩ (z1.show nA) (z2.show z3 z4 z5' z6 fun z => hH1.hid A z nA) ?_
    simp only [RV]
    have hl : l'.length = m2.length := z2.len
    exact ⟨A, rfl, by rw [List.getElem?_append_right (by omega), hl]; simp⟩
theorem pd_lcC {ifs : List Expr} (hc : X.calm = true) (hN : X.N.Nodup) (hi : PDI X W tg iter it) (ok : BlkOk X.N X.env.scope scope own) (ht : TgOk X.K g is gt) (hin : ∀ i ∈ is, i ∈ own.map (·.2))
    (hg : ∀ (s : Shared) (H : Hp) (C : Addr) (cl : List (Str × Addr)) (fp : List Addr), PG (X.blk s H scope (compEnvC scope cl C X.env) fp) tg g) (hif : ∀ (s : Shared) (H : Hp) (C : Addr) (cl : List (Str × Addr)) (fp : List Addr), PTs (X.blk s H scope (compEnvC scope cl C X.env) fp) ifs (tR X.K WF RVB fc))
    (he : ∀ (s : Shared) (H : Hp) (C : Addr) (cl : List (Str × Addr)) (fp : List Addr), PD (X.blk s H scope (compEnvC scope cl C X.env) fp) WF elt fe) (hs : ∀ x, foldedSetIterable iter X.env x = pure x := by intro _; rfl) :
    PD X W (.ListComp elt [⟨tg, iter, ifs, 0⟩] scope pos) (mCompC it (own.map (·.2)) gt fc fe) :=
  PE.imp (pe_lc hc hN hi ok hg hif he hs) (comp_impC ht hin)
theorem pds_setLcC {ifs : List Expr} (i : Nat) {y : Str} {py spos : Pos} (hc : X.calm = true) (hN : X.N.Nodup) (hi : PDI X W tg iter it) (ok : BlkOk X.N X.env.scope scope own) (ht : TgOk X.K g is gt) (hin : ∀ i ∈ is, i ∈ own.map (·.2))
    (hg : ∀ (s : Shared) (H : Hp) (C : Addr) (cl : List (Str × Addr)) (fp : List Addr), PG (X.blk s H scope (compEnvC scope cl C X.env) fp) tg g) (hif : ∀ (s : Shared) (H : Hp) (C : Addr) (cl : List (Str × Addr)) (fp : List Addr), PTs (X.blk s H scope (compEnvC scope cl C X.env) fp) ifs (tR X.K WF RVB fc))
    (he : ∀ (s : Shared) (H : Hp) (C : Addr) (cl : List (Str × Addr)) (fp : List Addr), PD (X.blk s H scope (compEnvC scope cl C X.env) fp) WF elt fe)
    (hsw : swapsWith (.ListComp elt [⟨tg, iter, ifs, 0⟩] scope pos) (some (.Name y py)) spos.line X.env = pure true) (hy : X.N[i]? = some y := by rfl) (hyl : X.env.scope.names.lookup y = some .local := by rfl) (hs : ∀ x, foldedSetIterable iter X.env x = pure x := by intro _; rfl) :
    PDS X W (.Assign [.Name y py] (.ListComp elt [⟨tg, iter, ifs, 0⟩] scope pos) spos) (sSet i (mCompC it (own.map (·.2)) gt fc fe)) :=
  PS.imp (ps_setLc hc hN hy hyl hsw hi ok hg hif he hs) fun D σ H ⟨μ, ρ, m, hH, hS, q⟩ =>
    comp_impC ht hin σ H _ (seqS q hH hS fun d m1 v H1 μ1 e1 hH1 r1 hS1 q1 => q1 _ H1 μ1 .refl hH1 (hS1.set r1 i))
def mLstRgC (g : En → Me → Res (Int × Int)) : ME := fun ρ m => (g ρ m).bind fun p m => if (p.1 ≤ 1000000 ∧ -1000000 ≤ p.1) ∧ p.2 ≤ 1000000 ∧ -1000000 ≤ p.2 then .ok (.ref m.length) (m ++ [.lst (rngL p.1 (p.2 - p.1).toNat)]) else .no
theorem pd_lstRgC {g : En → Me → Res (Int × Int)} (hc : X.calm = true) (hg : Gl X "list") (hm : X.mg "list" = none) (h : PDRg X W e g) (na : starEach [e] X.env = (false, eval e X.env) :: starEach [] X.env := by rfl) :
    PD X W (.Call (.Name "list" p2) [e] [] pos) (mLstRgC g) := by
  obtain ⟨te, h1, h2⟩ := h
  refine PE.imp (pe_listRg hc hg hm h1 na) fun σ H Q ⟨μ, ρ, m, hH, hS, q⟩ => h2 σ H _ ?_
  refine seqR q hH hS fun pr m1 pr' H1 μ1 e1 hH1 r1 hS1 q1 => ?_
  subst r1
  split at q1
  case isFalse => exact q1.elim
  rename_i hb
  refine ⟨rg_ok hb, fun p hp => ?_⟩
  have ex := Ext.cell (o := .lst (rgV pr.1 pr.2)) hH1 hp
  refine q1 _ _ (μ1.add p) ex (hH1.cell hp ⟨_, upd_same, rgV_line hb, rg_rv _ _⟩) ?_
  simp only [RV]
  exact ⟨p, rfl, by simp [Mu.add, ← hH1.len]⟩
end
end FL

set_option maxRecDepth 100000
namespace FL
open PySem PySem.Spec PyProof.Rows L2

/-! ### sorted(xs), xs a list or a tuple of data that can be compared -/
abbrev DV := V × PyData
def dvLe : DV → DV → Bool := PySem.W.dataLe false (fun b : DV => b.2)
def rSortG (K : PySem.W.Frag) : List V → Hp → VK → Prop := fun vs H Q => ∃ (a : Addr) (bs : List DV), vs = [.ref a] ∧ SqL K H a (bs.map (·.1)) ∧ (∀ b ∈ bs, Dp K H b.1 b.2 ∧ b.2.depth ≤ 60) ∧ PySem.W.AllAlike (bs.map (·.2)) ∧ PySem.W.Sortable (bs.map (·.2)) ∧ bs.length ≤ 1000000 ∧
  ∀ p, H p = none → Q (.ref p) (upd H p (.lst ((bs.mergeSort dvLe).map (·.1))))
theorem each_dv {X : Cx} {pins : List (Addr × Obj)} {σ : L2.St} {H : Hp} {s : Shared} (I : Inv X pins σ H s) : ∀ {vs : List Value} {bs : List DV}, Vals (bs.map (·.1)) vs → (∀ b ∈ bs, Dp X.K H b.1 b.2) → PySem.W.EachIs (fun u (b : DV) => RelV b.1 u) vs bs ∧ PySem.W.EachIs (fun u (b : DV) => ∃ as, Reads s.heap u b.2 as) vs bs
  | _, [], r, _ => by cases r; exact ⟨.nil, .nil⟩
  | _, b :: bs, r, h => by
    cases r with
    | cons r1 r2 =>
      obtain ⟨e1, e2⟩ := each_dv I r2 fun x hx => h x (List.mem_cons_of_mem _ hx)
      exact ⟨.cons r1 e1, .cons (Dp.reads I _ _ _ (h b List.mem_cons_self) r1) e2⟩
theorem each_vals : ∀ {vs : List Value} {bs : List DV}, PySem.W.EachIs (fun u (b : DV) => RelV b.1 u) vs bs → Vals (bs.map (·.1)) vs
  | _, _, .nil => .nil
  | _, _, .cons r t => .cons r (each_vals t)
theorem cr_sortedG {X : Cx} (hu : X.A.units + 64 < cLine) : CallR X (.builtin "sorted") (rSortG X.K) := by
  intro pins s σ H xs us Q I r h
  obtain ⟨a, bs, rfl, hq, hb, hal, hs, hz, q⟩ := h
  obtain ⟨u, rfl, ru⟩ := vals1 r
  cases ru
  obtain ⟨its, rv, p, _⟩ := I.list hq
  obtain ⟨e1, e2⟩ := each_dv I rv fun b hb' => (hb b hb').1
  refine PySem.W.sorted_data (enc := fun b : DV => b.2) p.isList e1 e2 hal hs (by rw [sizeLine_eq]; omega) (fun b hb' => by have := (hb b hb').2; omega) fun out hl eo => ?_
  obtain ⟨ep, he'⟩ := PyProof.Rows.sortedAll_at s.heap its out.toArray
  have hv := each_vals eo
  have hlen : ((bs.mergeSort dvLe).map (·.1)).length ≤ sizeLine := by rw [List.length_map, List.length_mergeSort, sizeLine_eq]; omega
  exact ⟨.ref _, upd H (s.heap.objs.size + 1) (.lst ((bs.mergeSort dvLe).map (·.1))), I.laid (t' := s.toks) (fun _ _ => PyProof.Rows.sortedAll_old) (Nat.le_succ _) ⟨hlen, out, ep, hv, he'⟩, rfl, q _ (I.hok.fresh (Nat.le_succ _))⟩

/-! ### sorted, as plain data -/
noncomputable def enc (d : D) : PyData := (py d).getD .none
noncomputable def leD : D → D → Bool := PySem.W.dataLe false enc
structure OkSort (xs : List D) : Prop where
  py : ∀ x ∈ xs, (py x).isSome = true ∧ (enc x).depth ≤ 60
  al : PySem.W.AllAlike (xs.map enc)
  st : PySem.W.Sortable (xs.map enc)
  few : xs.length ≤ 1000000
open Classical in
noncomputable def gSort (ds : List D) (m : Me) : Res D := match ds with
  | [d] => match lstV m d with
    | some xs => if OkSort xs then .ok (.lst (xs.mergeSort leD)) m else .no
    | none => .no
  | _ => .no
theorem rvs_pairs {K : PySem.W.Frag} {H : Hp} {μ : Mu} : ∀ {ts : List (D × V)}, (∀ t ∈ ts, RV K H μ t.1 t.2) → RVs K H μ (ts.map (·.1)) (ts.map (·.2))
  | [], _ => by simp [RVs]
  | t :: ts, h => by
    simp only [List.map_cons, RVs]
    exact ⟨_, _, rfl, h t List.mem_cons_self, rvs_pairs fun x hx => h x (List.mem_cons_of_mem _ hx)⟩
theorem pairs_rvs {K : PySem.W.Frag} {H : Hp} {μ : Mu} : ∀ {ds : List D} {vs : List V}, RVs K H μ ds vs → ∃ ts : List (D × V), ds = ts.map (·.1) ∧ vs = ts.map (·.2) ∧ ∀ t ∈ ts, RV K H μ t.1 t.2
  | [], vs, r => by simp only [RVs] at r; subst r; exact ⟨[], rfl, rfl, fun _ h => nomatch h⟩
  | d :: ds, vs, r => by
    simp only [RVs] at r
    obtain ⟨v, w, rfl, r1, r2⟩ := r
    obtain ⟨ts, rfl, rfl, h⟩ := pairs_rvs r2
    exact ⟨(d, v) :: ts, rfl, rfl, fun t ht => by
      rcases List.mem_cons.mp ht with rfl | ht
      · exact r1
      · exact h t ht⟩
theorem enc_dp {K : PySem.W.Frag} {H : Hp} {μ : Mu} {d : D} {v : V} (r : RV K H μ d v) (h : (py d).isSome = true) : Dp K H v (enc d) := by
  obtain ⟨p, hp⟩ := Option.isSome_iff_exists.mp h
  have : enc d = p := by unfold enc; rw [hp]; rfl
  rw [this]
  exact dp_of d v p r hp
theorem g_sort {K : PySem.W.Frag} : GC K (rSortG K) gSort := fun Ex H μ m ds vs Q hH rr q => by
  unfold gSort at q
  split at q
  case h_2 => exact q.elim
  rename_i d
  obtain ⟨v, rfl, r⟩ := rvs1 rr
  split at q
  case h_2 => exact q.elim
  rename_i xs e
  split at q
  case isFalse => exact q.elim
  rename_i ok
  obtain ⟨a, vs, rfl, ha, hz, hr⟩ := lstV_of hH r e
  obtain ⟨ts, rfl, rfl, ht⟩ := pairs_rvs hr
  refine ⟨a, ts.map fun t => (t.2, enc t.1), rfl, ?_, ?_, ?_, ?_, ?_, fun p hp => ?_⟩
  · rw [List.map_map]; exact .of ha
  · intro b hb
    obtain ⟨t, h1, rfl⟩ := List.mem_map.mp hb
    obtain ⟨h2, h3⟩ := ok.py t.1 (List.mem_map_of_mem h1)
    exact ⟨enc_dp (ht t h1) h2, h3⟩
  · have := ok.al; rw [List.map_map] at this ⊢; exact this
  · have := ok.st; rw [List.map_map] at this ⊢; exact this
  · have := ok.few; simpa using this
  · have e1 : ((ts.map fun t => (t.2, enc t.1)).mergeSort dvLe) = (ts.mergeSort fun a b => leD a.1 b.1).map fun t => (t.2, enc t.1) :=
      (List.map_mergeSort (r := fun a b : D × V => leD a.1 b.1) (f := fun t : D × V => (t.2, enc t.1)) (fun a _ b _ => rfl)).symm
    have e2 : (ts.map (·.1)).mergeSort leD = (ts.mergeSort fun a b => leD a.1 b.1).map (·.1) := (List.map_mergeSort (r := fun a b : D × V => leD a.1 b.1) (f := fun t : D × V => t.1) (fun a _ b _ => rfl)).symm
    rw [e1, List.map_map]
    have ex := Ext.new (o := .lst ((ts.mergeSort fun a b => leD a.1 b.1).map ((fun b : DV => b.1) ∘ fun t => (t.2, enc t.1)))) hH hp
    refine q _ _ μ ex (hH.new hp) ?_
    rw [e2]
    simp only [RV]
    refine ⟨p, _, rfl, ⟨hH.notin hp, fun z => hH.hid _ z hp⟩, upd_same, ?_, ?_⟩
    · rw [List.length_map, List.length_mergeSort]; rw [List.length_map] at hz; exact hz
    · exact RVs.ext ex _ _ (rvs_pairs fun t h => ht t ((List.mergeSort_perm ts _).mem_iff.mp h))

/-! ### sorted(d.items()) -/
/-- data without lists -/
def noL : PyData → Bool
  | .int _ => true
  | .str _ => true
  | .none => true
  | .bool _ => true
  | _ => false
theorem reads_noL {h : Heap} {v : Value} {d : PyData} {as : List Addr} (r : Reads h v d as) (n : noL d = true) : as = [] := by
  cases r <;> first | rfl | cases n
def encK : Key → PyData
  | .inl i => .int i
  | .inr x => .str x
/-- a pair of a dict as it is sorted -/
abbrev KVP := Key × V × PyData
def kvEnc (b : KVP) : PyData := .tuple [encK b.1, b.2.2]
def kvLe : KVP → KVP → Bool := PySem.W.dataLe false kvEnc
abbrev pairO (k v : Value) : Obj := { cls := .type "tuple", data := .seq #[k, v] }
def rSortIt2 (K : PySem.W.Frag) : V → Hp → VK → Prop := fun x H Q => ∃ (d : Addr) (bs : List KVP), x = .ref d ∧ Rd H d (.dK (bs.map fun b => (b.1, b.2.1))) ∧ (∀ b ∈ bs, Dp K H b.2.1 b.2.2 ∧ noL b.2.2 = true) ∧ PySem.W.AllAlike (bs.map kvEnc) ∧ bs.length ≤ 1000000 ∧
  ∀ (H' : Hp) (p : Addr) (ts : List (Addr × KVP)), (∀ b o, H b = some o → H' b = some o) → H p = none → ts.map (·.2) = bs.mergeSort kvLe → H' p = some (.lst (ts.map fun t => V.ref t.1)) → (∀ t ∈ ts, ∃ o, PlO o ∧ H t.1 = none ∧ H' t.1 = some (.frz o (.tup [kV t.2.1, t.2.2.1]))) → Q (.ref p) H'
theorem pairs_get {P : Program} {w : World} {es : List DictEntry} {vs : List (Key × Value)} (h : PySem.Pairs (mixKind P w) es vs) : ∀ {j : Nat} {en : DictEntry}, es[j]? = some en → ∃ k v, vs[j]? = some (k, v) ∧ keyIs k en.key = true ∧ en.val = v := by
  induction h with
  | nil => intro j en e; cases e
  | cons h1 h2 _ ih =>
    intro j en e
    cases j with
    | zero => cases e; exact ⟨_, _, rfl, h1, h2⟩
    | succ j => exact ih e
theorem takeF {X : Cx} {pins : List (Addr × Obj)} {σ : L2.St} {H0 : Hp} {s : Shared} {h' : Heap} {tk : Nat} (I0 : Inv X pins σ H0 s) : ∀ (L : List (Addr × Obj × List V)) (H1 : Hp), Inv X pins σ H1 { s with heap := h', toks := tk } → (L.map (·.1)).Nodup →
    (∀ a ∈ L, s.heap.objs.size ≤ a.1 ∧ H1 a.1 = none ∧ ∀ H2, ObjOk X.prog X.w H2 h' a.1 (.frz a.2.1 (.tup a.2.2))) →
    ∃ H2, Inv X pins σ H2 { s with heap := h', toks := tk } ∧ (∀ b o, H1 b = some o → H2 b = some o) ∧ ∀ a ∈ L, H2 a.1 = some (.frz a.2.1 (.tup a.2.2))
  | [], H1, I1, _, _ => ⟨H1, I1, fun _ _ e => e, fun _ h => nomatch h⟩
  | a :: L, H1, I1, hn, h => by
    obtain ⟨hb, hnone, ok⟩ := h a (List.mem_cons_self ..)
    have I2 : Inv X pins σ (upd H1 a.1 (.frz a.2.1 (.tup a.2.2))) { s with heap := h', toks := tk } := I1.take (h' := h') (t' := tk) (fun b ob _ e => e) (I0.fpOk hb hnone) (ok _)
    rw [List.map_cons, List.nodup_cons] at hn
    obtain ⟨H2, I3, g, q⟩ := takeF I0 L _ I2 hn.2 fun c hc => by
      obtain ⟨c1, c2, c3⟩ := h c (List.mem_cons_of_mem _ hc)
      exact ⟨c1, by rw [upd_ne (fun z => hn.1 (by rw [← z]; exact List.mem_map_of_mem hc))]; exact c2, c3⟩
    refine ⟨H2, I3, fun b o e => g b o (by rw [upd_ne (ne_of_none e hnone)]; exact e), fun c hc => ?_⟩
    rcases List.mem_cons.mp hc with rfl | hc
    · exact g _ _ upd_same
    · exact q c hc
theorem each_ix {α β : Type} {R : α → β → Prop} : ∀ {xs : List α} {ys : List β}, xs.length = ys.length → (∀ (j : Nat) (x : α) (y : β), xs[j]? = some x → ys[j]? = some y → R x y) → PySem.W.EachIs R xs ys
  | [], [], _, _ => .nil
  | [], _ :: _, h, _ => by simp at h
  | _ :: _, [], h, _ => by simp at h
  | x :: xs, y :: ys, h, f => .cons (f 0 x y rfl rfl) (each_ix (by simpa using h) fun j a b e1 e2 => f (j + 1) a b (by simpa using e1) (by simpa using e2))
theorem ix_each {α β : Type} {R : α → β → Prop} {xs : List α} {ys : List β} (e : PySem.W.EachIs R xs ys) : xs.length = ys.length ∧ ∀ (j : Nat) (y : β), ys[j]? = some y → ∃ x, xs[j]? = some x ∧ R x y := by
  induction e with
  | nil => exact ⟨rfl, fun j y h => by simp at h⟩
  | cons h _ ih =>
    refine ⟨by simp [ih.1], fun j y hy => ?_⟩
    cases j with
    | zero => cases hy; exact ⟨_, rfl, h⟩
    | succ j => exact ih.2 j y (by simpa using hy)
section
variable {X : Cx} {e : Expr} {te : TE} {p apos cpos pos : Pos}
theorem pe_sortItems (hc : X.calm = true) (hu : X.A.units + 64 < cLine) (he : PE X e te) (hg : Gl X "sorted") (hm : X.mg "sorted" = none) (hv : bootBuiltins "sorted" = some (.builtin "sorted")) (hbase : attributeBase e "items" X.env (eval e X.env) = eval e X.env := by rfl) (hline : (apos.endLine == cpos.line) = true := by rfl)
    (hs : starEach [.Call (.Attribute e "items" apos) [] [] cpos] X.env = (false, eval (.Call (.Attribute e "items" apos) [] [] cpos) X.env) :: starEach [] X.env := by rfl) :
    PE X (.Call (.Name "sorted" p) [.Call (.Attribute e "items" apos) [] [] cpos] [] pos) (fun σ H Q => te σ H fun x H1 => rSortIt2 X.K x H1 Q) := by
  refine ⟨fun pins s σ H Q I hq => ?_⟩
  refine wpAny_Call_Name_kw (ld_blt I hg hm hv ?_)
  refine PyProof.Rows.callWith_builtin1 ?_ hs rfl
  rw [hs]
  show wpAny _ _ (spliced ((false, eval (.Call (.Attribute e "items" apos) [] [] cpos) X.env) :: backTo pos (starEach [] X.env))) _ _ s
  refine Calls.spliced_cons ?_
  refine wpAny_Call_method (T := "dict") (id := "dict.items") hbase rfl hline F.plainAttrs_dict F.slot_dict_items F.type_dict_items (thn (he.run pins s σ H _ I hq) fun u s1 ⟨x, H1, I1, rx, d, bs, ex, hd, hb, hal, hfew, q⟩ => ?_)
  subst ex
  obtain rfl : u = Value.ref d := rx
  obtain ⟨hz, hs0, vs, kv, hdo⟩ := hd.ok I1.hok
  have lk : (bs.map fun b => (b.1, b.2.1)).length = vs.length := Paired.length kv
  rw [List.length_map] at lk
  have I2 : Inv X pins σ H1 { s1 with heap := s1.heap.push { cls := .type "dict_items", data := .fields #[.ref d] } } := I1.kept (t' := s1.toks) fun b ob q => Heap.get?_push_of_some _ q
  refine ⟨hdo.typeIs, hdo.mapOf.noDict, ?_⟩
  show wpAny _ _ (callWith cpos (.builtin "dict.items") [.ref d] [] []) _ X.xe s1
  refine method_meetsIn F.slot_dict_items F.entry_dict_items rfl (PySem.evalArgs_none ⟨rfl, hdo.typeIs, F.args_dict_items_1 _, _, meets_dict_items (mixKind X.prog X.w) d hs0, ⟨vs, hdo⟩, ?_⟩)
  refine Calls.spliced_nil ?_
  obtain ⟨o, es, ep, ho, hx, hdat, hko, hpr, hnd⟩ := hdo
  have les : es.size = vs.length := by
    have : ∀ {l : List DictEntry} {vs : List (Key × Value)}, PySem.Pairs (mixKind X.prog X.w) l vs → l.length = vs.length := fun {l vs} h => by induction h with | nil => rfl | cons _ _ _ ih => simp [ih]
    rw [← Array.length_toList]; exact this hpr
  generalize hS2 : ({ s1 with heap := s1.heap.push { cls := .type "dict_items", data := .fields #[.ref d] } } : Shared) = s2 at I2
  have hview : s2.heap.IsItemsView s1.heap.objs.size d := by rw [← hS2]; exact ⟨_, Heap.get?_push_size _ rfl, rfl, rfl⟩
  have hraw : DT.Raw s2.heap d es ep := by rw [← hS2]; exact DT.Raw.push ⟨o, ho, hx, hdat⟩ _
  refine DT.sortedI (es := es) (ep := ep) (I1.ok.hd hc) hview hraw (by rw [sizeLine_eq]; omega) fun h' tk as hk hlt hl hG => ?_
  have lak : as.length = bs.length := by omega
  have nd : as.Nodup := List.Pairwise.imp (fun h => Nat.ne_of_lt h) hG.rise
  have pr : ∀ (j : Nat) (b : Addr) (bk : KVP), as[j]? = some b → bs[j]? = some bk → ∃ en : DictEntry, es.toList[j]? = some en ∧ RelV (kV bk.1) en.key ∧ RelV bk.2.1 en.val ∧ keyIs bk.1 en.key = true ∧ h'.get? b = some (pairO en.key en.val) := by
    intro j b bk hj hbk
    obtain ⟨en, he, hg⟩ := hG.pairs j b hj
    have he' : es.toList[j]? = some en := by rw [Array.getElem?_toList]; exact he
    obtain ⟨k, v, hv1, hk1, hv2⟩ := pairs_get hpr he'
    obtain ⟨y, hy, r1, r2⟩ := LiI.paired_get kv (i := j) (x := (bk.1, bk.2.1)) (by rw [List.getElem?_map, hbk]; rfl)
    rw [hv1] at hy
    cases hy
    dsimp only at r1 r2
    subst r1
    exact ⟨en, he', relV_key hk1, by rw [hv2]; exact r2, hk1, hg⟩
  have hob : (h'.push { cls := .type "list", data := .seq (as.map Value.ref).toArray }).get? h'.objs.size = some (seqObj "list" (as.map Value.ref).toArray 0) := Heap.get?_push_size _ rfl
  have kb : ∀ b o, s2.heap.get? b = some o → (h'.push { cls := .type "list", data := .seq (as.map Value.ref).toArray }).get? b = some o := fun b o e => Heap.get?_push_of_some _ (hk b o e)
  have ne0 : ∀ b o, h'.get? b = some o → b ≠ h'.objs.size := fun b o e => Nat.ne_of_lt (Heap.lt_size e)
  generalize hh2 : h'.push { cls := .type "list", data := .seq (as.map Value.ref).toArray } = h2 at hob kb ⊢
  have ka : ∀ b o, h'.get? b = some o → h2.get? b = some o := fun b o e => by rw [← hh2]; exact Heap.get?_push_of_some _ e
  have zmap : (as.zip bs).map (·.2) = bs := List.map_snd_zip (by rw [lak]; exact Nat.le_refl _)
  have zget : ∀ (j : Nat) (z : Addr × KVP), (as.zip bs)[j]? = some z → as[j]? = some z.1 ∧ bs[j]? = some z.2 := fun j z h => List.getElem?_zip_eq_some.mp h
  have rdK : ∀ {k : Key} {u : Value} {h : Heap}, keyIs k u = true → Reads h u (encK k) [] := fun {k u h} hk => by
    rcases keyIs_shape hk with ⟨i, t, rfl, rfl⟩ | ⟨x, t, rfl, rfl⟩
    · exact .int _ _
    · exact .str _ _
  have k12 : ∀ b o, s1.heap.get? b = some o → s2.heap.get? b = some o := fun b o e => by rw [← hS2]; exact Heap.get?_push_of_some _ e
  have dep : ∀ b ∈ bs, (kvEnc b).depth ≤ 1 := fun b hb' => by
    have h1 : (encK b.1).depth = 0 := by cases b.1 <;> rfl
    have h2 : b.2.2.depth = 0 := by
      have := (hb b hb').2
      cases hp : b.2.2 <;> rw [hp] at this <;> first | rfl | cases this
    simp [kvEnc, PyData.depth, PyData.depthAll, h1, h2]
  refine PySem.W.list_sort_data (R := fun u (b : Addr × KVP) => u = .ref b.1) (enc := fun b : Addr × KVP => kvEnc b.2) (bs := as.zip bs) (s := { s2 with heap := h2, toks := tk }) hob ?_ ?_ ?_ ?_ ?_ ?_ fun out hlo eo => ?_
  · refine each_ix (by simp; omega) fun j u z e1 e2 => ?_
    obtain ⟨z1, z2⟩ := zget j z e2
    rw [List.getElem?_map, z1] at e1
    cases e1; rfl
  · refine each_ix (by simp; omega) fun j u z e1 e2 => ?_
    obtain ⟨z1, z2⟩ := zget j z e2
    rw [List.getElem?_map, z1] at e1
    cases e1
    obtain ⟨en, _, r1, r2, hk1, hg⟩ := pr j _ _ z1 z2
    obtain ⟨hd1, hn1⟩ := hb z.2 (List.mem_of_getElem? z2)
    obtain ⟨as2, rd⟩ := Dp.reads I1 _ _ _ hd1 r2
    have := reads_noL rd hn1
    subst this
    refine ⟨[] ++ ([] ++ []), .tuple (ka _ _ hg) rfl rfl (.cons (rdK hk1) (.cons (PyProof.Rows.Reads.keeps (fun b o e => kb b o (k12 b o e)) rd) .nil)), by simp⟩
  · have e : (as.zip bs).map (fun b : Addr × KVP => kvEnc b.2) = bs.map kvEnc := by
      rw [← zmap, List.map_map, zmap]; rfl
    rw [e]; exact hal
  · exact PySem.W.Sortable.tuples fun _ => ⟨_, _, rfl⟩
  · simp only [List.length_zip]; rw [sizeLine_eq]; omega
  · intro z hz'
    have := dep z.2 (by rw [← zmap]; exact List.mem_map_of_mem hz')
    have hu1 : X.A.in1.units = X.A.units + 1 := rfl
    omega
  · have kF : ∀ b o, b ≠ h'.objs.size → h2.get? b = some o → (sortedHeap h2 h'.objs.size (as.map Value.ref) (List.toArray out)).get? b = some o := fun b o hb e => (PyProof.Rows.sortedHeap_old hb (Heap.lt_size e)).trans e
    have kS : ∀ b o, s2.heap.get? b = some o → (sortedHeap h2 h'.objs.size (as.map Value.ref) (List.toArray out)).get? b = some o := fun b o e => kF b o (ne0 _ _ (hk b o e)) (kb b o e)
    obtain ⟨eF, heF⟩ := PyProof.Rows.sortedHeap_at (vs := as.map Value.ref) (out := List.toArray out) hob
    have J1 : Inv X pins σ H1 { s2 with heap := sortedHeap h2 h'.objs.size (as.map Value.ref) (List.toArray out), toks := tk } := I2.kept (t' := tk) kS
    have hn0 : H1 h'.objs.size = none := I2.hok.fresh (Nat.le_of_lt hlt)
    generalize hts : (as.zip bs).mergeSort (PySem.W.dataLe false fun b : Addr × KVP => kvEnc b.2) = ts at eo
    have hperm : ts.Perm (as.zip bs) := by rw [← hts]; exact List.mergeSort_perm _ _
    have hto : out = ts.map fun t => Value.ref t.1 := by
      obtain ⟨l1, l2⟩ := ix_each eo
      refine List.ext_getElem? fun j => ?_
      by_cases hj : j < ts.length
      · obtain ⟨u, h1, h2⟩ := l2 j _ (List.getElem?_eq_getElem hj)
        rw [h1, h2, List.getElem?_map, List.getElem?_eq_getElem hj]; rfl
      · rw [List.getElem?_eq_none (by omega), List.getElem?_eq_none (by simp; omega)]
    have hlen : (ts.map fun t => V.ref t.1).length ≤ sizeLine := by
      rw [List.length_map, hperm.length_eq, List.length_zip, sizeLine_eq]; omega
    have rv : Vals (ts.map fun t => V.ref t.1) out := by
      rw [hto]
      exact vals_maps (fun z : Addr × KVP => V.ref z.1) (fun z => Value.ref z.1) ts fun _ _ => rfl
    have J2 : Inv X pins σ (upd H1 h'.objs.size (.lst (ts.map fun t => V.ref t.1))) { s2 with heap := sortedHeap h2 h'.objs.size (as.map Value.ref) (List.toArray out), toks := tk } :=
      J1.take (h' := sortedHeap h2 h'.objs.size (as.map Value.ref) (List.toArray out)) (t' := tk) (fun b ob _ e => e) (I2.fpOk (Nat.le_of_lt hlt) hn0) ⟨hlen, out, eF, rv, heF⟩
    have lz : as.length = (es.toList.zip bs).length := by simp; omega
    have mget : ∀ x ∈ List.zipWith (fun (a : Addr) (p : DictEntry × KVP) => (a, pairO p.1.key p.1.val, [kV p.2.1, p.2.2.1])) as (es.toList.zip bs), ∃ (j : Nat) (a : Addr) (en : DictEntry) (bk : KVP), as[j]? = some a ∧ es.toList[j]? = some en ∧ bs[j]? = some bk ∧ x = (a, pairO en.key en.val, [kV bk.1, bk.2.1]) := fun x hx => by
      obtain ⟨j, hj⟩ := List.mem_iff_getElem?.mp hx
      obtain ⟨a, p, e1, e2, rfl⟩ := List.getElem?_zipWith_eq_some.mp hj
      obtain ⟨e3, e4⟩ := List.getElem?_zip_eq_some.mp e2
      exact ⟨j, a, p.1, p.2, e1, e3, e4, rfl⟩
    obtain ⟨H2, J3, g, qt⟩ := takeF I2 (List.zipWith (fun (a : Addr) (p : DictEntry × KVP) => (a, pairO p.1.key p.1.val, [kV p.2.1, p.2.2.1])) as (es.toList.zip bs)) _ J2 (by
        have : (List.zipWith (fun (a : Addr) (p : DictEntry × KVP) => (a, pairO p.1.key p.1.val, [kV p.2.1, p.2.2.1])) as (es.toList.zip bs)).map (·.1) = as := by
          rw [List.map_zipWith]
          refine List.ext_getElem? fun j => ?_
          rw [List.getElem?_zipWith]
          by_cases hj : j < as.length
          · rw [List.getElem?_eq_getElem hj, List.getElem?_eq_getElem (show j < (es.toList.zip bs).length by omega)]
          · rw [List.getElem?_eq_none (by omega)]
        rw [this]; exact nd) fun x hx => by
      obtain ⟨j, a, en, bk, e1, e2, e3, rfl⟩ := mget x hx
      obtain ⟨en', f1, r1, r2, hk1, hg⟩ := pr j a bk e1 e3
      rw [e2] at f1; cases f1
      refine ⟨Nat.le_of_lt (hG.above a (List.mem_of_getElem? e1)), ?_, fun H3 => ⟨kF _ _ (ne0 _ _ hg) (ka _ _ hg), by show 2 ≤ sizeLine; decide, [en.key, en.val], .cons r1 (.cons r2 .nil), ⟨_, kF _ _ (ne0 _ _ hg) (ka _ _ hg), rfl, 0, rfl⟩⟩⟩
      rw [upd_ne (ne0 _ _ hg)]
      exact I2.hok.fresh (Nat.le_of_lt (hG.above a (List.mem_of_getElem? e1)))
    refine ⟨.ref h'.objs.size, H2, J3, rfl, q H2 h'.objs.size ts (fun b o e => g b o (by rw [upd_ne (ne_of_none e hn0)]; exact e)) hn0 ?_ (g _ _ upd_same) fun t ht => ?_⟩
    · have := List.map_mergeSort (r := PySem.W.dataLe false fun b : Addr × KVP => kvEnc b.2) (s := kvLe) (f := fun x : Addr × KVP => x.2) (l := as.zip bs) (fun a _ b _ => rfl)
      rw [← hts, this, zmap]
    · obtain ⟨j, hj⟩ := List.mem_iff_getElem?.mp (hperm.mem_iff.mp ht)
      obtain ⟨z1, z2⟩ := zget j t hj
      obtain ⟨en, f1, r1, r2, hk1, hg⟩ := pr j t.1 t.2 z1 z2
      have hm : (t.1, pairO en.key en.val, [kV t.2.1, t.2.2.1]) ∈ List.zipWith (fun (a : Addr) (p : DictEntry × KVP) => (a, pairO p.1.key p.1.val, [kV p.2.1, p.2.2.1])) as (es.toList.zip bs) := by
        refine List.mem_iff_getElem?.mpr ⟨j, ?_⟩
        rw [List.getElem?_zipWith, z1, show (es.toList.zip bs)[j]? = some (en, t.2) from List.getElem?_zip_eq_some.mpr ⟨f1, z2⟩]
      exact ⟨_, ⟨rfl, rfl⟩, I2.hok.fresh (Nat.le_of_lt (hG.above t.1 (List.mem_of_getElem? z1))), qt _ hm⟩
end

/-! ### sorted(d.items()), as plain data -/
def kyD : Key → D
  | .inl i => .int i
  | .inr x => .str x
def prrD (p : Key × D) : D := .tup [kyD p.1, p.2]
structure OkSortIt (kvs : List (Key × D)) : Prop where
  py : ∀ p ∈ kvs, (py p.2).isSome = true ∧ noL (enc p.2) = true
  al : PySem.W.AllAlike ((kvs.map prrD).map enc)
  few : kvs.length ≤ 1000000
open Classical in
noncomputable def gSortIt (d : D) (m : Me) : Res D := match view m d with
  | .dct kvs => if OkSortIt kvs then .ok (.lst ((kvs.map prrD).mergeSort leD)) m else .no
  | _ => .no
theorem enc_pr {p : Key × D} (h : (py p.2).isSome = true) : enc (prrD p) = .tuple [encK p.1, enc p.2] := by
  obtain ⟨q, hq⟩ := Option.isSome_iff_exists.mp h
  have e : enc p.2 = q := by unfold enc; rw [hq]; rfl
  rw [e]
  unfold enc prrD
  obtain ⟨k, d⟩ := p
  cases k <;> simp [kyD, FL.py, FL.pyL, encK, hq] at hq ⊢ <;> simp [hq]
theorem Tr.keeps {K : PySem.W.Frag} {H H' : Hp} {μ : Mu} (k : ∀ b o, H b = some o → H' b = some o) : Tr K H μ H' μ :=
  ⟨fun _ _ q => q, fun a xs q => by
    rcases q with ⟨o', q, hd⟩ | q
    · exact .inl ⟨o', k _ _ q, hd⟩
    · exact .inr q, fun a u n _ q => ⟨k _ _ q, n⟩, fun a o u n q => ⟨k _ _ q, n⟩, fun a kvs n q => ⟨.inl (k _ _ q), n⟩, fun a o u q => k _ _ q⟩
theorem Ext.keeps {K : PySem.W.Frag} {H H' : Hp} {μ : Mu} (k : ∀ b o, H b = some o → H' b = some o) : Ext K H μ H' μ :=
  ⟨⟨[], by simp⟩, rfl, (Tr.keeps (K := K) (μ := μ) k).tup, fun a u na _ q => ⟨k _ _ q, na⟩, fun a o u na q => ⟨k _ _ q, na⟩, fun a kvs na q => ⟨.inl (k _ _ q), na⟩, fun a o u q => k _ _ q, fun a fs q => k _ _ q⟩
theorem RH.keeps {K : PySem.W.Frag} {H H' : Hp} {μ : Mu} {m : Me} (h : RH K H μ m) (k : ∀ b o, H b = some o → H' b = some o) : RH K H' μ m := by
  refine ⟨h.len, h.nd, fun i c q => ?_, fun a z => ?_, h.sep⟩
  · obtain ⟨a, e, r⟩ := h.at' i c q
    obtain ⟨u, hu, _⟩ := r.some
    exact ⟨a, e, r.map (Tr.keeps k) ((k _ _ hu).trans hu.symm)⟩
  · cases e : H a with
    | none => exact absurd e (h.hid a z)
    | some o => rw [k _ _ e]; exact fun w => nomatch w
theorem rvq_pairs {K : PySem.W.Frag} {H : Hp} {μ : Mu} : ∀ {kvs : List (Key × D)} {ps : List (Key × V)}, RVk K H μ kvs ps → ∃ ts : List (Key × D × V), kvs = ts.map (fun t => (t.1, t.2.1)) ∧ ps = ts.map (fun t => (t.1, t.2.2)) ∧ ∀ t ∈ ts, RV K H μ t.2.1 t.2.2
  | [], ps, r => by simp only [RVk] at r; subst r; exact ⟨[], rfl, rfl, fun _ h => nomatch h⟩
  | (k, d) :: kvs, ps, r => by
    simp only [RVk, RVp] at r
    obtain ⟨v, w, rfl, r1, r2⟩ := r
    obtain ⟨ts, rfl, rfl, h⟩ := rvq_pairs r2
    exact ⟨(k, d, v) :: ts, rfl, rfl, fun t ht => by
      rcases List.mem_cons.mp ht with rfl | ht
      · exact r1
      · exact h t ht⟩
section
variable {X : Cx} {W : WX} {e : Expr} {f : ME} {p apos cpos pos : Pos}
theorem pd_sortIt (hc : X.calm = true) (hu : X.A.units + 64 < cLine) (hg : Gl X "sorted") (hm : X.mg "sorted" = none) (hv : bootBuiltins "sorted" = some (.builtin "sorted")) (he : PD X W e f) (hbase : attributeBase e "items" X.env (eval e X.env) = eval e X.env := by rfl) (hline : (apos.endLine == cpos.line) = true := by rfl)
    (hs : starEach [.Call (.Attribute e "items" apos) [] [] cpos] X.env = (false, eval (.Call (.Attribute e "items" apos) [] [] cpos) X.env) :: starEach [] X.env := by rfl) :
    PD X W (.Call (.Name "sorted" p) [.Call (.Attribute e "items" apos) [] [] cpos] [] pos) (m1 gSortIt f) :=
  PE.imp (pe_sortItems hc hu he hg hm hv hbase hline hs) fun σ H Q ⟨μ, ρ, m, hH, hS, q⟩ => seqR q hH hS fun d m1 v H1 μ1 e1 hH1 r1 hS1 q1 => by
    unfold gSortIt at q1
    split at q1
    case h_2 => exact q1.elim
    rename_i kvs ev
    split at q1
    case isFalse => exact q1.elim
    rename_i ok
    obtain ⟨a, ps, rfl, hrd, hrk⟩ := view_dct hH1 r1 ev
    obtain ⟨ts, rfl, rfl, ht⟩ := rvq_pairs hrk
    have okt : ∀ t ∈ ts, (py t.2.1).isSome = true ∧ noL (enc t.2.1) = true := fun t h => ok.py (t.1, t.2.1) (List.mem_map_of_mem h)
    have hen : ∀ t ∈ ts, enc (prrD (t.1, t.2.1)) = kvEnc (t.1, t.2.2, enc t.2.1) := fun t h => enc_pr (p := (t.1, t.2.1)) (okt t h).1
    refine ⟨a, ts.map fun t => (t.1, t.2.2, enc t.2.1), rfl, by rw [List.map_map]; exact hrd, fun b hb => ?_, ?_, by have := ok.few; simpa using this, fun H' pl us hk hp hus hl hpr => ?_⟩
    · obtain ⟨t, h1, rfl⟩ := List.mem_map.mp hb
      exact ⟨enc_dp (ht t h1) (okt t h1).1, (okt t h1).2⟩
    · have := ok.al
      rw [List.map_map, List.map_map] at this
      rw [List.map_map]
      have e : ts.map (kvEnc ∘ fun t => (t.1, t.2.2, enc t.2.1)) = ts.map ((enc ∘ prrD) ∘ fun t => (t.1, t.2.1)) := List.map_congr_left fun t h => (hen t h).symm
      rw [e]; exact this
    · have ex := Ext.keeps (K := X.K) (μ := μ1) hk
      refine q1 _ H' μ1 ex (hH1.keeps hk) ?_
      have m1' : (ts.map fun t => (t.1, t.2.2, enc t.2.1)).mergeSort kvLe = (ts.mergeSort fun a b => leD (prrD (a.1, a.2.1)) (prrD (b.1, b.2.1))).map fun t => (t.1, t.2.2, enc t.2.1) :=
        (List.map_mergeSort (r := fun a b : Key × D × V => leD (prrD (a.1, a.2.1)) (prrD (b.1, b.2.1))) (f := fun t : Key × D × V => (t.1, t.2.2, enc t.2.1)) (fun a ha b hb => by
          show (!PySem.W.dataLt (enc (prrD (b.1, b.2.1))) (enc (prrD (a.1, a.2.1)))) = (!PySem.W.dataLt (kvEnc (b.1, b.2.2, enc b.2.1)) (kvEnc (a.1, a.2.2, enc a.2.1)))
          rw [hen a ha, hen b hb])).symm
      have m2' : ((ts.map fun t => (t.1, t.2.1)).map prrD).mergeSort leD = (ts.mergeSort fun a b => leD (prrD (a.1, a.2.1)) (prrD (b.1, b.2.1))).map fun t => prrD (t.1, t.2.1) := by
        rw [List.map_map]
        exact (List.map_mergeSort (r := fun a b : Key × D × V => leD (prrD (a.1, a.2.1)) (prrD (b.1, b.2.1))) (f := fun t : Key × D × V => prrD (t.1, t.2.1)) (fun a _ b _ => rfl)).symm
      rw [m1'] at hus
      rw [m2']
      have hsub : ∀ t ∈ (ts.mergeSort fun a b => leD (prrD (a.1, a.2.1)) (prrD (b.1, b.2.1))), t ∈ ts := fun t h => (List.mergeSort_perm ts _).mem_iff.mp h
      have hlen : (ts.mergeSort fun a b => leD (prrD (a.1, a.2.1)) (prrD (b.1, b.2.1))).length ≤ 1000000 := by rw [List.length_mergeSort]; have := ok.few; simpa using this
      generalize (ts.mergeSort fun a b => leD (prrD (a.1, a.2.1)) (prrD (b.1, b.2.1))) = zs at *
      simp only [RV]
      refine ⟨pl, _, rfl, ⟨hH1.notin hp, fun z => hH1.hid _ z hp⟩, hl, ?_, ?_⟩
      · have := congrArg List.length hus
        rw [List.length_map, List.length_map] at this
        rw [List.length_map, this, sizeLine_eq]; omega
      · have key : ∀ (us : List (Addr × KVP)) (zs : List (Key × D × V)), us.map (·.2) = zs.map (fun t => (t.1, t.2.2, enc t.2.1)) → (∀ t ∈ us, ∃ o, PlO o ∧ H1 t.1 = none ∧ H' t.1 = some (.frz o (.tup [kV t.2.1, t.2.2.1]))) → (∀ t ∈ zs, t ∈ ts) → RVs X.K H' μ1 (zs.map fun t => prrD (t.1, t.2.1)) (us.map fun t => V.ref t.1) := by
          intro us
          induction us with
          | nil => intro zs e _ _; cases zs with | nil => simp [RVs] | cons => simp at e
          | cons u us ih =>
            intro zs e h1 h2
            cases zs with
            | nil => simp at e
            | cons z zs =>
              simp only [List.map_cons, List.cons.injEq] at e
              simp only [List.map_cons, RVs]
              refine ⟨_, _, rfl, ?_, ih zs e.2 (fun t h => h1 t (List.mem_cons_of_mem _ h)) fun t h => h2 t (List.mem_cons_of_mem _ h)⟩
              obtain ⟨o, po, hn, hf⟩ := h1 u List.mem_cons_self
              rw [e.1] at hf
              have rz := RV.ext ex _ _ (ht z (h2 z List.mem_cons_self))
              simp only [prrD, RV]
              refine ⟨u.1, [kV z.1, z.2.2], rfl, .inl ⟨o, hf, po⟩, by rw [sizeLine_eq]; simp, ?_⟩
              simp only [RVs]
              refine ⟨_, _, rfl, ?_, _, _, rfl, rz, rfl⟩
              cases z.1 <;> simp [kyD, kV, RV]
        exact key us zs hus hpr hsub
end
end FL

set_option maxRecDepth 100000
namespace FL
open PySem PySem.Spec PyProof.Rows L2

/-! ### xs.count(y), flat items -/
def rCntF (K : PySem.W.Frag) : V → List V → Hp → VK → Prop := fun x xs H Q => ∃ (p : Addr) (ys : List V) (y : V), x = .ref p ∧ xs = [y] ∧ SqL K H p ys ∧ flatV y = true ∧ ys.all flatV = true ∧ Q (.int (ys.countP (fun z => eqV z y) : Nat)) H
theorem cnt_vals {y : V} : ∀ {ys : List V} {us : List Value}, Vals ys us → ys.all flatV = true → us.countP (eqU y) = ys.countP (fun z => eqV z y)
  | _, _, .nil, _ => rfl
  | z :: ys, u :: us, .cons r rr, h => by
    simp only [List.all_cons, Bool.and_eq_true] at h
    rw [List.countP_cons, List.countP_cons, cnt_vals rr h.2, eqU_of r h.1]
theorem mt_lcountF {X : Cx} : MtR X "list.count" (rCntF X.K) := by
  intro pins s σ H x xs v us Q I rx rxs h
  obtain ⟨p, ys, y, rfl, rfl, hs, fy, fys, q⟩ := h
  cases rx
  obtain ⟨u, rfl, ru⟩ := rxs.one
  obtain ⟨its, rv, ⟨⟨cls, dd, data, sl⟩, n, ho, hc, hdn, hd⟩, hlen⟩ := I.list hs
  simp only at hc hd
  subst hc hd
  refine call_meets PySem.F.slot_list_count ⟨_, ho, rfl⟩ PySem.F.entry_list_count (PySem.F.args_list_count_2 _ _)
    (SeqAt.list_countAt p its.toArray n dd sl u (eqU y)) ⟨ho, fun u' hu' => mem_eqAt ru fy rv fys u' (by simpa using hu'), ?_⟩
  refine ⟨.int (ys.countP (fun z => eqV z y) : Nat), H, I.tok _, ⟨s.toks, ?_⟩, q⟩
  show Value.int ((its.toArray.toList.countP (eqU y) : Nat) : Int) s.toks = _
  rw [show its.toArray.toList = its from rfl, cnt_vals rv fys]
def gCountF (d y : D) (m : Me) : Res D := match lstV m d with
  | some xs => if flatD y = true ∧ xs.all flatD = true then .ok (.int (xs.countP (fun z => eqF z y) : Nat)) m else .no
  | none => .no
def mCountF (fo fe : ME) : ME := fun ρ m => (fo ρ m).bind fun d m => match lstV m d with
  | some _ => (fe ρ m).bind fun y m => gCountF d y m
  | none => .no
theorem cnt_rv {K : PySem.W.Frag} {H : Hp} {μ : Mu} {y : D} {u : V} (ry : RV K H μ y u) (fy : flatD y = true) : ∀ {ds : List D} {vs : List V}, RVs K H μ ds vs → ds.all flatD = true → vs.countP (fun z => eqV z u) = ds.countP (fun z => eqF z y) ∧ vs.all flatV = true
  | [], vs, r, _ => by simp only [RVs] at r; subst r; exact ⟨rfl, rfl⟩
  | d :: ds, vs, r, f => by
    simp only [RVs] at r
    obtain ⟨v, w, rfl, r1, r2⟩ := r
    simp only [List.all_cons, Bool.and_eq_true] at f
    obtain ⟨h1, h2⟩ := cnt_rv ry fy r2 f.2
    refine ⟨?_, ?_⟩
    · rw [List.countP_cons, List.countP_cons, h1, eqF_eq r1 ry f.1 fy]
    · rw [List.all_cons, h2, ← flat_eq r1, f.1]; rfl
section
variable {X : Cx} {W : WX} {o e : Expr} {fo fe : ME} {apos cpos : Pos}
theorem pd_countF (ho : PD X W o fo) (he : PD X W e fe) (hbase : attributeBase o "count" X.env (eval o X.env) = eval o X.env := by rfl)
    (hfew : ((backTo cpos (starEach [e] X.env)).all (fun x => !x.1) && (backToKw cpos (keywordEach [] X.env)).all (fun x => x.1.isSome)
      && decide (([e] : List Expr).length + ([] : List Keyword).length + (if ([] : List Keyword).isEmpty then 0 else 1) < 30)) = true := by rfl)
    (hline : (apos.endLine == cpos.line) = true := by rfl) (hs : starEach [e] X.env = (false, eval e X.env) :: starEach [] X.env := by rfl) (hplain : (backTo cpos (starEach [] X.env)).any (·.1) = false := by rfl) :
    PD X W (.Call (.Attribute o "count" apos) [e] [] cpos) (mCountF fo fe) :=
  PE.imp (pe_bm PySem.F.plainAttrs_list PySem.F.slot_list_count PySem.F.type_list_count mt_lcountF ho (pa_cons he pa_nil hs) hbase hfew hline hs hplain) fun σ H Q ⟨μ, ρ, m, hH, hS, q⟩ => by
    refine seqR q hH hS fun d m1 v H1 μ1 e1 hH1 r1 hS1 q1 => ?_
    split at q1
    case h_2 => exact q1.elim
    rename_i xs0 e2
    obtain ⟨a, vs0, rfl, s1, _, _⟩ := lstV_of hH1 r1 e2
    refine ⟨.inl ⟨rfl, vs0, .of s1⟩, ?_⟩
    refine seqR q1 hH1 hS1 fun y m2 z H2 μ2 e2' hH2 r2 hS2 q2 => ?_
    unfold gCountF at q2
    split at q2
    case h_2 => exact q2.elim
    rename_i xs e4
    split at q2
    case isFalse => exact q2.elim
    rename_i hf
    obtain ⟨a', vs, ea, s2, _, w1⟩ := lstV_of hH2 (RV.ext e2' _ _ r1) e4
    cases ea
    obtain ⟨h1, h2⟩ := cnt_rv r2 hf.1 w1 hf.2
    exact ⟨a, vs, z, rfl, rfl, .of s2, by rw [← flat_eq r2]; exact hf.1, h2, q2 _ H2 μ2 .refl hH2 (by simp [RV, h1])⟩
end
end FL

set_option maxRecDepth 100000
namespace FL
open PySem PySem.Spec PyProof.Rows L2

/-! ### sets of texts, their entries in some order -/
def keyS (e : Int × Value) : Str := match e.2 with
  | .str x _ => x
  | _ => ⟨#[]⟩
def GdS (w : World) (e : Int × Value) : Prop := ∃ (x : Str) (tk : Tok), e = (hashStr w x, .str x tk)
structure SetS (w : World) (h : Heap) (a : Addr) (ks : List Str) (o : Obj) (es : Array (Int × Value)) (ep : Nat) (t : SetTable) : Prop where
  at' : h.get? a = some o
  ex : o.ExactSet
  dat : o.data = .set es ep t
  gd : ∀ e ∈ es.toList, GdS w e
  pm : (es.toList.map keyS).Perm ks
  nd : ks.Nodup
  few : ks.length < scanBound
  fit : t.fits es.size = true
  ris : Ris t.place.toList
  led : w.params.followText "set-order" = true ∨ t.led = true
def SetX (w : World) (h : Heap) (a : Addr) (ks : List Str) : Prop := ∃ o es ep t, SetS w h a ks o es ep t
section
variable {P : Program} {w : World} {A : Around} {E : Value → Shared → Prop} {s : Shared} {a : Addr} {ks : List Str}
theorem SetS.size {h : Heap} {o : Obj} {es : Array (Int × Value)} {ep : Nat} {t : SetTable} (R : SetS w h a ks o es ep t) : es.size = ks.length := by
  have := R.pm.length_eq
  rwa [List.length_map, Array.length_toList] at this
theorem gds_is {e : Int × Value} (g : GdS w e) (k : Str) : (strKind P w).is k e.2 = true ↔ k = keyS e := by
  obtain ⟨x, tk, rfl⟩ := g
  show Value.isStrOf k (.str x tk) = true ↔ k = x
  simp only [Value.isStrOf, beq_iff_eq]
  exact ⟨fun h => h.symm, fun h => h.symm⟩
theorem gds_elems {es : List (Int × Value)} (g : ∀ e ∈ es, GdS w e) : ElemsOf (strKind P w) es := fun e he => by
  obtain ⟨x, tk, rfl⟩ := g e he
  exact ⟨⟨x, by show Value.isStrOf x (.str x tk) = true; simp [Value.isStrOf], rfl⟩, rfl⟩
theorem SetS.put {o : Obj} {es es' : Array (Int × Value)} {ep : Nat} {t t' : SetTable} {ls : List Str} (R : SetS w s.heap a ks o es ep t) (g : ∀ e ∈ es'.toList, GdS w e) (p : (es'.toList.map keyS).Perm ls) (nd : ls.Nodup) (few : ls.length < scanBound)
    (hf : t'.fits es'.size = true) (hr : Ris t'.place.toList) (hl : t'.led = t.led) {Q : Unit → Shared → Prop}
    (hQ : ∀ h', Heap.SameBut a s.heap h' → SetS w h' a ls { o with data := .set es' (ep + 1) t' } es' (ep + 1) t' → Q () { s with heap := h' }) :
    wpAny (model P w) A (storeSet a es' t') Q E s := by
  have hsz : es'.size = ls.length := by have := p.length_eq; rwa [List.length_map, Array.length_toList] at this
  refine wpAny_storeSet_of R.at' R.dat ?_ (fits_of_scanBound (by rw [hsz]; exact few))
  exact hQ _ (Heap.SameBut.update s.heap a (Obj.putSet es' t')) ⟨store_at R.at' R.dat, R.ex, rfl, g, p, nd, few, hf, hr, R.led.imp id fun z => by rw [hl]; exact z⟩
/-- a text added -/
theorem setS_add {x : Str} {tk : Tok} {Q : Bool → Shared → Prop} (R : SetX w s.heap a ks) (room : ks.length + 1 < scanBound)
    (hQ : ∀ b h', Heap.SameBut a s.heap h' → SetX w h' a (if x ∈ ks then ks else ks ++ [x]) → Q b { s with heap := h' }) :
    wpAny (model P w) A (setAddHashed a (.str x tk) (hashStr w x)) Q E s := by
  obtain ⟨o, es, ep, t, R⟩ := R
  have hkey : (strKind P w).is x (.str x tk) = true := by show Value.isStrOf x (.str x tk) = true; simp [Value.isStrOf]
  have hsc : (Value.str x tk).scannable = true := rfl
  have hel : ElemsOf (strKind P w) es.toList := gds_elems R.gd
  have hb : es.size < scanBound := by rw [R.size]; exact R.few
  unfold setAddHashed setAddHashedIn
  refine wpAny_holding (wpAny_bind (wpAny_setState_of R.at' R.dat R.fit ?_))
  dsimp only
  rw [byScan_of hsc hb hel]
  simp only [↓reduceIte]
  unfold setAddByScan
  refine wpAny_bind ?_
  refine wpAny_bind (wpAny_rule ?_)
  refine wpAny_bind (wpAny_setScan_of (knd := strKind P w) hkey R.at' R.dat R.fit hel ?_)
  have hmem : x ∈ ks ↔ ∃ e ∈ es.toList, (strKind P w).is x e.2 = true := by
    rw [← R.pm.mem_iff, List.mem_map]
    constructor
    · rintro ⟨e, he, q⟩; exact ⟨e, he, (gds_is (R.gd e he) x).mpr q.symm⟩
    · rintro ⟨e, he, q⟩; exact ⟨e, he, ((gds_is (R.gd e he) x).mp q).symm⟩
  cases hfi : List.findIdx? (fun e => (strKind P w).is x e.2) es.toList with
  | some j =>
    dsimp only
    obtain ⟨hj, pj, _⟩ := List.findIdx?_eq_some_iff_getElem.mp hfi
    have hx : x ∈ ks := hmem.mpr ⟨es.toList[j], List.getElem_mem hj, pj⟩
    rw [if_pos hx] at hQ
    exact wpAny_pure (wpAny_pure (hQ _ s.heap (Heap.SameBut.refl a s.heap) ⟨_, _, _, _, R⟩))
  | none =>
    dsimp only
    have hx : x ∉ ks := fun z => by
      obtain ⟨e, he, q⟩ := hmem.mp z
      have c := List.findIdx?_eq_none_iff.mp hfi e he
      rw [q] at c
      cases c
    rw [if_neg hx] at hQ
    have hgw : ∀ (b : Bool) {s₁ : Shared} {Q' : Unit → Shared → Prop}, Q' () s₁ → wpAny (model P w) A (match b with | true => rule "set.scan.the-table-gave-way" | false => pure ()) Q' E s₁ :=
      fun b s₁ Q' q => by cases b <;> first | exact wpAny_pure q | exact wpAny_rule q
    have pm := layNew_perm t es (hashStr w x) (.str x tk)
    have hf1 := layNew_fits t es (hashStr w x) (.str x tk)
    have hr1 := layNew_ris t es (hashStr w x) (.str x tk) R.ris
    have hl1 := layNew_led t es (hashStr w x) (.str x tk)
    generalize hZ : layNew t es (hashStr w x) (.str x tk) = Z at pm hf1 hr1 hl1
    obtain ⟨es1, t1, wasDummy, gave⟩ := Z
    dsimp only at pm hf1 hr1 hl1 ⊢
    rw [Array.toList_push] at pm
    have pc : es1.toList.Perm ((hashStr w x, Value.str x tk) :: es.toList) := pm.trans (List.perm_append_singleton _ _)
    have g1 : ∀ e ∈ es1.toList, GdS w e := fun e he => by
      rcases List.mem_cons.mp (pc.mem_iff.mp he) with z | z
      · rw [z]; exact ⟨x, tk, rfl⟩
      · exact R.gd e z
    have pk : (es1.toList.map keyS).Perm (ks ++ [x]) := ((pc.map keyS).trans (R.pm.cons _)).trans (List.perm_append_singleton _ _).symm
    have nd1 : (ks ++ [x]).Nodup := by rw [List.nodup_append]; exact ⟨R.nd, by simp, fun a ha b hb e => by rw [List.mem_singleton.mp hb] at e; exact hx (e ▸ ha)⟩
    have few1 : (ks ++ [x]).length < scanBound := by rw [List.length_append]; exact room
    have hsz1 : es1.size = (ks ++ [x]).length := by have := pk.length_eq; rwa [List.length_map, Array.length_toList] at this
    refine wpAny_bind (hgw _ ?_)
    -- the rest, for the table kept plain or not
    have rest : ∀ (t2 : SetTable) (R' : Option Bool → Shared → Prop) (g : Bool → Sem Unit), (∀ (b : Bool) (s₁ : Shared) (Q' : Unit → Shared → Prop), Q' () s₁ → wpAny (model P w) A (g b) Q' E s₁) → t2.fits es1.size = true → Ris t2.place.toList → t2.led = t.led →
        (∀ h', Heap.SameBut a s.heap h' → SetX w h' a (ks ++ [x]) → R' (some true) { s with heap := h' }) →
        wpAny (model P w) A (do
          storeSet a es1 t2
          if (!wasDummy && t2.tooFull) = true then do
              g (relayAll t2 es1 (SetTable.grown es1.size)).2.2
              storeSet a (relayAll t2 es1 (SetTable.grown es1.size)).1 (relayAll t2 es1 (SetTable.grown es1.size)).2.1
              pure (some true)
            else pure (some true)) R' E s := fun t2 R' g hg f2 r2 l2 q => by
      refine wpAny_bind (R.put g1 pk nd1 few1 f2 r2 l2 fun h' sb R2 => ?_)
      split
      · have pm2 := relayAll_perm t2 es1 (SetTable.grown es1.size)
        have hf3 := relayAll_fits t2 es1 (SetTable.grown es1.size)
        have hr3 := relayAll_ris t2 es1 (SetTable.grown es1.size)
        have hl3 := relayAll_led t2 es1 (SetTable.grown es1.size)
        refine wpAny_bind (hg _ _ _ (wpAny_bind (R2.put (s := { s with heap := h' }) (fun e he => g1 e (pm2.mem_iff.mp he)) ((pm2.map keyS).trans pk) nd1 few1 hf3 hr3 hl3 fun h2 sb2 R3 => wpAny_pure (q h2 (sb.trans sb2) ⟨_, _, _, _, R3⟩))))
      · exact wpAny_pure (q h' sb ⟨_, _, _, _, R2⟩)
    split
    · refine wpAny_bind ?_
      rw [hashByValue_scannable 8 hsc]
      refine wpAny_pure ?_
      refine rest _ _ _ ?_ ?_ ?_ ?_ ?_
      · intro b s₁ Q' q; cases b <;> first | exact wpAny_pure q | exact wpAny_rule q
      · first | (split <;> first | exact hf1 | exact SetTable.fits_plain_off hf1) | exact hf1
      · first | (split <;> exact hr1) | exact hr1
      · first | (split <;> exact hl1) | exact hl1
      · intro h' sb r; dsimp only; exact wpAny_pure (hQ _ h' sb r)
    · refine wpAny_bind (wpAny_pure ?_)
      simp only [↓reduceIte]
      refine rest _ _ _ ?_ hf1 hr1 hl1 ?_
      · intro b s₁ Q' q; cases b <;> first | exact wpAny_pure q | exact wpAny_rule q
      · intro h' sb r; dsimp only; exact wpAny_pure (hQ _ h' sb r)
end
/-! ### set(xs), xs a list of texts -/
def addS (ks : List Str) (x : Str) : List Str := if x ∈ ks then ks else ks ++ [x]
def dd (xs : List Str) : List Str := xs.foldl addS []
theorem dd_snoc (xs : List Str) (x : Str) : dd (xs ++ [x]) = addS (dd xs) x := by simp [dd]
theorem addS_len (ks : List Str) (x : Str) : (addS ks x).length ≤ ks.length + 1 := by unfold addS; split <;> simp
theorem dd_mem (x : Str) (xs : List Str) : x ∈ dd xs ↔ x ∈ xs := by
  have key : ∀ (xs ks : List Str), x ∈ xs.foldl addS ks ↔ x ∈ ks ∨ x ∈ xs := by
    intro xs
    induction xs with
    | nil => simp
    | cons a l ih =>
      intro ks
      rw [List.foldl_cons, ih, List.mem_cons]
      have : x ∈ addS ks a ↔ x ∈ ks ∨ x = a := by
        unfold addS
        split
        · constructor
          · exact .inl
          · rintro (h | rfl)
            · exact h
            · assumption
        · simp
      rw [this, or_assoc]
  simpa [dd] using key xs []
theorem dd_len (xs : List Str) : (dd xs).length ≤ xs.length := by
  have key : ∀ (xs ks : List Str), (xs.foldl addS ks).length ≤ ks.length + xs.length := by
    intro xs
    induction xs with
    | nil => simp
    | cons a l ih => intro ks; have := ih (addS ks a); have := addS_len ks a; simp only [List.foldl_cons, List.length_cons]; omega
  simpa [dd] using key xs []
theorem dd_nodup (xs : List Str) : (dd xs).Nodup := by
  have key : ∀ (xs ks : List Str), ks.Nodup → (xs.foldl addS ks).Nodup := by
    intro xs
    induction xs with
    | nil => intro ks h; exact h
    | cons a l ih =>
      intro ks h
      refine ih _ ?_
      unfold addS
      split
      · exact h
      · rename_i hn
        rw [List.nodup_append]; exact ⟨h, by simp, fun b hb c hc e => by rw [List.mem_singleton.mp hc] at e; exact hn (e ▸ hb)⟩
  exact key xs [] List.nodup_nil
theorem SetX.keep {w : World} {h h' : Heap} {a : Addr} {ks : List Str} (R : SetX w h a ks) (k : ∀ o, h.get? a = some o → h'.get? a = some o) : SetX w h' a ks := by
  obtain ⟨o, es, ep, t, R⟩ := R
  exact ⟨o, es, ep, t, k o R.at', R.ex, R.dat, R.gd, R.pm, R.nd, R.few, R.fit, R.ris, R.led⟩
theorem setX_new {w : World} {h : Heap} {a : Addr} (ho : h.get? a = some (nSet w)) : SetX w h a [] :=
  ⟨_, #[], 0, _, ho, ⟨rfl, rfl, rfl⟩, rfl, fun e he => by simp at he, by simp, List.nodup_nil, by decide, rfl, List.Pairwise.nil, by
    show _ ∨ (!w.params.followText "set-order") = true
    cases w.params.followText "set-order"
    · exact .inr rfl
    · exact .inl rfl⟩
section
variable {P : Program} {w : World} {A : Around} {E : Value → Shared → Prop} {s : Shared}
theorem set_update_strs {I : Addr} {fp wr : List Addr} {G : Array GenState → Array GenState → Prop} {n : Nat} {Pv : Nat → Value → Prop} {St : Nat → Shared → Prop} {R : Result → Shared → Prop}
    (W : WalksS P w A.in1 I fp wr G n Pv St) (S : Addr) (hSf : S ∉ fp) (xs : List Str) (hn : n = xs.length) (hb : xs.length + 1 < scanBound) (hval : ∀ i v, Pv i v → ∃ x t, xs[i]? = some x ∧ v = .str x t)
    (hR : ∀ s', Moved (S :: wr) G s s' → SetX w s'.heap S (dd xs) → R (.ok (.ret .none)) s') (hst : St 0 s) (hS : SetX w s.heap S []) :
    codeAny (model P w) A (.builtin "set.update.loop" ⟨[.ref S, .ref I], []⟩) R s := by
  have hSw : S ∉ wr := fun h => hSf (W.sub _ h)
  have hsub : ∀ b ∈ wr, b ∈ S :: wr := fun b hb => List.mem_cons_of_mem _ hb
  have key : ∀ (k i : Nat) (s1 : Shared), n - i = k → i ≤ n → St i s1 → SetX w s1.heap S (dd (xs.take i)) → (∀ s', Moved (S :: wr) G s1 s' → SetX w s'.heap S (dd xs) → R (.ok (.ret .none)) s') →
      codeAny (model P w) A (.builtin "set.update.loop" ⟨[.ref S, .ref I], []⟩) R s1 := by
    intro k
    induction k with
    | zero =>
      intro i s1 hk hi hst hS hR
      have hin : i = n := by omega
      subst hin
      refine codeAny_builtin F.entry_set_update_loop ?_
      rw [Around.under_plainId F.plain_set_update_loop _]
      show wpAny _ A.in1 (pyNext (.ref I) >>= _) _ _ s1
      refine wpAny_bind (W.done s1 _ _ hst fun s' hm => ?_)
      rw [List.take_of_length_le (by omega)] at hS
      exact wpAny_pure (hR s' (hm.mono hsub) (hS.keep fun o e => hm.heap S o hSw e))
    | succ k ih =>
      intro i s1 hk hi hst hS hR
      have hlt : i < n := by omega
      refine codeAny_builtin F.entry_set_update_loop ?_
      rw [Around.under_plainId F.plain_set_update_loop _]
      show wpAny _ A.in1 (pyNext (.ref I) >>= _) _ _ s1
      refine wpAny_bind (W.item i s1 _ _ hlt hst fun v s' hP hst' hm => ?_)
      obtain ⟨x, t, hz, rfl⟩ := hval i v hP
      have hS' := hS.keep (h' := s'.heap) fun o e => hm.heap S o hSw e
      show wpAny _ A.in1 (holding [Value.str x t] (setAdd S (.str x t)) >>= _) _ _ s'
      refine wpAny_bind (wpAny_holding ?_)
      unfold setAdd
      refine wpAny_holding ?_
      refine wpAny_bind ((strKind P w).pyHash (k := x) (strKind_is P w x t) ?_)
      have hl : (dd (xs.take i)).length + 1 < scanBound := by have := dd_len (xs.take i); rw [List.length_take] at this; omega
      refine setS_add (s := { s' with toks := s'.toks + 1 }) hS' hl fun b h' hsb hS2 => ?_
      have hS3 : SetX w h' S (dd (xs.take (i + 1))) := by
        rw [List.take_add_one, hz]
        show SetX w h' S (dd (xs.take i ++ [x]))
        rw [dd_snoc]; exact hS2
      refine wpAny_pure ⟨plainId_quiet F.plain_set_update_loop _, ih (i + 1) _ (by omega) hlt (W.frame _ s' _ _ hst' (Nat.le_succ _) fun b hb o e => ?_) hS3 fun s'' hm'' hS'' => ?_⟩
      · rw [hsb.2 b (fun h : b = S => hSf (by rw [← h]; exact hb))]; exact e
      · refine hR s'' (Moved.trans W.gtrans ((hm.mono hsub).then_heap (Nat.le_succ _) fun b o hb e => ?_) hm'') hS''
        rw [hsb.2 b (fun h : b = S => hb (by rw [h]; exact List.mem_cons_self))]; exact e
  exact key (n - 0) 0 s rfl (Nat.zero_le _) hst hS hR
set_option maxHeartbeats 3200000 in
theorem set_of_strs {l : Addr} {its : Array Value} (ns : List Str) {Q : Value → Shared → Prop} (h0 : A.handled = none) (hl : s.heap.IsList l its) (hi : StrsAre its.toList ns) (hb : ns.length + 1 < scanBound)
    (h : ∀ (g : Heap) (tk : Nat), SetX w g s.heap.objs.size (dd ns) → (∀ b o, s.heap.get? b = some o → g.get? b = some o) → Q (.ref s.heap.objs.size) { s with heap := g, toks := tk }) : wpAny (model P w) A (call (.type "set") [.ref l]) Q E s := by
  have hz : its.size = ns.length := by have q := StrsAre.len_eq hi; rw [Array.length_toList] at q; exact q
  obtain ⟨c0, tl, hmro⟩ := F.called_set.mro
  have made := F.called_set.made
  have sub := F.called_set.sub
  refine wpAny_call (codeAny_of_tree ?_); show wpAny _ _ (callAny (.type "set") _) _ _ _
  refine wpAny_pure ⟨Code.quiet_builtin _ (by decide +kernel), codeAny_builtin F.entry_type_call ?_⟩; rw [Around.under_plain (weight_type_call_type "set" [.ref l] []) rfl]
  have t1 := F.called_set.notType
  have t2 := F.called_set.canCreate
  have t3 := F.typeCall_set_1 (.ref l)
  repeat (any_goals (first | assumption | wp_step))
  refine codeAny_mono (code_set_led1 (.ref l) (E := E) (Q₁ := fun x t => x = .ref s.heap.objs.size ∧ t = { s with heap := pSet w s }) ⟨rfl, rfl⟩) fun r t hr => ?_
  rcases r with e | f
  · exact hr
  · cases f <;> first | exact hr.elim | skip
    obtain ⟨rfl, rfl⟩ := hr
    have hS : (pSet w s).get? s.heap.objs.size = some (nSet w) := Heap.get?_push_size _ rfl
    have hT : Shared.TypeIs { s with heap := pSet w s } (.ref s.heap.objs.size) "set" := ⟨_, hS, rfl⟩
    have hli := F.called_set.init.lookup
    have hbi := F.called_set.init.bind (.ref s.heap.objs.size)
    repeat (any_goals (first | assumption | wp_step))
    refine codeAny_mono (codeAny_call_builtin (R := wants (fun r t => r = .none ∧ ∃ g tk, t = { s with heap := g, toks := tk } ∧ SetX w g s.heap.objs.size (dd ns) ∧ (∀ b o, s.heap.get? b = some o → g.get? b = some o)) E) F.called_set.init.plain F.entry_set_init (check_set_init_1 hT ?_)) fun r t hr => ?_
    · obtain ⟨⟨kc, kd, ka, ks⟩, ho, hc, nl, hd⟩ := hl
      simp only at hc hd
      subst hc; subst hd
      have ho' : (pSet w s).get? l = some { cls := .type "list", dict := kd, data := .seq its nl, slots := ks } := Heap.get?_push_of_some _ ho
      have u1 := F.sub_list_set
      have u2 := F.sub_list_frozenset
      have u3 : (Value.type "list" == Value.type "dict") = false := by decide
      have hl1 : (pSet w s).IsList l its := ⟨_, ho', rfl, nl, rfl⟩
      unfold Builtin.«set.__init__» noKeywords Builtin.Frozenset.updateFrom
      generalize hPI : pyIter = PI
      wp_walk
      subst hPI
      refine wpAny_pyIter_list hl1 (wpAny_bind (wpAny_runValue ?_))
      have lt : l < s.heap.objs.size := Heap.lt_size ho
      have h3 : A.in1.in1.in1.handled = none := by simp [h0]
      have ne1 : l ≠ (pSet w s).objs.size := by rw [Heap.size_push]; exact fun z => Nat.ne_of_lt (Nat.lt_succ_of_lt lt) z
      have ne2 : s.heap.objs.size ∉ [(pSet w s).objs.size, l] := by
        rw [Heap.size_push]; simp only [List.mem_cons, List.not_mem_nil, or_false, not_or]; exact ⟨Nat.ne_of_lt (Nat.lt_succ_self _), fun z => Nat.ne_of_lt lt z.symm⟩
      have hv : ∀ (i : Nat) (v : Value), its[i]? = some v → ∃ k t, ns[i]? = some k ∧ v = .str k t := fun i v e => by
        have lt : i < ns.length := by rw [← hz]; exact (Array.getElem?_eq_some_iff.mp e).1
        obtain ⟨t, e2⟩ := StrsAre.at hi (List.getElem?_eq_getElem lt)
        rw [Array.getElem?_toList, e] at e2
        exact ⟨ns[i], t, List.getElem?_eq_getElem lt, Option.some.inj e2⟩
      refine set_update_strs ((Walks.list h3 _ l ne1 its).toS) s.heap.objs.size ne2 ns hz hb hv (fun t hm hS' => ?_) ⟨⟨_, Heap.get?_push_size _ rfl, rfl, rfl⟩, (hl1.push _)⟩ (setX_new (Heap.get?_push_of_some _ hS))
      obtain ⟨g, g2, d', tk, os'⟩ := t
      obtain rfl : g2 = s.gens := hm.gens
      obtain rfl : d' = s.drawn := hm.drawn
      obtain rfl : os' = s.os := hm.os
      show wpAny _ _ _ _ _ _
      refine wpAny_pure ?_
      show wpAny _ _ (ret Value.none) _ _ _
      refine wpAny_pure ⟨rfl, g, tk, rfl, hS', fun b o e => ?_⟩
      have hb0 : b < s.heap.objs.size := Heap.lt_size e
      refine hm.heap b o ?_ (Heap.get?_push_of_some _ (Heap.get?_push_of_some _ e))
      rw [Heap.size_push]; simp only [List.mem_cons, List.not_mem_nil, or_false, not_or]; exact ⟨Nat.ne_of_lt hb0, fun z => Nat.ne_of_lt (Nat.lt_succ_of_lt hb0) z⟩
    · rcases r with e | f
      · exact hr
      · cases f <;> first | exact hr.elim | skip
        obtain ⟨rfl, g, tk, rfl, k1, k3⟩ := hr
        repeat (any_goals (first | assumption | wp_step))
        exact h _ _ k1 k3
end
end FL

set_option maxRecDepth 100000
namespace FL
open PySem PySem.Spec PyProof.Rows L2

theorem srt_pair (xs : List Str) : (xs.mergeSort leS).Pairwise (fun a b => leS a b = true) := List.pairwise_mergeSort leS_trans leS_total xs
theorem srt_uniq {xs ys : List Str} (p : xs.Perm ys) (h1 : xs.Pairwise (fun a b => leS a b = true)) (h2 : ys.Pairwise (fun a b => leS a b = true)) : xs = ys :=
  List.Perm.eq_of_pairwise (le := fun a b => leS a b = true) (fun a b _ _ h1 h2 => leS_anti h1 h2) h1 h2 p
theorem srt_perm {xs ys : List Str} (p : xs.Perm ys) : xs.mergeSort leS = ys.mergeSort leS :=
  srt_uniq (((List.mergeSort_perm xs leS).trans p).trans (List.mergeSort_perm ys leS).symm) (srt_pair _) (srt_pair _)
section
variable {P : Program} {w : World} {A : Around} {E : Value → Shared → Prop} {s : Shared} {a : Addr} {ks : List Str}
theorem sorted_strs_set {Q : Value → Shared → Prop} (R : SetX w s.heap a ks) (hh : A.handled = none) (hu : A.units + 64 < cLine)
    (hQ : ∀ s' p (out : List Value) (c : Nat), (∀ b o, s.heap.get? b = some o → s'.heap.get? b = some o) → s'.gens = s.gens → s'.os = s.os → s.heap.objs.size ≤ p →
      s'.heap.get? p = some (seqObj "list" out.toArray c) → PySem.W.EachIs (fun v (x : Str) => ∃ t, v = Value.str x t) out (ks.mergeSort leS) → Q (.ref p) s') :
    wpAny (model P w) A (call (.builtin "sorted") [.ref a]) Q E s := by
  obtain ⟨o, es, ep, t, R⟩ := R
  have hb : es.size < scanBound := by rw [R.size]; exact R.few
  refine Calls.call_function_entry kind_sorted plain_sorted entry_sorted (args_sorted1 _) ?_
  unfold Builtin.«sorted»
  refine wpAny_bind (m := checkCount "sorted" 1 1 _) (wpAny_pure ?_)
  refine wpAny_bind (collect_set (A := A.in1) hh ⟨o, R.at', R.ex.1, R.dat⟩ R.fit hb R.ris R.led fun s1 vs k1 hz g1 o1 pm => ?_)
  -- the values, read as texts
  have hv : ∀ us : List Value, (∀ v ∈ us, ∃ e ∈ es.toList, v = e.2) → PySem.W.EachIs (fun v (x : Str) => ∃ t, v = Value.str x t) us (us.map fun v => keyS (0, v)) := by
    intro us
    induction us with
    | nil => intro _; exact .nil
    | cons v us ih =>
      intro h
      obtain ⟨e, he, rfl⟩ := h v List.mem_cons_self
      obtain ⟨x, tk, q⟩ := R.gd e he
      exact .cons ⟨tk, by rw [q]; rfl⟩ (ih fun u hu => h u (List.mem_cons_of_mem _ hu))
  have hv1 := hv vs fun v hv => by
    obtain ⟨e, he, q⟩ := List.mem_map.mp (pm.mem_iff.mp hv)
    exact ⟨e, he, q.symm⟩
  have pk : (vs.map fun v => keyS (0, v)).Perm ks := by
    have := pm.map fun v => keyS (0, v)
    rw [List.map_map] at this
    exact this.trans R.pm
  have hvl : vs.length = ks.length := by have := pk.length_eq; rwa [List.length_map] at this
  refine wpAny_bind (wpAny_newList ?_ (by rw [hvl, sizeLine_eq]; have := R.few; unfold scanBound at this; omega))
  have hoL : (s1.heap.push (seqObj "list" vs.toArray 0)).get? s1.heap.objs.size = some (seqObj "list" vs.toArray 0) := Heap.get?_push_size _ rfl
  have srt := PySem.W.list_sort_data (prog := P) (w := w) (A := A.in1) (E := E) (s := { s1 with heap := s1.heap.push (seqObj "list" vs.toArray 0) }) (enc := fun x : Str => PyData.str x) (Q := fun v s' => ∃ out : List Value, out.length = ks.length ∧ PySem.W.EachIs (fun v (x : Str) => ∃ t, v = Value.str x t) out (ks.mergeSort leS) ∧ v = .none ∧ s' = { s1 with heap := sortedHeap (s1.heap.push (seqObj "list" vs.toArray 0)) s1.heap.objs.size vs out.toArray })
    hoL hv1 (hv1.mono fun v x ⟨t, e⟩ => ⟨[], by rw [e]; exact .str _ _, by simp⟩) (PySem.W.AllAlike.of fun b b' => by simp [PySem.W.alike]) (PySem.W.Sortable.others fun b => ⟨by simp, by simp⟩) (by rw [List.length_map, hvl, sizeLine_eq]; have := R.few; unfold scanBound at this; omega)
    (fun b _ => by simp only [PyData.depth, Around.in1]; omega) fun out ho eo => ⟨out, by rw [ho, List.length_map, hvl], by
      have e := PySem.W.dataLe_str (fun x : Str => x)
      have e2 : (PySem.W.dataLe false fun x : Str => PyData.str x) = leS := by rw [e]; funext x y; exact decide_eq_decide.mpr Iff.rfl
      rw [e2, srt_perm pk] at eo
      exact eo, rfl, rfl⟩
  refine wpAny_bind (wpAny_holding (wpAny_mono srt (fun v s' ⟨out, ho, eo, hv, hs'⟩ => ?_) fun _ _ h => h))
  subst hv hs'
  obtain ⟨c, hc⟩ := sortedHeap_at (vs := vs) (out := out.toArray) hoL
  refine wpAny_pure ⟨_, rfl, hQ _ s1.heap.objs.size out c (fun b u e => ?_) g1 o1 hz hc eo⟩
  have q := k1 b u e
  have hlt := Heap.lt_size q
  show (sortedHeap (s1.heap.push (seqObj "list" vs.toArray 0)) s1.heap.objs.size vs out.toArray).get? b = some u
  rw [sortedHeap_old (Nat.ne_of_lt hlt) (by rw [size_push']; exact Nat.lt_succ_of_lt hlt)]
  exact Heap.get?_push_of_some _ q
end
def SetSO (w : World) (a : Addr) (ks : List Str) : HO := .ext fun h => SetX w h a ks
theorem setSO_new {w : World} {P : Program} {H : Hp} {h : Heap} {a : Addr} {ks : List Str} (R : SetX w h a ks) : ObjOk P w H h a (SetSO w a ks) := by
  have ⟨o, _, _, _, R'⟩ := R
  exact ⟨R, ⟨o, R'.at'⟩, fun h1 h2 p k => SetX.keep p k⟩
theorem strs_of_vals : ∀ {ks : List Str} {us : List Value}, Vals (ks.map V.str) us → StrsAre us ks
  | [], _, .nil => .nil
  | x :: ks, _, .cons r t => by
    obtain ⟨tk, rfl⟩ := r
    exact .cons x tk (strs_of_vals t)
theorem vals_of_each : ∀ {ks : List Str} {us : List Value}, PySem.W.EachIs (fun v (x : Str) => ∃ t, v = Value.str x t) us ks → Vals (ks.map V.str) us
  | [], _, .nil => .nil
  | x :: ks, _, .cons ⟨tk, e⟩ t => by
    subst e
    exact .cons ⟨tk, rfl⟩ (vals_of_each t)
section
variable {X : Cx}
def rSetS (w : World) : List V → Hp → VK → Prop := fun vs H Q => ∃ (a : Addr) (xs : List Str), vs = [V.ref a] ∧ H a = some (.lst (xs.map V.str)) ∧ xs.length + 1 < scanBound ∧ ∀ p : Addr, H p = none → Q (.ref p) (upd H p (SetSO w p (dd xs)))
theorem cr_setS (hc : X.calm = true) : CallR X (.type "set") (rSetS X.w) := by
  intro pins s σ H vs us Q I r h
  obtain ⟨a, ns, rfl, ha, hb, q⟩ := h
  rw [Vals.ref1 r]
  obtain ⟨z, its, n, rr, hl, e⟩ := I.lstM ha
  refine set_of_strs (its := its.toArray) ns (I.ok.hd hc) ⟨_, e, rfl, n, rfl⟩ (by simpa using strs_of_vals rr) hb fun g tk R keep => ?_
  exact ⟨.ref s.heap.objs.size, upd H s.heap.objs.size (SetSO X.w s.heap.objs.size (dd ns)), I.laid (t' := tk) (fun b u e => keep b u e) (Nat.le_refl _) (setSO_new R), rfl, q _ (I.hok.fresh (Nat.le_refl _))⟩
def rSortSetS (w : World) : List V → Hp → VK → Prop := fun vs H Q => ∃ (a : Addr) (ks : List Str), vs = [V.ref a] ∧ H a = some (SetSO w a ks) ∧ ∀ p : Addr, ks.length < scanBound → H p = none → Q (.ref p) (upd H p (.lst ((ks.mergeSort leS).map V.str)))
theorem cr_sortSetS (hc : X.calm = true) (hu : X.A.units + 64 < cLine) : CallR X (.builtin "sorted") (rSortSetS X.w) := by
  intro pins s σ H vs us Q I r h
  obtain ⟨a, ks, rfl, ha, q⟩ := h
  have R : SetX X.w s.heap a ks := (I.hok a _ ha).1
  rw [Vals.ref1 r]
  have hfew : ks.length < scanBound := by obtain ⟨_, _, _, _, R⟩ := R; exact R.few
  refine sorted_strs_set R (I.ok.hd hc) hu fun s' p out c k g o hp hg he => ?_
  have hlen : ((ks.mergeSort leS).map V.str).length ≤ sizeLine := by rw [List.length_map, List.length_mergeSort, sizeLine_eq]; unfold scanBound at hfew; omega
  have hn : H p = none := I.hok.fresh hp
  have J : Inv X pins σ (upd H p (.lst ((ks.mergeSort leS).map V.str))) { s with heap := s'.heap, gens := s'.gens, drawn := s'.drawn, toks := s'.toks } :=
    I.call (ch := []) (Un.laid k hp hn) (I.hok.laid k hp ⟨hlen, out, c, vals_of_each he, hg⟩) (by rw [g]; exact I.bare) (fun _ z => nomatch z)
  have e : s' = { s with heap := s'.heap, gens := s'.gens, drawn := s'.drawn, toks := s'.toks } := by
    cases s'
    cases s
    cases o
    rfl
  rw [e]
  exact ⟨.ref p, _, J, rfl, q p hfew hn⟩
end
/-! ### sorted(set(xs)), xs texts -/
def gSortSetS (d : D) (m : Me) : Res D := match view m d with
  | .lst xs => match strsD xs with
    | some ns => if ns.length < 4095 then .ok (.lst ((sortS (dd ns)).map .str)) m else .no
    | none => .no
  | _ => .no
theorem strs_rv' {K : PySem.W.Frag} {H : Hp} {μ : Mu} : ∀ (ks : List Str), RVs K H μ (ks.map D.str) (ks.map V.str)
  | [] => by simp [RVs]
  | k :: ks => by simp only [List.map_cons, RVs]; exact ⟨_, _, rfl, by simp [RV], strs_rv' ks⟩
theorem pd_sortSetS {X : Cx} {W : WX} {x y : Str} {e : Expr} {f : ME} {p1 p2 p3 pos : Pos} (hc : X.calm = true) (hu : X.A.units + 64 < cLine) (g1 : Gl X x) (n1 : X.mg x = none) (b1 : bootBuiltins x = some (.builtin "sorted")) (g2 : Gl X y) (n2 : X.mg y = none) (b2 : bootBuiltins y = some (.type "set")) (he : PD X W e f)
    (hx : x ≠ "__name__" := by decide) (dx : (x == ("__debug__" : Str)) = false := by decide) (hy : y ≠ "__name__" := by decide) (dy : (y == ("__debug__" : Str)) = false := by decide)
    (s1 : starEach [.Call (.Name y p2) [e] [] p3] X.env = (false, eval (.Call (.Name y p2) [e] [] p3) X.env) :: starEach [] X.env := by rfl) (s2 : starEach [e] X.env = (false, eval e X.env) :: starEach [] X.env := by rfl)
    (l1 : (backTo pos (starEach [] X.env)).any (·.1) = false := by rfl) (l2 : (backTo p3 (starEach [] X.env)).any (·.1) = false := by rfl) :
    PD X W (.Call (.Name x p1) [.Call (.Name y p2) [e] [] p3] [] pos) (m1 gSortSetS f) :=
  PE.imp (pe_callB (cr_sortSetS hc hu) g1 n1 b1 (pa_cons (pe_callTy (cr_setS hc) g2 n2 b2 (pa_cons he pa_nil s2) hy dy s2 l2) pa_nil s1) hx dx s1 l1) fun σ H Q ⟨μ, ρ, m, hH, hS, q⟩ => by
    refine seqR q hH hS fun d m1 v H1 μ1 e1 hH1 r1 hS1 q1 => ?_
    unfold gSortSetS at q1
    split at q1
    · rename_i xs ev
      split at q1
      · rename_i ns ei
        split at q1
        · rename_i hlt
          obtain ⟨a, vs, rfl, ha, hz, w1⟩ := view_lst hH1 r1 ev
          have := strsD_rv w1 ei
          subst this
          refine ⟨a, ns, rfl, ha, by unfold scanBound; omega, fun p hp => ?_⟩
          refine ⟨p, dd ns, rfl, upd_same, fun p' hfew hp' => ?_⟩
          have x1 := Ext.new (o := SetSO X.w p (dd ns)) hH1 hp
          have hN := hH1.new (o := SetSO X.w p (dd ns)) hp
          have x2 := Ext.new (o := .lst (((dd ns).mergeSort leS).map V.str)) hN hp'
          refine q1 _ _ μ1 (x1.trans x2) (hN.new hp') ?_
          simp only [RV]
          refine ⟨p', _, rfl, ⟨hN.notin hp', fun z => hN.hid _ z hp'⟩, upd_same, ?_, ?_⟩
          · rw [List.length_map, List.length_mergeSort, sizeLine_eq]; unfold scanBound at hfew; omega
          · exact strs_rv' _
        · exact q1.elim
      · exact q1.elim
    · exact q1.elim
end FL
namespace FL
open PySem PySem.Spec PyProof.Rows L2

/-! ### x in xs, any data -/
def rInX (K : PySem.W.Frag) (neg : Bool) : R2 := fun x y H Q => ∃ d ds, Dp K H x d ∧ (Dp K H y (.list ds) ∨ Dp K H y (.tuple ds)) ∧ d.canLay0 = true ∧ PyData.canLayAll0 ds = true ∧ d.depth ≤ 60 ∧ Q (.bl (if neg then !(ds.any fun z => PyData.eqv z d) else ds.any fun z => PyData.eqv z d)) H
section
variable {X : Cx}
theorem op_inX (hu : X.A.units + 64 < cLine) : OpR X (compareOp .In) (rInX X.K false) := by
  intro pins s σ H x y v u Q I rx ry h
  obtain ⟨d, ds, hd, he, sd, se, hdp, q⟩ := h
  obtain ⟨as, r1⟩ := Dp.reads I d x v hd rx
  have room : X.A.units + 1 + min (PyData.depthAll ds) d.depth < cLine := by have := Nat.min_le_right (PyData.depthAll ds) d.depth; omega
  rcases he with he | he
  · obtain ⟨bs, r2⟩ := Dp.reads I (.list ds) y u he ry
    exact SeqAt.in_list_reads r2 r1 se sd room ⟨.bl _, H, I, rfl, q⟩
  · obtain ⟨bs, r2⟩ := Dp.reads I (.tuple ds) y u he ry
    exact SeqAt.in_tuple_reads r2 r1 se sd room ⟨.bl _, H, I, rfl, q⟩
theorem op_notInX (hu : X.A.units + 64 < cLine) : OpR X (compareOp .NotIn) (rInX X.K true) := by
  intro pins s σ H x y v u Q I rx ry h
  obtain ⟨d, ds, hd, he, sd, se, hdp, q⟩ := h
  obtain ⟨as, r1⟩ := Dp.reads I d x v hd rx
  have room : X.A.units + 1 + min (PyData.depthAll ds) d.depth < cLine := by have := Nat.min_le_right (PyData.depthAll ds) d.depth; omega
  rcases he with he | he
  · obtain ⟨bs, r2⟩ := Dp.reads I (.list ds) y u he ry
    exact SeqAt.notIn_list_reads r2 r1 se sd room ⟨.bl _, H, I, rfl, q⟩
  · obtain ⟨bs, r2⟩ := Dp.reads I (.tuple ds) y u he ry
    exact SeqAt.notIn_tuple_reads r2 r1 se sd room ⟨.bl _, H, I, rfl, q⟩
end
def gInX (neg : Bool) (d d' : D) (m : Me) : Res D := match py (view m d), py (view m d') with
  | some p, some (.list xs) => if p.canLay0 = true ∧ PyData.canLayAll0 xs = true ∧ p.depth ≤ 60 then .ok (.bl (if neg then !(xs.any fun z => PyData.eqv z p) else xs.any fun z => PyData.eqv z p)) m else .no
  | some p, some (.tuple xs) => if p.canLay0 = true ∧ PyData.canLayAll0 xs = true ∧ p.depth ≤ 60 then .ok (.bl (if neg then !(xs.any fun z => PyData.eqv z p) else xs.any fun z => PyData.eqv z p)) m else .no
  | _, _ => .no
theorem g_inX {K : PySem.W.Frag} {neg : Bool} : G2 K (rInX K neg) (gInX neg) := fun Ex H μ m d d' x y Q hH r1 r2 q => by
  unfold gInX at q
  split at q
  · rename_i p xs e1 e2
    split at q
    · rename_i hs
      exact ⟨p, xs, dp_view hH r1 e1, .inl (dp_view hH r2 e2), hs.1, hs.2.1, hs.2.2, q _ H μ .refl hH (by simp [RV])⟩
    · exact q.elim
  · rename_i p xs e1 e2
    split at q
    · rename_i hs
      exact ⟨p, xs, dp_view hH r1 e1, .inr (dp_view hH r2 e2), hs.1, hs.2.1, hs.2.2, q _ H μ .refl hH (by simp [RV])⟩
    · exact q.elim
  · exact q.elim
end FL
namespace FL
open PySem PySem.Spec PyProof.Rows L2

/-! ### the signs of a text, walked -/
def txtL (x : Str) : List D := x.cps.toList.map fun c => .str ⟨#[c]⟩
theorem goes_txt {K : PySem.W.Frag} {H : Hp} {μ : Mu} {x : Str} : Goes1 K (Its x) H μ (txtL x) gdY := by
  intro H1 μ1 m e hH _
  refine ⟨fun i d e => ?_, by show x.cps.size ≤ (txtL x).length; simp [txtL]⟩
  unfold txtL at e
  rw [List.getElem?_map, Option.map_eq_some_iff] at e
  obtain ⟨c, hc, rfl⟩ := e
  rw [Array.getElem?_toList] at hc
  refine ⟨(Array.getElem?_eq_some_iff.mp hc).1, ?_⟩
  rintro y H' ⟨rfl, c', hc', rfl⟩
  rw [hc] at hc'; cases hc'
  exact ⟨.refl, hH, by simp [RV]⟩
noncomputable def iTxt (f : ME) : MI := fun ρ m => (f ρ m).bind fun d m => match d with
  | .str x => if x.length < 1000000 then .ok (txtL x, gdY) m else .no
  | _ => .no
theorem pdi_txt {X : Cx} {W : WX} {tg e : Expr} {f : ME} (he : PD X W e f) : PDI X W tg e (iTxt f) :=
  PI.imp (pi_str he) fun σ H R ⟨μ, ρ, m, hH, hS, q⟩ => seqR q hH hS fun d m1 v H1 μ1 e1 hH1 r1 hS1 q1 => by
    cases d with
    | str x =>
      simp only [RVv, RV] at r1
      simp only at q1
      split at q1
      · rename_i hl
        exact ⟨x, r1, q1 _ H1 μ1 .refl hH1 ⟨by unfold txtL; simp only [List.length_map, Array.length_toList]; have : x.length = x.cps.size := rfl; rw [sizeLine_eq]; omega, goes_txt⟩⟩
      · exact q1.elim
    | _ => exact q1.elim
end FL

set_option maxRecDepth 100000
namespace FL
open PySem PySem.Spec PyProof.Rows L2

/-! ### x in d.values(), flat values -/
theorem noContains_values : typeLookup (.type "dict_values") "__contains__" = pure none := by rw [typeLookup_type, builtinLookup_eq_fast]; kernel_rfl
theorem entry_contains_iter : entryFor table "proto.contains_iter" = some Builtin.«proto.contains_iter» := entryFor_of_tree (by kernel_rfl)
theorem plain_contains_iter : plainId "proto.contains_iter" = true := by decide +kernel
section
variable {P : Program} {w : World} {A : Around} {E : Value → Shared → Prop} {s : Shared}
theorem contains_loop {I : Addr} {fp wr : List Addr} {G : Array GenState → Array GenState → Prop} {n : Nat} {Pv : Nat → Value → Prop} {St : Nat → Shared → Prop} {R : Result → Shared → Prop} {x : Value} {vs : List Value} {e : Value → Bool}
    (W : WalksS P w A.in1 I fp wr G n Pv St) (hn : n = vs.length) (hval : ∀ i v, Pv i v → vs[i]? = some v) (he : ∀ v ∈ vs, ∀ (A : Around) (s : Shared), SeqAt.EqAt A s v x (e v)) :
    ∀ (k i : Nat) (s : Shared), n - i = k → i ≤ n → St i s → (∀ s', Moved wr G s s' → R (.ok (.ret (.bool ((vs.drop i).any e)))) s') →
      codeAny (model P w) A (.builtin "proto.contains_iter" ⟨[.ref I, x], []⟩) R s := by
  intro k
  induction k with
  | zero =>
    intro i s hk hi hst hR
    have hin : i = n := by omega
    subst hin
    refine codeAny_builtin entry_contains_iter ?_
    rw [Around.under_plainId plain_contains_iter _]
    show wpAny _ A.in1 (pyNext (.ref I) >>= _) _ _ s
    refine wpAny_bind (W.done s _ _ hst fun s' hm => ?_)
    have hq := hR s' hm
    rw [hn, List.drop_length] at hq
    show wpAny _ A.in1 (do rule "in.by-iteration.exhausted"; ret (.bool false)) _ _ s'
    exact wpAny_bind (wpAny_rule (wpAny_pure hq))
  | succ k ih =>
    intro i s hk hi hst hR
    have hlt : i < n := by omega
    refine codeAny_builtin entry_contains_iter ?_
    rw [Around.under_plainId plain_contains_iter _]
    show wpAny _ A.in1 (pyNext (.ref I) >>= _) _ _ s
    refine wpAny_bind (W.item i s _ _ hlt hst fun v s' hP hst' hm => ?_)
    have hv := hval i v hP
    have hdr : vs.drop i = v :: vs.drop (i + 1) := by
      obtain ⟨h1, h2⟩ := List.getElem?_eq_some_iff.mp hv
      rw [List.drop_eq_getElem_cons h1, h2]
    rw [hdr, List.any_cons] at hR
    show wpAny _ A.in1 (do
      let b ← eqBool v x
      if b = true then do rule "in.by-iteration.found"; ret (.bool true) else again (.builtin "proto.contains_iter" ⟨[.ref I, x], []⟩)) _ _ s'
    refine wpAny_bind (he v (List.mem_of_getElem? hv) A.in1 s' P w _ _ ?_)
    cases hb : e v with
    | true =>
      rw [hb, Bool.true_or] at hR
      rw [if_pos rfl]
      exact wpAny_bind (wpAny_rule (wpAny_pure (hR s' hm)))
    | false =>
      rw [hb, Bool.false_or] at hR
      rw [if_neg Bool.false_ne_true]
      exact wpAny_pure ⟨plainId_quiet plain_contains_iter _, ih (i + 1) s' (by omega) hlt hst' fun s'' hm'' => hR s'' (Moved.trans W.gtrans hm hm'')⟩
theorem in_values {W a : Addr} {x : Value} {vs : List (Key × Value)} {ep : Nat} {e : Value → Bool} {Q : Value → Shared → Prop} (hh : A.handled = none) (hW : s.heap.IsValuesView W a) (hd : s.heap.DictAt (mixKind P w) a vs ep) (he : ∀ p ∈ vs, ∀ (A : Around) (s : Shared), SeqAt.EqAt A s p.2 x (e p.2))
    (hQ : ∀ s' : Shared, (∀ b o, s.heap.get? b = some o → s'.heap.get? b = some o) → s'.gens = s.gens → s'.os = s.os → s'.drawn = s.drawn → Q (.bool (vs.any fun p => e p.2)) s') :
    wpAny (model P w) A (compareOp .In x (.ref W)) Q E s := by
  show wpAny _ _ (do return .bool (← contains (.ref W) x)) Q E s
  refine wpAny_bind ?_
  unfold contains
  try with_reducible refine wpAny_holding ?_
  refine wpAny_bind (wpAny_specialOf hW.typeIs noContains_values ?_)
  show wpAny _ _ (if ((none : Option Value) == some Value.none) = true then _ else _) _ E s
  rw [if_neg (by decide)]
  refine wpAny_bind (wpAny_callSpecialUnlessNone?_none (name := Str.ofString "__contains__") hW.typeIs noContains_values ?_)
  dsimp only
  refine wpAny_bind (wpAny_rule ?_)
  refine wpAny_bind (wpAny_tryCatch (wpAny_pyIter_values hW hd ?_))
  refine wpAny_bind (wpAny_runValue ?_)
  have hlt : a < s.heap.objs.size := by obtain ⟨o, es, ho, _⟩ := hd; exact Heap.lt_size ho
  have h3 : A.in1.handled = none := by simp [hh]
  refine contains_loop (vs := vs.map (·.2)) (e := e) ((Walks.dictValues (knd := mixKind P w) h3 s.heap.objs.size a (Nat.ne_of_lt hlt) vs ep).toS) (by simp) (fun i v ⟨k, hk⟩ => by rw [List.getElem?_map, hk]; rfl) (fun v hv => ?_) (vs.length - 0) 0 { s with heap := s.heap.push { cls := .type "dict_valueiterator", data := .fields #[.ref a, .int 0 0, .int vs.length 0, .int ep 0] } } rfl (Nat.zero_le _) ⟨⟨_, Heap.get?_push_size _ rfl, rfl, rfl⟩, by exact hd.keep fun b u e => Heap.get?_push_of_some _ e⟩ fun s' hm => ?_
  · obtain ⟨p, hp, rfl⟩ := List.mem_map.mp hv
    exact he p hp
  · show wpAny _ _ _ _ _ s'
    refine wpAny_pure (wpAny_pure ?_)
    rw [List.drop_zero, List.any_map]
    exact hQ s' (fun b o e => hm.heap b o (fun h => Nat.lt_irrefl _ ((List.mem_singleton.mp h) ▸ Heap.lt_size e)) (Heap.get?_push_of_some _ e)) hm.gens hm.os hm.drawn
end
theorem kv_any {κ : Type} {y : V} {kvs : List (κ × V)} {vs : List (κ × Value)} (r : KV kvs vs) (f : (kvs.map (·.2)).all flatV = true) : (vs.any fun p => eqU y p.2) = (kvs.map (·.2)).any fun z => eqV z y := by
  unfold KV at r
  induction r with
  | nil => rfl
  | cons r t ih =>
    simp only [List.map_cons, List.all_cons, Bool.and_eq_true] at f
    simp only [List.any_cons, List.map_cons]
    rw [ih f.2, eqU_of r.2 f.1]
def tInV (ty td : TE) : TE := fun σ H Q => ty σ H fun y H1 => td σ H1 fun x H2 => ∃ a kvs, x = V.ref a ∧ Rd H2 a (.dK kvs) ∧ flatV y = true ∧ (kvs.map (·.2)).all flatV = true ∧ Q (.bl ((kvs.map (·.2)).any fun z => eqV z y)) H2
section
variable {X : Cx} {o i : Expr} {td ty : TE} {apos mpos : Pos}
theorem pc_inVh (hc : X.calm = true) (hi : PE X i ty) (hd : PE X o td) (hbase : attributeBase o "values" X.env (eval o X.env) = eval o X.env := by rfl) (hline : (apos.endLine == mpos.line) = true := by rfl) :
    PC X .In i (.Call (.Attribute o "values" apos) [] [] mpos) (tInV ty td) := by
  refine ⟨fun pins s σ H Q I h => ?_⟩
  refine thn (hi.run pins s σ H _ I h) fun iv s0 ⟨y, H0, I0, ry, q0⟩ => ?_
  refine wpAny_Call_method0_late hbase hline (thn (hd.run pins s0 σ H0 _ I0 q0) fun v s1 ⟨x, H1, I1, r1, a, kvs, ex, ha, fy, fv, q⟩ => ?_)
  subst ex
  obtain rfl : v = Value.ref a := r1
  obtain ⟨_, hsys, vs, rel, dof⟩ := dk_rd I1.hok ha
  obtain ⟨ep, dat⟩ := dof.dictAt
  have dat' := dat
  obtain ⟨ob, es, ho, ex, hdat, hko, hpr, hnd⟩ := dat'
  refine ⟨"dict", "dict.values", F.plainAttrs_dict, F.slot_dict_values, F.type_dict_values, ⟨ob, ho, ex.1⟩, fun b e => ?_, Calls.callWith_builtin rfl (PySem.evalArgs_none ?_)⟩
  · cases e
    exact ⟨ob, ho, ex.2.1⟩
  refine call_meetsIn F.slot_dict_values ⟨ob, ho, ex.1⟩ F.entry_dict_values (F.args_dict_values_1 _) (meets_dict_values (mixKind X.prog X.w) a hsys) ⟨⟨vs, dof⟩, ?_⟩
  have k1 : ∀ b u, s1.heap.get? b = some u → (s1.heap.push { cls := .type "dict_values", data := .fields #[.ref a] }).get? b = some u := fun b u e => Heap.get?_push_of_some _ e
  have dat1 : (s1.heap.push { cls := .type "dict_values", data := .fields #[.ref a] }).DictAt (mixKind X.prog X.w) a vs ep := dat.keep k1
  refine in_values (s := { s1 with heap := s1.heap.push { cls := .type "dict_values", data := .fields #[.ref a] } }) (e := eqU y) (I1.ok.hd hc) ⟨_, Heap.get?_push_size _ rfl, rfl, rfl⟩ dat1 (fun p hp A s => ?_) fun s' k2 g o d => ?_
  · obtain ⟨j, hj, e⟩ := List.getElem_of_mem hp
    obtain ⟨k, u⟩ := p
    obtain ⟨z, h1, h2⟩ := KV.at' rel (i := j) (k := k) (v := u) (by rw [List.getElem?_eq_getElem hj, e])
    have fz : flatV z = true := List.all_eq_true.mp fv z (List.mem_map.mpr ⟨_, List.mem_of_getElem? h1, rfl⟩)
    rw [eqU_of h2 fz]
    exact eqAt_V h2 ry fz fy
  · have J := I1.kept (h' := s'.heap) (t' := s'.toks) fun b u e => k2 b u (k1 b u e)
    have e : s' = { s1 with heap := s'.heap, toks := s'.toks } := by
      cases s'
      simp only at g o d
      subst g o d
      rfl
    rw [e, kv_any rel fv]
    exact ⟨.bl _, H1, J, rfl, q⟩
end
theorem rvk_vals {K : PySem.W.Frag} {H : Hp} {μ : Mu} : ∀ {kvs : List (Key × D)} {ps : List (Key × V)}, RVk K H μ kvs ps → RVs K H μ (kvs.map (·.2)) (ps.map (·.2))
  | [], ps, r => by simp only [RVk] at r; subst r; simp [RVs]
  | (k, d) :: kvs, ps, r => by
    simp only [RVk, RVp] at r
    obtain ⟨v, w, rfl, r1, r2⟩ := r
    simp only [List.map_cons, RVs]
    exact ⟨v, _, rfl, r1, rvk_vals r2⟩
/-- x in d.values() -/
def gInV (k d : D) (m : Me) : Res D := match view m d with
  | .dct kvs => if flatD k = true ∧ (kvs.map (·.2)).all flatD = true then .ok (.bl ((kvs.map (·.2)).any fun z => eqF z k)) m else .no
  | _ => .no
section
variable {X : Cx} {W : WX} {o i : Expr} {fi fo : ME} {apos mpos pos : Pos}
theorem pc_inV (hc : X.calm = true) (hi : PD X W i fi) (ho : PD X W o fo) (hbase : attributeBase o "values" X.env (eval o X.env) = eval o X.env := by rfl) (hline : (apos.endLine == mpos.line) = true := by rfl) :
    PC X .In i (.Call (.Attribute o "values" apos) [] [] mpos) (tR X.K W (RVv X.K) (m2 gInV fi fo)) :=
  ⟨fun pins s σ H Q I h => (pc_inVh hc hi ho hbase hline).run pins s σ H Q I (by
    obtain ⟨μ, ρ, m, hH, hS, q⟩ := h
    refine seqR q hH hS fun d m1 v H1 μ1 e1 hH1 r1 hS1 q1 => ?_
    refine seqR q1 hH1 hS1 fun d' m2 v' H2 μ2 e2 hH2 r2 hS2 q2 => ?_
    unfold gInV at q2
    split at q2
    · rename_i kvs e3
      split at q2
      · rename_i hf
        obtain ⟨a, ps, rfl, h1, h2⟩ := view_dct hH2 r2 e3
        have r1' := RV.ext e2 d v r1
        obtain ⟨g1, g2⟩ := inD_eq r1' hf.1 (rvk_vals h2) hf.2
        exact ⟨a, ps, rfl, h1, by rw [← flat_eq r1']; exact hf.1, g1, q2 _ H2 μ2 .refl hH2 (by simp only [RVv, RV, g2]; rfl)⟩
      · exact q2.elim
    · exact q2.elim)⟩
theorem pd_inV (hc : X.calm = true) (hi : PD X W i fi) (ho : PD X W o fo) (hbase : attributeBase o "values" X.env (eval o X.env) = eval o X.env := by rfl) (hline : (apos.endLine == mpos.line) = true := by rfl) (h1 : behindInMarks .In (.Call (.Attribute o "values" apos) [] [] mpos) = false := by rfl) :
    PD X W (.Compare i [.In] [.Call (.Attribute o "values" apos) [] [] mpos] pos) (m2 gInV fi fo) := pe_cmp (pc_inV hc hi ho hbase hline) h1
theorem pdt_inV (hc : X.calm = true) (hi : PD X W i fi) (ho : PD X W o fo) (hbase : attributeBase o "values" X.env (eval o X.env) = eval o X.env := by rfl) (hline : (apos.endLine == mpos.line) = true := by rfl) (h1 : behindInMarks .In (.Call (.Attribute o "values" apos) [] [] mpos) = false := by rfl) :
    PDT X W (.Compare i [.In] [.Call (.Attribute o "values" apos) [] [] mpos] pos) (mB (m2 gInV fi fo)) := PT.imp (pt_cmp (pc_inV hc hi ho hbase hline) h1) fun σ H Q h => tB_imp h
end
end FL
namespace FL
open PySem PySem.Spec PyProof.Rows L2

/-! ### two dicts that are equal, compared -/
def rNeDR : R2 := fun x y H Q => ∃ a b ks ls, x = .ref a ∧ y = .ref b ∧ Rd H a (.dK ks) ∧ Rd H b (.dK ls) ∧ ks.length = ls.length ∧ (∀ p ∈ ks, valV ls p.1 = some p.2 ∧ flatB p.2 = true) ∧ Q (.bl false) H
theorem op_neDR {X : Cx} (hu : X.A.units + 64 < cLine) : OpR X (compareOp .NotEq) rNeDR := by
  intro pins s σ H x y v u Q I rx ry h
  obtain ⟨a, b, ks, ls, rfl, rfl, ea, eb, hlen, hp, q⟩ := h
  obtain rfl : v = Value.ref a := rx
  obtain rfl : u = Value.ref b := ry
  obtain ⟨_, ya, va, ra, da⟩ := dk_rd I.hok ea
  obtain ⟨_, yb, vb, rb, db⟩ := dk_rd I.hok eb
  have hl : va.length = vb.length := by rw [← ra.length, ← rb.length]; exact hlen
  exact PySem.W.keq_ne (knd := mixKind X.prog X.w) (r := true) ya yb da db (by omega) (fun _ => hits_all rb ra hp) (fin_bl I q (by simp [hl]))
theorem flat_one {K : PySem.W.Frag} {H : Hp} {μ : Mu} {d : D} {v v' : V} (f : flatD d = true) (r : RV K H μ d v) (r' : RV K H μ d v') : v = v' ∧ flatB v = true := by
  cases d <;> first | (simp only [RV] at r r'; subst r r'; exact ⟨rfl, rfl⟩) | cases f
open Classical in
noncomputable def gNeK (d d' : D) (m : Me) : Res D := match view m d, view m d' with
  | .dct ks, .dct ls => if ks.length = ls.length ∧ ∀ p ∈ ks, flatD p.2 = true ∧ getK ls p.1 = some p.2 then .ok (.bl false) m else .no
  | _, _ => .no
theorem g_neK {K : PySem.W.Frag} : G2 K rNeDR gNeK := fun Ex H μ m d d' x y Q hH r1 r2 q => by
  unfold gNeK at q
  split at q
  · rename_i ks ls e1 e2
    split at q
    · rename_i h
      obtain ⟨a, ps, rfl, h1, h2⟩ := view_dct hH r1 e1
      obtain ⟨b, qs, rfl, h3, h4⟩ := view_dct hH r2 e2
      obtain ⟨ts, t1, t2, t3⟩ := rvq_pairs h2
      have g4 := rvk_iff.mp h4
      have hlen : ps.length = qs.length := by
        have l1 := rvq_len (rvk_iff.mp h2)
        have l2 := rvq_len g4
        omega
      refine ⟨a, b, ps, qs, rfl, rfl, h1, h3, hlen, fun p hp => ?_, q _ H μ .refl hH (by simp [RV])⟩
      rw [t2] at hp
      obtain ⟨t, ht, rfl⟩ := List.mem_map.mp hp
      obtain ⟨z1, z2⟩ := h.2 (t.1, t.2.1) (by rw [t1]; exact List.mem_map_of_mem (f := fun t : Key × D × V => (t.1, t.2.1)) ht)
      have hr := t3 t ht
      have hg := rvq_get (k := t.1) g4
      simp only at z1 z2
      rw [z2] at hg
      obtain ⟨w, w1, w2⟩ := hg
      obtain ⟨f1, f2⟩ := flat_one z1 hr w2
      exact ⟨by rw [w1, ← f1], f2⟩
    · exact q.elim
  · exact q.elim
end FL

set_option maxRecDepth 100000
namespace FL
open PySem PySem.Spec PyProof.Rows L2

/-! ### d.update(d2) -/
def rDUpd : V → List V → Hp → VK → Prop := fun x xs H Q => ∃ (a b : Addr) (ks ms : List (Key × V)), x = .ref a ∧ xs = [.ref b] ∧ a ≠ b ∧ H a = some (.dK ks) ∧ Rd H b (.dK ms) ∧ ks.length + ms.length ≤ sizeLine ∧ Q .non (upd H a (.dK (mergeK ks ms)))
theorem mt_dupd {X : Cx} : MtR X "dict.update" rDUpd := by
  intro pins s σ H x xs v us Q I rx rxs h
  obtain ⟨a, b, ks, ms, rfl, rfl, hab, ha, hb, hsz, q⟩ := h
  obtain rfl : v = Value.ref a := rx
  obtain ⟨u, rfl, ru⟩ := rxs.one
  obtain rfl : u = Value.ref b := ru
  obtain ⟨_, ya, va, ra, da⟩ := dk_of I.hok ha
  obtain ⟨_, yb, vb, rb, db⟩ := dk_rd I.hok hb
  have hl : va.length + vb.length ≤ sizeLine := by rw [← ra.length, ← rb.length]; exact hsz
  refine call_meetsIn PySem.F.slot_dict_update da.typeIs PySem.F.entry_dict_update (PySem.F.args_dict_update_2 _ _) (meets_dict_update (mixKind X.prog X.w) a b hab yb) ⟨va, vb, da, db, hl, fun h' hd' ho' sb => ?_⟩
  have hm : ObjOk X.prog X.w (upd H a (.dK (mergeK ks ms))) h' a (.dK (mergeK ks ms)) := ⟨Nat.le_trans (length_mergeK ms ks) hsz, ya, merged va vb, KV.merge rb ra, hd'⟩
  have he : ∃ u, h'.get? a = some u := by obtain ⟨o, _, _, ho, _⟩ := hd'; exact ⟨o, ho⟩
  exact ⟨.non, _, I.write (e := a) (t' := s.toks) (by rw [ha]; trivial) (.inl rfl) (fun b u hb hu => (sb.2 b hb).trans hu) he hm, rfl, q⟩
def tDUpd (to : TE) (t : TA) : TE := fun σ H Q => to σ H fun x H1 => (∃ a, x = V.ref a ∧ IsD H1 a) ∧ t σ H1 fun xs H2 => rDUpd x xs H2 Q
section
variable {X : Cx} {o e : Expr} {es : List Expr} {to : TE} {t : TA} {apos cpos : Pos}
theorem pe_dupd (ho : PE X o to) (ha : PA X (e :: es) t)
    (hbase : attributeBase o "update" X.env (eval o X.env) = eval o X.env := by rfl)
    (hfew : ((backTo cpos (starEach (e :: es) X.env)).all (fun x => !x.1) && (backToKw cpos (keywordEach [] X.env)).all (fun x => x.1.isSome)
      && decide ((e :: es).length + ([] : List Keyword).length + (if ([] : List Keyword).isEmpty then 0 else 1) < 30)) = true := by rfl)
    (hline : (apos.endLine == cpos.line) = true := by rfl) (hs : starEach (e :: es) X.env = (false, eval e X.env) :: starEach es X.env := by rfl) (hplain : (backTo cpos (starEach es X.env)).any (·.1) = false := by rfl) :
    PE X (.Call (.Attribute o "update" apos) (e :: es) [] cpos) (tDUpd to t) := by
  refine ⟨fun pins s σ H Q I h => ?_⟩
  refine wpAny_Call_method_late hbase hfew hline rfl (thn (ho.run pins s σ H _ I h) fun v s1 ⟨x, H1, I1, r1, ty, q1⟩ => ?_)
  obtain ⟨a, ex, hd⟩ := ty
  subst ex
  obtain rfl : v = Value.ref a := r1
  obtain ⟨t1, t2, _⟩ := isD_at I1 hd
  refine ⟨"dict", "dict.update", PySem.F.plainAttrs_dict, PySem.F.slot_dict_update, PySem.F.type_dict_update, t1, t2, ?_⟩
  have hA := ha.run cpos pins s1 σ H1 _ I1 q1
  rw [hs] at hA ⊢
  refine Calls.callWith_builtin (by show (false || (backTo cpos (starEach es X.env)).any (·.1)) = false; rw [hplain] <;> rfl) (Calls.evalArgs_plain ?_)
  exact thn hA fun us s2 ⟨vs, H2, I2, r2, q2⟩ => mt_dupd pins s2 σ H2 (.ref a) vs (.ref a) us Q I2 rfl r2 q2
end
def mDupd (fo fe : ME) : ME := fun ρ m => (fo ρ m).bind fun d m => match d with
  | .ref i => match m[i]? with
    | some (.dK _) => (fe ρ m).bind fun y m => match m[i]?, y with
      | some (.dK ks), .dct ms => if ks.length + ms.length < 1000000 then .ok .non (m.set i (.dK (ms.foldl (fun acc kv => setK acc kv.1 kv.2) ks))) else .no
      | _, _ => .no
    | _ => .no
  | _ => .no
section
variable {X : Cx} {W : WX} {o e : Expr} {fo fe : ME} {apos cpos : Pos}
theorem pd_dupd (ho : PD X W o fo) (he : PD X W e fe) (hbase : attributeBase o "update" X.env (eval o X.env) = eval o X.env := by rfl)
    (hfew : ((backTo cpos (starEach [e] X.env)).all (fun x => !x.1) && (backToKw cpos (keywordEach [] X.env)).all (fun x => x.1.isSome)
      && decide (([e] : List Expr).length + ([] : List Keyword).length + (if ([] : List Keyword).isEmpty then 0 else 1) < 30)) = true := by rfl)
    (hline : (apos.endLine == cpos.line) = true := by rfl) (hs : starEach [e] X.env = (false, eval e X.env) :: starEach [] X.env := by rfl) (hplain : (backTo cpos (starEach [] X.env)).any (·.1) = false := by rfl) :
    PD X W (.Call (.Attribute o "update" apos) [e] [] cpos) (mDupd fo fe) :=
  PE.imp (pe_dupd ho (pa_cons he pa_nil hs) hbase hfew hline hs hplain) fun σ H Q ⟨μ, ρ, m, hH, hS, q⟩ => by
    refine seqR q hH hS fun d m1 v H1 μ1 e1 hH1 r1 hS1 q1 => ?_
    cases d with
    | ref i =>
      simp only [RVv, RV] at r1
      obtain ⟨a, rfl, ha⟩ := r1
      cases e2 : m1[i]? with
      | none => simp only [e2] at q1; exact q1.elim
      | some c =>
        cases c with
        | dK kvs0 =>
          simp only [e2] at q1
          obtain ⟨a', ea, ps0, hs0, _⟩ := hH1.at' i _ e2
          rw [ha] at ea; cases ea
          refine ⟨⟨a, rfl, .inl ⟨ps0, .inl hs0⟩⟩, ?_⟩
          refine seqR q1 hH1 hS1 fun y m2 z H2 μ2 e2' hH2 r2 hS2 q2 => ?_
          have ha2 := e2'.get ha
          cases e3 : m2[i]? with
          | none => simp only [e3] at q2; exact q2.elim
          | some c =>
            cases c with
            | dK ks =>
              cases y with
              | dct ms =>
                simp only [e3] at q2
                split at q2
                · rename_i hl
                  obtain ⟨a', ea, ps, hs2, hr⟩ := hH2.at' i _ e3
                  rw [ha2] at ea; cases ea
                  simp only [RVv, RV] at r2
                  obtain ⟨b, qs, rfl, hn, hb, hr2⟩ := r2
                  have hab : a ≠ b := fun e => hn.1 (e ▸ List.mem_of_getElem? ha2)
                  have l1 := rvq_len (rvk_iff.mp hr)
                  have l2 := rvq_len (rvk_iff.mp hr2)
                  have x := Ext.wr (o := .dK (mergeK ps qs)) hH2 ha2
                  refine ⟨a, b, ps, qs, rfl, rfl, hab, hs2, hb, by rw [← l1, ← l2, sizeLine_eq]; omega, ?_⟩
                  refine q2 _ _ μ2 x (hH2.wr ha2 ⟨_, upd_same, rvk_iff.mpr ?_⟩) (by simp [RV])
                  exact L2.Paired.mapP (merge_rv (rvk_iff.mp hr2) (rvk_iff.mp hr)) fun p q z => ⟨z.1, RV.ext x _ _ z.2⟩
                · exact q2.elim
              | _ => simp only [e3] at q2; exact q2.elim
            | _ => simp only [e3] at q2; exact q2.elim
        | _ => simp only [e2] at q1; exact q1.elim
    | _ => exact q1.elim
end
end FL
namespace FL
open PySem PySem.Spec PyProof.Rows L2

/-! ### dict(xs), xs a list of pairs: a dict as a value -/
def pairD : D → Option (Key × D)
  | .tup [k, v] => (keyD k).map fun k => (k, v)
  | _ => none
def pairsD : List D → Option (List (Key × D))
  | [] => some []
  | d :: ds => (pairD d).bind fun p => (pairsD ds).map fun r => p :: r
def gDictP (ds : List D) (m : Me) : Res D := match ds with
  | [d] => match (lstV m d).bind pairsD with
    | some kvs => .ok (.dct (kvs.foldl (fun acc kv => setK acc kv.1 kv.2) [])) m
    | none => .no
  | _ => .no
theorem pairs_rv {K : PySem.W.Frag} {H : Hp} {μ : Mu} : ∀ {ds : List D} {vs : List V} {kvs : List (Key × D)}, RVs K H μ ds vs → pairsD ds = some kvs → ∃ (ps : List Addr) (us : List (Key × V)), vs = ps.map V.ref ∧ RVq K H μ kvs us ∧ Paired (fun p kv => SqT K H p [kV kv.1, kv.2]) ps us
  | [], vs, kvs, r, e => by
    simp only [RVs] at r; subst r
    simp only [pairsD] at e; cases e
    exact ⟨[], [], rfl, .nil, .nil⟩
  | d :: ds, vs, kvs, r, e => by
    simp only [RVs] at r
    obtain ⟨v, w, rfl, r1, r2⟩ := r
    simp only [pairsD] at e
    obtain ⟨p, e1, e2⟩ := Option.bind_eq_some_iff.mp e
    obtain ⟨q, e3, rfl⟩ := Option.map_eq_some_iff.mp e2
    obtain ⟨ps, us, rfl, h1, h2⟩ := pairs_rv r2 e3
    unfold pairD at e1
    split at e1
    · rename_i k x
      obtain ⟨k', ek, rfl⟩ := Option.map_eq_some_iff.mp e1
      simp only [RV] at r1
      obtain ⟨a, xs, rfl, hs, hz, hr⟩ := r1
      simp only [RVs] at hr
      obtain ⟨u1, w1, rfl, g1, u2, w2, rfl, g2, rfl⟩ := hr
      have hk := keyD_rv g1 ek
      subst hk
      exact ⟨a :: ps, (k', u2) :: us, rfl, .cons ⟨rfl, g2⟩ h1, .cons hs.sq h2⟩
    · cases e1
theorem g_dictP {K : PySem.W.Frag} : GC K (fun xs H Q => ∃ (a : Addr) (ps : List Addr) (kvs : List (Key × V)), xs = [.ref a] ∧ SqL K H a (ps.map V.ref) ∧ Paired (fun p kv => SqT K H p [kV kv.1, kv.2]) ps kvs ∧
    ∀ p, H p = none → Q (.ref p) (upd H p (.dK (mergeK [] kvs)))) gDictP := fun Ex H μ m ds vs Q hH rr q => by
  unfold gDictP at q
  split at q
  · obtain ⟨v, rfl, r⟩ := rvs1 rr
    split at q
    · rename_i d kvs e
      obtain ⟨xs, e1, e2⟩ := Option.bind_eq_some_iff.mp e
      obtain ⟨a, ws, rfl, ha, hz, hr⟩ := lstV_of hH r e1
      obtain ⟨ps, us, rfl, h1, h2⟩ := pairs_rv hr e2
      refine ⟨a, ps, us, rfl, .of ha, h2, fun p hp => ?_⟩
      have x := Ext.new (o := .dK (mergeK [] us)) hH hp
      refine q _ _ μ x (hH.new hp) ?_
      simp only [RV]
      refine ⟨p, _, rfl, ⟨hH.notin hp, fun z => hH.hid _ z hp⟩, .inl upd_same, rvk_iff.mpr ?_⟩
      exact L2.Paired.mapP (merge_rv h1 .nil) fun p q z => ⟨z.1, RV.ext x _ _ z.2⟩
    · exact q.elim
  · exact q.elim
end FL

set_option maxRecDepth 100000
namespace FL
open PySem PySem.Spec PyProof.Rows L2

/-! ### range(i, j, -1) -/
def rngD (i : Int) (n : Nat) : List D := (List.range n).map fun (k : Nat) => .int (i + k * (-1))
theorem goes_rngD {K : PySem.W.Frag} {H : Hp} {μ : Mu} {i : Int} {n : Nat} : Goes1 K (Itc i (-1) n) H μ (rngD i n) gdY := by
  intro H1 μ1 m x hH _
  refine ⟨fun j d e => ?_, by show n ≤ (rngD i n).length; simp [rngD]⟩
  have hj : j < n := by
    have := (List.getElem?_eq_some_iff.mp e).1
    simpa [rngD] using this
  refine ⟨hj, ?_⟩
  rintro y H' ⟨rfl, rfl⟩
  have : d = .int (i + j * (-1)) := by
    simp only [rngD, List.getElem?_map, List.getElem?_range hj, Option.map_some] at e
    exact (Option.some.inj e).symm
  subst this
  exact ⟨.refl, hH, by simp [RV]⟩
def iRange3 (f : MA) : MI := fun ρ m => (f ρ m).bind fun ds m => match ds with
  | [.int i, .int j, .int c] => if c = -1 ∧ (i ≤ 1000000 ∧ -1000000 ≤ i) ∧ j ≤ 1000000 ∧ -1000000 ≤ j then .ok (rngD i (i - j).toNat, gdY) m else .no
  | _ => .no
section
variable {X : Cx} {W : WX} {tg a b c : Expr} {p pos : Pos}
theorem ints3 {K : PySem.W.Frag} {H : Hp} {μ : Mu} {i j k : Int} {vs : List V} (r : RVs K H μ [.int i, .int j, .int k] vs) : vs = [.int i, .int j, .int k] := by
  simp only [RVs, RV] at r
  obtain ⟨v, r, rfl, rfl, v', r', rfl, rfl, v'', r'', rfl, rfl, rfl⟩ := r
  rfl
theorem pdi_range3 {f : MA} (hg : Gl X "range") (hm : X.mg "range" = none) (ha : PDA X W 3 [a, b, c] f) (hs : starEach [a, b, c] X.env = (false, eval a X.env) :: starEach [b, c] X.env := by rfl) (hpl : (backTo pos (starEach [b, c] X.env)).any (·.1) = false := by rfl) :
    PDI X W tg (.Call (.Name "range" p) [a, b, c] [] pos) (iRange3 f) :=
  PI.imp (pi_range3 hg hm ha hs hpl) fun σ H R ⟨μ, ρ, m, hH, hS, q⟩ => seqR q hH hS fun ds m1 vs H1 μ1 e1 hH1 r1 hS1 q1 => by
    split at q1
    · rename_i i j c
      split at q1
      · rename_i h
        obtain ⟨rfl, h1, h2⟩ := h
        refine ⟨i, j, -1, _, ints3 r1.1, RgC.neg (by omega) (by omega) (by omega) (by omega), q1 _ H1 μ1 .refl hH1 ⟨?_, goes_rngD⟩⟩
        simp only [rngD, List.length_map, List.length_range, sizeLine_eq]; omega
      · exact q1.elim
    · exact q1.elim
end
/-! ### a tuple so many times -/
theorem tuple_mul1 (l : Addr) (items : Array Value) (n : Nat) (dd : Option Addr) (sl : Array (Option Value)) (u : Tok) :
    Meets (Builtin.«tuple.__mul__» ⟨[.ref l, .int 1 u], []⟩) (fun _ R s => s.heap.get? l = some { cls := .type "tuple", dict := dd, data := .seq items n, slots := sl } ∧ R (.ok (.ret (Value.ref l))) s) :=
  .of_wp fun prog w A R s h => by
    obtain ⟨hp, g, d, tk, os⟩ := s
    obtain ⟨hl, h⟩ := h
    have f1 := AutoSeq1.idx_int
    wp_walk using wpAny_loadPart' hl
    exact ⟨_, rfl, h⟩
theorem tuple_mul0 (l : Addr) (items : Array Value) (n : Nat) (dd : Option Addr) (sl : Array (Option Value)) (x : Int) (u : Tok) (c0 : (decide (x < -(2 ^ 63)) || decide (x ≥ 2 ^ 63)) = false) (c1 : (items.isEmpty || x == 1) = false) (c2 : (decide (x ≤ 0) || items.isEmpty) = true) :
    Meets (Builtin.«tuple.__mul__» ⟨[.ref l, .int x u], []⟩) (fun _ R s => s.heap.get? l = some { cls := .type "tuple", dict := dd, data := .seq items n, slots := sl } ∧
      R (.ok (.ret (Value.ref s.heap.objs.size))) { s with heap := s.heap.push { cls := Value.type "tuple", data := Data.seq #[] }, toks := s.toks }) :=
  .of_wp fun prog w A R s h => by
    obtain ⟨hp, g, d, tk, os⟩ := s
    obtain ⟨hl, h⟩ := h
    have f1 := AutoSeq1.idx_int
    wp_walk using wpAny_loadPart' hl
    repeat (first
      | (refine wpAny_ite_false (decide_eq_false (by rw [c0]; exact Bool.false_ne_true)) ?_; wp_walk using wpAny_loadPart' hl)
      | (refine wpAny_ite_false (decide_eq_false (by rw [c1]; exact Bool.false_ne_true)) ?_; wp_walk using wpAny_loadPart' hl)
      | (refine wpAny_ite_true (decide_eq_true c2) ?_; wp_walk using wpAny_loadPart' hl))
    exact ⟨_, rfl, h⟩
def rRepTN (K : PySem.W.Frag) : R2 := fun x y H Q => ∃ l k xs, x = .ref l ∧ y = .int k ∧ SqT K H l xs ∧ xs ≠ [] ∧ -1000 ≤ k ∧ k ≤ 1000 ∧ xs.length ≤ 1000 ∧ (k = 1 → Q (.ref l) H) ∧
  (k ≠ 1 → ∀ p (o : Obj), PlO o → H p = none → Q (.ref p) (upd H p (.frz o (.tup (List.replicate k.toNat xs).flatten))))
theorem op_repTN {X : Cx} : OpR X (binaryOp .Mult) (rRepTN X.K) := by
  intro pins s σ H x y v u Q I rx ry h
  obtain ⟨l, k, xs, rfl, rfl, hT, hne, h0, h2, hz, q1, q2⟩ := h
  obtain rfl : v = Value.ref l := rx
  obtain ⟨t, rfl⟩ := ry
  obtain ⟨its, r, ⟨⟨cls, dd, data, sl⟩, ho, hc, n, hd⟩, hs⟩ := I.tuple hT
  simp only at hc hd
  subst hc hd
  have hle : its.length = xs.length := r.length.symm
  have hn : its ≠ [] := fun e => hne (List.eq_nil_of_length_eq_zero (by rw [← hle, e]; rfl))
  have hi : its.toArray.isEmpty = false := by
    cases its with
    | nil => exact absurd rfl hn
    | cons a b => rfl
  have c0 : (decide (k < -(2 ^ 63)) || decide (k ≥ 2 ^ 63)) = false := by
    rw [decide_eq_false (by omega), decide_eq_false (by omega)]; rfl
  have road : ∀ {Q' : Value → Shared → Prop} {E' : Value → Shared → Prop}, wpAny (model X.prog X.w) X.A (call (.builtin "tuple.__mul__") [.ref l, .int k t]) Q' E' s → wpAny (model X.prog X.w) X.A (binaryOp .Mult (.ref l) (.int k t)) Q' E' s := fun w =>
    wpAny_binaryOp_repeat_ref (T := "tuple") (U := "int") (by decide) ⟨_, ho, rfl⟩ (fun s' => typeIs_int s' k t) noFill_tuple_mul F.fills_int_mul F.slot_int_rmul repeat_tuple F.slot_int_index.lookup
      (call_meets F.slot_int_rmul (typeIs_int s k t) F.entry_int_rmul (F.args_int_rmul_2 _ _) (int_rmul_tuple k t l its.toArray n dd sl) ⟨ho, rfl, ⟨_, ho, rfl⟩, w⟩)
  by_cases k1 : k = 1
  · subst k1
    exact road (call_meets F.slot_tuple_mul ⟨_, ho, rfl⟩ F.entry_tuple_mul (F.args_tuple_mul_2 _ _) (tuple_mul1 l its.toArray n dd sl t) ⟨ho, ⟨.ref l, H, I, rfl, q1 rfl⟩⟩)
  · have c1 : (its.toArray.isEmpty || k == 1) = false := by
      rw [hi, Bool.false_or]
      exact beq_eq_false_iff_ne.mpr k1
    have q := q2 k1
    have flen : (List.replicate k.toNat its).flatten.length ≤ sizeLine := by
      rw [PyProof.Rows.lm_len_rep_flat, hle, sizeLine_eq]
      have a1 : k.toNat * xs.length ≤ 1000 * 1000 := Nat.mul_le_mul (by omega) hz
      omega
    have new : ∀ (arr : Array Value), arr.toList = (List.replicate k.toNat its).flatten → EP X pins σ Q (.ref s.heap.objs.size) { s with heap := s.heap.push { cls := Value.type "tuple", data := Data.seq arr }, toks := s.toks } := fun arr ea => by
      have hr := r.rep k.toNat
      rw [← ea] at hr
      refine ⟨.ref s.heap.objs.size, upd H s.heap.objs.size (.frz { cls := .type "tuple", data := .seq arr } (.tup (List.replicate k.toNat xs).flatten)), I.laid (t' := s.toks) (fun b ob q => Heap.get?_push_of_some _ q) (Nat.le_refl _) ?_, rfl, q _ _ ⟨rfl, rfl⟩ (I.hok.fresh (Nat.le_refl _))⟩
      exact ⟨Heap.get?_push_size _ rfl, by rw [PyProof.Rows.lm_len_rep_flat, ← hle]; rw [PyProof.Rows.lm_len_rep_flat] at flen; exact flen, _, hr, ⟨_, Heap.get?_push_size _ rfl, rfl, _, rfl⟩⟩
    by_cases k0 : k ≤ 0
    · have c2 : (decide (k ≤ 0) || its.toArray.isEmpty) = true := by rw [decide_eq_true k0]; rfl
      refine road (call_meets F.slot_tuple_mul ⟨_, ho, rfl⟩ F.entry_tuple_mul (F.args_tuple_mul_2 _ _) (tuple_mul0 l its.toArray n dd sl k t c0 c1 c2) ⟨ho, new #[] ?_⟩)
      rw [show k.toNat = 0 by omega]; rfl
    · have c2 : (decide (k ≤ 0) || its.toArray.isEmpty) = false := by
        rw [hi, Bool.or_false]
        exact decide_eq_false k0
      have hsz0 : its.toArray.size = xs.length := by rw [List.size_toArray, hle]
      have hm : ((its.toArray.size : Nat) : Int) * k ≤ 1000000 := by
        rw [hsz0]
        have a1 : ((xs.length : Nat) : Int) * k ≤ 1000 * k := Int.mul_le_mul_of_nonneg_right (by omega) (by omega)
        omega
      have c4 : Builtin.Tuple.tupleTooMany (((its.toArray.size : Nat) : Int) * k) = false := by
        unfold Builtin.Tuple.tupleTooMany
        rw [sizeLine_eq]
        exact decide_eq_false (by omega)
      refine road (call_meets F.slot_tuple_mul ⟨_, ho, rfl⟩ F.entry_tuple_mul (F.args_tuple_mul_2 _ _) (tuple_mulW l its.toArray n dd sl k t c0 c1 c2 (by omega) c4 (by rw [size_rep, List.size_toArray]; exact flen)) ⟨ho, new _ ?_⟩)
      rw [size_rep]
def gMulT (d d' : D) (m : Me) : Res D := match d, d' with
  | .tup xs, .int k => if xs ≠ [] ∧ xs.length ≤ 1000 ∧ k ≤ 1000 ∧ -1000 ≤ k then .ok (.tup (List.replicate k.toNat xs).flatten) m else .no
  | _, _ => .no
theorem RVs.rep {K : PySem.W.Frag} {H : Hp} {μ : Mu} {ds : List D} {vs : List V} (r : RVs K H μ ds vs) : ∀ n : Nat, RVs K H μ (List.replicate n ds).flatten (List.replicate n vs).flatten
  | 0 => by simp [RVs]
  | n + 1 => by simp only [List.replicate_succ, List.flatten_cons]; exact r.append (RVs.rep r n)
theorem g_mulT {K : PySem.W.Frag} : G2 K (rRepTN K) gMulT := fun Ex H μ m d d' x y Q hH r1 r2 q => by
  unfold gMulT at q
  split at q
  · rename_i xs k
    split at q
    · rename_i h
      obtain ⟨a, vs, rfl, s1, z1, w1⟩ := rv_tup r1
      simp only [RV] at r2; subst r2
      have l1 := w1.length
      refine ⟨a, k, vs, rfl, rfl, s1.sq, fun e => h.1 (List.eq_nil_of_length_eq_zero (by rw [l1, e]; rfl)), h.2.2.2, h.2.2.1, by omega, fun hk => ?_, fun hk p o hd hp => ?_⟩
      · subst hk
        refine q _ H μ .refl hH ?_
        have : (List.replicate (1 : Int).toNat xs).flatten = xs := by simp
        rw [this]
        simp only [RVv, RV]
        exact ⟨a, vs, rfl, s1, z1, w1⟩
      · have ex := Ext.new (o := .frz o (.tup (List.replicate k.toNat vs).flatten)) hH hp
        refine q _ _ μ ex (hH.new hp) ?_
        simp only [RVv, RV]
        refine ⟨p, _, rfl, .inl ⟨o, upd_same, hd⟩, ?_, RVs.ext ex _ _ (RVs.rep w1 _)⟩
        rw [PyProof.Rows.lm_len_rep_flat, sizeLine_eq]
        have a1 : k.toNat * vs.length ≤ 1000 * 1000 := Nat.mul_le_mul (by omega) (by omega)
        omega
    · exact q.elim
  · exact q.elim
theorem pd_mulT {X : Cx} {W : WX} {a b : Expr} {fa fb : ME} {pos : Pos} (ha : PD X W a fa) (hb : PD X W b fb) : PD X W (.BinOp a .Mult b pos) (m2 gMulT fa fb) := pd_op op_repTN g_mulT ha hb
end FL

set_option maxRecDepth 100000
namespace FL
open PySem PySem.Spec PyProof.Rows L2 PySem.SeqAt

/-! ### None in xs, xs of dicts and Nones -/
theorem rc_dictNone {A : Around} {s : Shared} {a : Addr} (ht : s.TypeIs (.ref a) "dict") (hu : A.units < cLine) : RcAt A s (.ref a) .none false := fun prog w E Q h =>
  rc_eq_decline_or (k := false) ht rfl (by decide) PySem.F.sub_NoneType_dict PySem.F.slot_dict_eq PySem.F.slot_NoneType_eq_refl
    (fun Q' hq => by
      refine wpAny_call_entry PySem.F.slot_dict_eq ht PySem.F.entry_dict_eq ?_ (PySem.F.args_dict_eq_2 _ _)
      show wpAny _ _ (Builtin.Dict.dictSlotArgs "__eq__" ⟨[.ref a, .none], []⟩ >>= _) _ _ s
      refine wpAny_bind ?_
      unfold Builtin.Dict.dictSlotArgs
      refine wpAny_bind (wpAny_notOrdered_dict ht ?_)
      show wpAny _ _ (pure (Value.ref a, Value.none)) _ _ s
      refine wpAny_pure ?_
      refine wpAny_bind (wpAny_isInstance (T := "NoneType") (rfl : s.TypeIs .none "NoneType") PySem.F.sub_NoneType_dict ?_)
      simp only [Bool.not_false, if_true]
      refine wpAny_bind (wpAny_rule ?_)
      exact wpAny_pure ⟨_, rfl, hq⟩)
    (fun _ hq => call_gives PySem.F.slot_NoneType_eq_refl rfl PySem.F.entry_NoneType_eq (PySem.F.args_NoneType_eq_2 _ _) (NoneType___eq___none_ref_0 a) hq)
    (fun _ hq => wpAny_of_eq (rfl : isSame (.ref a) .none = pure false) hq) (.inr hu) h
theorem eq_dictNone {A : Around} {s : Shared} {a : Addr} (ht : s.TypeIs (.ref a) "dict") (hu : A.units < cLine) : EqAt A s (.ref a) .none false := fun prog w E Q h => by
  unfold eqBool
  refine wpAny_holding ?_
  refine wpAny_ite_split (fun hab => absurd (eq_of_beq hab) nofun) (fun _ => ?_)
  exact wpAny_bind (rc_dictNone ht hu prog w E _ (wpAny_truthy_bool h))

def isNoV : V → Bool
  | .non => true
  | _ => false
def isNoU : Value → Bool
  | .none => true
  | _ => false
def rInNo (neg : Bool) : R2 := fun x y H Q => ∃ a vs, x = V.non ∧ y = V.ref a ∧ H a = some (.lst vs) ∧ (∀ v ∈ vs, v = V.non ∨ ∃ b ps, v = V.ref b ∧ Rd H b (.dK ps)) ∧ Q (.bl (if neg then !(vs.any isNoV) else vs.any isNoV)) H
theorem isNo_any : ∀ {vs : List V} {us : List Value}, Vals vs us → (∀ v ∈ vs, v = V.non ∨ ∃ b, v = V.ref b) → us.any isNoU = vs.any isNoV
  | _, _, .nil, _ => rfl
  | _, _, .cons (a := v) (b := u) r t, h => by
    rw [List.any_cons, List.any_cons, isNo_any t fun v hv => h v (List.mem_cons_of_mem _ hv)]
    rcases h v (List.mem_cons_self ..) with rfl | ⟨b, rfl⟩
    · obtain rfl : u = Value.none := r
      rfl
    · obtain rfl : u = Value.ref b := r
      rfl
section
variable {X : Cx}
theorem no_eqAt {pins : List (Addr × Obj)} {σ : L2.St} {H : Hp} {s : Shared} {A : Around} {vs : List V} {us : List Value} (I : L2.Inv X pins σ H s) (hu : A.units < cLine) (r : Vals vs us) (h : ∀ v ∈ vs, v = V.non ∨ ∃ b ps, v = V.ref b ∧ Rd H b (.dK ps)) : ∀ y ∈ us.toArray, EqAt A s y .none (isNoU y) := by
  intro y hy
  have hy : y ∈ us := by simpa using hy
  obtain ⟨i, hi, e⟩ := List.getElem_of_mem hy
  have hl := r.length
  obtain ⟨u, h1, h2⟩ := r.get (i := i) (x := vs[i]) (List.getElem?_eq_getElem (by omega))
  rw [List.getElem?_eq_getElem hi] at h1
  cases h1
  rw [e] at h2
  rcases h vs[i] (List.getElem_mem _) with e2 | ⟨b, ps, e2, rd⟩
  · rw [e2] at h2
    obtain rfl : y = Value.none := h2
    exact EqAt.same _
  · rw [e2] at h2
    obtain rfl : y = Value.ref b := h2
    obtain ⟨_, hsys, ws, rel, dof⟩ := dk_rd I.hok rd
    exact eq_dictNone dof.typeIs hu
theorem op_inNo (hu : X.A.units + 64 < cLine) : OpR X (compareOp .In) (rInNo false) := by
  intro pins s σ H x y v u Q I rx ry h
  obtain ⟨a, vs, rfl, rfl, ha, hv, q⟩ := h
  obtain rfl : v = Value.none := rx
  obtain rfl : u = Value.ref a := ry
  obtain ⟨z, its, n, rr, hl, e⟩ := I.lstM ha
  refine in_listAt isNoU ⟨_, e, rfl, n, rfl⟩ (no_eqAt I (by show X.A.units + 1 < cLine; omega) rr hv) ?_
  have : its.toArray.any isNoU = vs.any isNoV := by
    rw [← Array.any_toList]
    exact isNo_any rr fun v hm => (hv v hm).imp id fun ⟨b, _, e, _⟩ => ⟨b, e⟩
  rw [this]
  exact ⟨.bl _, H, I, rfl, q⟩
theorem op_notInNo (hu : X.A.units + 64 < cLine) : OpR X (compareOp .NotIn) (rInNo true) := by
  intro pins s σ H x y v u Q I rx ry h
  obtain ⟨a, vs, rfl, rfl, ha, hv, q⟩ := h
  obtain rfl : v = Value.none := rx
  obtain rfl : u = Value.ref a := ry
  obtain ⟨z, its, n, rr, hl, e⟩ := I.lstM ha
  refine notIn_listAt isNoU ⟨_, e, rfl, n, rfl⟩ (no_eqAt I (by show X.A.units + 1 < cLine; omega) rr hv) ?_
  have : its.toArray.any isNoU = vs.any isNoV := by
    rw [← Array.any_toList]
    exact isNo_any rr fun v hm => (hv v hm).imp id fun ⟨b, _, e, _⟩ => ⟨b, e⟩
  rw [this]
  exact ⟨.bl _, H, I, rfl, q⟩
end
def okNo : D → Bool
  | .non => true
  | .dct _ => true
  | _ => false
def gInNo (neg : Bool) (d d' : D) (m : Me) : Res D := match d, view m d' with
  | .non, .lst xs => if xs.all okNo = true then .ok (.bl (if neg then !(xs.any isN) else xs.any isN)) m else .no
  | _, _ => .no
theorem no_rv {K : PySem.W.Frag} {H : Hp} {μ : Mu} {m : Me} (hH : RH K H μ m) : ∀ {xs : List D} {vs : List V}, RVs K H μ xs vs → xs.all okNo = true → (∀ v ∈ vs, v = V.non ∨ ∃ b ps, v = V.ref b ∧ Rd H b (.dK ps)) ∧ vs.any isNoV = xs.any isN
  | [], vs, r, _ => by simp only [RVs] at r; subst r; simp
  | d :: xs, vs, r, h => by
    simp only [RVs] at r
    obtain ⟨v, w, rfl, r1, r2⟩ := r
    simp only [List.all_cons, Bool.and_eq_true] at h
    obtain ⟨i1, i2⟩ := no_rv hH r2 h.2
    have key : (v = V.non ∨ ∃ b ps, v = V.ref b ∧ Rd H b (.dK ps)) ∧ isNoV v = isN d := by
      cases d with
      | non => simp only [RV] at r1; subst r1; exact ⟨.inl rfl, rfl⟩
      | dct kvs =>
        obtain ⟨a, ps, rfl, h1, h2⟩ := view_dct (m := m) hH r1 rfl
        exact ⟨.inr ⟨a, ps, rfl, h1⟩, rfl⟩
      | _ => simp [okNo] at h
    refine ⟨fun z hz => ?_, by rw [List.any_cons, List.any_cons, i2, key.2]⟩
    rcases List.mem_cons.mp hz with rfl | hz
    · exact key.1
    · exact i1 z hz
theorem g_inNo {K : PySem.W.Frag} {neg : Bool} : G2 K (rInNo neg) (gInNo neg) := fun Ex H μ m d d' x y Q hH r1 r2 q => by
  unfold gInNo at q
  split at q
  · rename_i xs e2
    split at q
    · rename_i hs
      obtain ⟨a, vs, rfl, h1, h2, h3⟩ := view_lst hH r2 e2
      obtain ⟨i1, i2⟩ := no_rv hH h3 hs
      simp only [RV] at r1
      subst r1
      exact ⟨a, vs, rfl, rfl, h1, i1, q _ H μ .refl hH (by rw [i2]; simp [RV])⟩
    · exact q.elim
  · exact q.elim
end FL

set_option maxRecDepth 100000
namespace FL
open PySem PySem.Spec PyProof.Rows L2

/-! ### the keys of a dict, walked: the dict is locked for good -/
def tKeysL (td : TE) : TI := fun σ H R => td σ H fun x H1 => ∃ d kvs, x = .ref d ∧ ((∃ o, H1 d = some (.frz o (.dK kvs)) ∧ R (Itk d o kvs) H1) ∨ (H1 d = some (.dK kvs) ∧ ∀ o, R (Itk d o kvs) (upd H1 d (.frz o (.dK kvs)))))
theorem pi_keysL {X : Cx} {tg e : Expr} {td : TE} (he : PE X e td) : PI X tg e (tKeysL td) := by
  refine ⟨fun pins s σ H R I h => ?_⟩
  refine thn (he.run pins s σ H _ I h) fun u s1 ⟨x, H1, I1, rx, d, kvs, ex, q⟩ => ?_
  subst ex
  obtain rfl : u = Value.ref d := rx
  have fin : ∀ (o : Obj) (H2 : Hp), Inv X pins σ H2 s1 → H2 d = some (.frz o (.dK kvs)) → R (Itk d o kvs) H2 → wpAny (model X.prog X.w) X.A (pyIter (.ref d)) (PIE X pins σ tg R) X.xe s1 := fun o H2 I2 hd q => by
    obtain ⟨hs, hgd, hx, es, ep, vs, hdt, hsz, kv, hm⟩ := I2.frzK hd
    refine iter_keys hs hgd hx hdt (pi_one (tk := s1.toks) I2 _ (turn_keys _ hdt) ⟨_, Heap.get?_push_size _ rfl, rfl, ?_⟩ q)
    rw [hsz] <;> rfl
  rcases q with ⟨o, hd, q⟩ | ⟨hd, q⟩
  · exact fin o H1 I1 hd q
  · obtain ⟨o, I2⟩ := I1.lock hd trivial
    exact fin o _ I2 upd_same (q o)
theorem Ext.lock {K : PySem.W.Frag} {H : Hp} {μ : Mu} {a : Addr} {kvs : List (Key × V)} (n : a ∉ μ.l ∧ a ∉ μ.h) (h : H a = some (.dK kvs)) (o : Obj) : Ext K H μ (upd H a (.frz o (.dK kvs))) μ := by
  have kp : ∀ {b : Addr} {u : HO}, H b = some u → u ≠ .dK kvs → upd H a (.frz o (.dK kvs)) b = some u := fun {b u} q z => by
    rw [upd_ne (fun y => z (by rw [y, h] at q; exact (Option.some.inj q).symm))]; exact q
  refine ⟨⟨[], by simp⟩, rfl, fun b xs q => ?_, fun b u nb di q => ⟨kp q (fun z => by rw [z] at di; exact di), nb⟩, fun b o' u nb q => ⟨kp q (fun z => nomatch z), nb⟩, fun b k nb q => ⟨?_, nb⟩, fun b o' u q => kp q (fun z => nomatch z), fun b fs q => kp q (fun z => nomatch z)⟩
  · rcases q with ⟨o', q, hd⟩ | q
    · exact .inl ⟨o', kp q (fun z => nomatch z), hd⟩
    · exact .inr q
  · by_cases e : b = a
    · subst e
      rw [h] at q; cases q
      exact .inr ⟨n.2, o, upd_same⟩
    · exact .inl (by rw [upd_ne e]; exact q)
theorem RH.lock {K : PySem.W.Frag} {H : Hp} {μ : Mu} {m : Me} {a : Addr} {kvs : List (Key × V)} (hH : RH K H μ m) (n : a ∉ μ.l ∧ a ∉ μ.h) (h : H a = some (.dK kvs)) (o : Obj) : RH K (upd H a (.frz o (.dK kvs))) μ m := by
  refine ⟨hH.len, hH.nd, fun i c q => ?_, fun b z => upd_some (hH.hid b z), hH.sep⟩
  obtain ⟨b, e, r⟩ := hH.at' i c q
  refine ⟨b, e, r.ext (Ext.lock n h o) (upd_ne fun y => n.1 ?_)⟩
  rw [← y]; exact List.mem_of_getElem? e
theorem rvk_keys {K : PySem.W.Frag} {H : Hp} {μ : Mu} : ∀ {kvs : List (Key × D)} {ps : List (Key × V)}, RVk K H μ kvs ps → ps.map (·.1) = kvs.map (·.1)
  | [], ps, r => by simp only [RVk] at r; subst r; rfl
  | (k, d) :: kvs, ps, r => by
    simp only [RVk, RVp] at r
    obtain ⟨v, w, rfl, r1, r2⟩ := r
    simp [rvk_keys r2]
theorem goes_keys {K : PySem.W.Frag} {H : Hp} {μ : Mu} {a : Addr} {o : Obj} {kvs : List (Key × D)} {ps : List (Key × V)} (h : H a = some (.frz o (.dK ps))) (e : ps.map (·.1) = kvs.map (·.1)) : Goes1 K (Itk a o ps) H μ (kvs.map fun p => kyD p.1) gdY := by
  intro H1 μ1 m x hH _
  have h1 := x.fz a o _ h
  have hl : ps.length = kvs.length := by have := congrArg List.length e; simpa using this
  refine ⟨fun i d ed => ?_, h1, by rw [List.length_map]; omega⟩
  have hi : i < kvs.length := by
    have := (List.getElem?_eq_some_iff.mp ed).1
    simpa using this
  refine ⟨⟨h1, by omega⟩, ?_⟩
  rintro y H' ⟨rfl, k, v, hk, rfl⟩
  have hk' : (kvs.map (·.1))[i]? = some k := by rw [← e, List.getElem?_map, hk]; rfl
  rw [List.getElem?_map] at ed hk'
  cases ek : kvs[i]? with
  | none => rw [ek] at ed; cases ed
  | some p =>
    rw [ek] at ed hk'
    simp only [Option.map_some, Option.some.injEq] at ed hk'
    subst ed hk'
    refine ⟨.refl, hH, ?_⟩
    cases p.1 <;> simp [kyD, kV, RV]
/-- the keys of a dict -/
def asItK (d : D) (m : Me) : Res (List D × (Me → Bool)) := match d with
  | .dct kvs => if kvs.length ≤ 1000000 then .ok (kvs.map (fun p => kyD p.1), gdY) m else .no
  | .ref i => match m[i]? with
    | some (.dK kvs) => if kvs.length ≤ 1000000 then .ok (kvs.map (fun p => kyD p.1), gdY) (m.set i (.dL kvs)) else .no
    | some (.dL kvs) => if kvs.length ≤ 1000000 then .ok (kvs.map (fun p => kyD p.1), gdY) m else .no
    | _ => .no
  | _ => .no
def iKey (f : ME) : MI := fun ρ m => (f ρ m).bind asItK
theorem keys_few {kvs : List (Key × D)} (h : kvs.length ≤ 1000000) : (kvs.map fun p => kyD p.1).length ≤ sizeLine := by
  rw [List.length_map]
  have : sizeLine = 16777216 := by decide
  omega
theorem pdi_keys {X : Cx} {W : WX} {tg e : Expr} {f : ME} (he : PD X W e f) : PDI X W tg e (iKey f) :=
  PI.imp (pi_keysL he) fun σ H R ⟨μ, ρ, m, hH, hS, q⟩ => seqR q hH hS fun d m1 v H1 μ1 e1 hH1 r1 hS1 q1 => by
    cases d with
    | dct kvs =>
      simp only [RVv, RV] at r1
      obtain ⟨a, ps, rfl, hn, hs, hr⟩ := r1
      unfold asItK at q1
      simp only at q1
      split at q1
      · rename_i hz
        rcases hs with hs | ⟨o, hs⟩
        · refine ⟨a, ps, rfl, .inr ⟨hs, fun o => ?_⟩⟩
          exact q1 _ _ μ1 (Ext.lock hn hs o) (hH1.lock hn hs o) ⟨keys_few hz, goes_keys upd_same (rvk_keys hr)⟩
        · exact ⟨a, ps, rfl, .inl ⟨o, hs, q1 _ H1 μ1 .refl hH1 ⟨keys_few hz, goes_keys hs (rvk_keys hr)⟩⟩⟩
      · exact q1.elim
    | ref i =>
      simp only [RVv, RV] at r1
      obtain ⟨a, rfl, ha⟩ := r1
      unfold asItK at q1
      cases e : m1[i]? with
      | none => simp only [e] at q1; exact q1.elim
      | some c =>
        obtain ⟨a', e', rc⟩ := hH1.at' i _ e
        rw [ha] at e'; cases e'
        cases c with
        | dK kvs =>
          simp only [e] at q1
          split at q1
          · rename_i hz
            obtain ⟨ps, h1, r2⟩ := rc
            have nf : ∀ o u, H1 a ≠ some (.frz o u) := fun o u z => by rw [h1] at z; cases z
            refine ⟨a, ps, rfl, .inr ⟨h1, fun o => ?_⟩⟩
            have x := Ext.wr (o := .frz o (.dK ps)) hH1 ha nf
            exact q1 _ _ μ1 x (hH1.wr ha ⟨ps, o, upd_same, RVk.ext x _ _ r2⟩ nf) ⟨keys_few hz, goes_keys upd_same (rvk_keys r2)⟩
          · exact q1.elim
        | dL kvs =>
          simp only [e] at q1
          split at q1
          · rename_i hz
            obtain ⟨ps, o, h1, r2⟩ := rc
            exact ⟨a, ps, rfl, .inl ⟨o, h1, q1 _ H1 μ1 .refl hH1 ⟨keys_few hz, goes_keys h1 (rvk_keys r2)⟩⟩⟩
          · exact q1.elim
        | _ => simp only [e] at q1; exact q1.elim
    | _ => exact q1.elim
end FL

set_option maxRecDepth 100000
namespace FL
open PySem PySem.Spec PyProof.Rows L2

/-! ### a def as a value, and a call of a name that holds one -/
section
variable {X : Cx} {W : WX} {k i n : Nat} {f : Addr} {fd : FuncData} {ps : List Str} {x y : Str} {p pos : Pos} {e : Expr} {es : List Expr} {Fm : List D → Me → Res D}
theorem pd_fn (hg : Gl X x) (hm : X.mg x = some (.ref f)) (hn : PySem.W.nsIn X.K mainGlobals x = some (some (Value.ref f))) (hd : (x == ("__debug__" : Str)) = false := by decide) : PD X W (.Name x pos) (mC (.fn x)) :=
  PE.imp (pe_glob (v := .ref f) hg hm rfl hd) fun σ H Q ⟨μ, ρ, m, hH, hS, q⟩ => q _ H μ .refl hH (by simp only [RVv, RV]; exact ⟨f, rfl, hn⟩)
def mCallL (i : Nat) (y : Str) (F : List D → Me → Res D) (fa : MA) : ME := fun ρ m => match ρ[i]? with
  | some (some (.fn z)) => if z = y then (fa ρ m).bind fun ds m => noX (F ds m) else .no
  | _ => .no
theorem pd_callL {fa : MA} (G : FnOk X.prog X.w X.K X.mg X.base CX0 k f fd ps (spF X.K n Fm)) (hr : Room k X.A) (hN : X.N[i]? = some x) (hv : Vis X.env.scope x) (hn : PySem.W.nsIn X.K mainGlobals y = some (some (Value.ref f))) (hk : PySem.W.keepIn X.K (.ref f) = true) (hb : Binds X.K fd ps [])
    (ha : PDA X W n (e :: es) fa) (hdb : (x == ("__debug__" : Str)) = false := by decide) (hcd : (x == ("__classdict__" : Str)) = false := by decide) (he : starEach (e :: es) X.env = (false, eval e X.env) :: starEach es X.env := by rfl) (hpl : (backTo pos (starEach es X.env)).any (·.1) = false := by rfl) :
    PD X W (.Call (.Name x p) (e :: es) [] pos) (mCallL i y Fm fa) :=
  PE.imp (pe_callL G hr hN hv hk hb .nil pass0 ha hdb hcd he hpl) fun σ H Q ⟨μ, ρ, m, hH, hS, q⟩ => by
    unfold mCallL at q
    cases e1 : ρ[i]? with
    | none => simp only [e1] at q; exact q.elim
    | some o =>
      cases o with
      | none => simp only [e1] at q; exact q.elim
      | some d =>
        cases d with
        | fn z =>
          simp only [e1] at q
          by_cases hz : z = y
          · subst hz
            rw [if_pos rfl] at q
            obtain ⟨v, h1, r⟩ := hS.2 i _ e1
            simp only [RV] at r
            obtain ⟨a, rfl, h2⟩ := r
            rw [hn] at h2; cases h2
            exact ⟨h1, seqR q hH hS fun ds m1 vs H1 μ1 e1 hH1 r1 hS1 q1 => ⟨μ1, m1, ds, hH1, by simpa using r1.1, r1.2, Ok.noX' q1⟩⟩
          · rw [if_neg hz] at q; exact q.elim
        | _ => simp only [e1] at q; exact q.elim
end
end FL

set_option maxRecDepth 100000
set_option maxHeartbeats 4000000
namespace FL
open PySem PySem.Spec PyProof.Rows L2 Srt SrtO

/-! ### sorted(d.items()) where all keys are texts: whatever the values are -/
def ltS (a b : Str) : Bool := !leS b a
theorem swoK (k : Value → Str) : Swo fun v u => ltS (k v) (k u) := by
  refine ⟨fun x y h => ?_, fun x y z h1 h2 => ?_⟩
  · unfold ltS at h ⊢
    have := leS_total (k y) (k x)
    cases h1 : leS (k y) (k x) with
    | true => rw [h1] at h; cases h
    | false => rw [h1] at this; simp at this; rw [this]; rfl
  · unfold ltS at h1 h2 ⊢
    have a1 : leS (k x) (k y) = true := by simpa using h1
    have a2 : leS (k y) (k z) = true := by simpa using h2
    rw [leS_trans _ _ _ a1 a2]; rfl
theorem ltS_eq (a b : Str) : ltS a b = decide (a.cps.toList < b.cps.toList) := by
  unfold ltS leS; rw [decide_not, Bool.not_not]
def IsPS (h : Heap) (v : Value) (x : Str) : Prop := ∃ a t u, v = .ref a ∧ h.get? a = some (pairO (.str x t) u)
section
variable {prog : Program} {w : World} {A : Around} {E : Value → Shared → Prop} {s : Shared}
theorem ps_cmp {vs : List Value} {k : Value → Str} (hp : ∀ v ∈ vs, IsPS s.heap v (k v)) (hd : ∀ v ∈ vs, ∀ u ∈ vs, k v = k u → v = u) : Cmp prog w A s (tuples' true) (fun p => p.1 ∈ vs) (lt2 fun v u => ltS (k v) (k u)) := by
  intro p q hm hm'
  show wpAny (model prog w) A (keyLt' (tuples' true) p.1 q.1) (fun r s' => s' = s ∧ r = ltS (k p.1) (k q.1)) (fun _ _ => False) s
  have hdd := hd _ hm _ hm'
  obtain ⟨a, t, u, e, ho⟩ := hp _ hm
  obtain ⟨a', t', u', e', ho'⟩ := hp _ hm'
  generalize k p.1 = x at *
  generalize k q.1 = x' at *
  rw [e, e'] at hdd ⊢
  refine PySem.W.kat_lt ho rfl ho' rfl ?_
  show PySem.W.KatLex prog w A true (decide (2 < 2)) _ [(.str x t, .str x' t'), (u, u')] 0 s
  refine PySem.W.kat_cons (SeqAt.EqAt.str_str x t x' t' prog w _ _ ?_)
  refine PySem.W.kat_go (fun e1 => ?_) (fun e1 => ?_)
  · have ex : x = x' := by simpa using e1
    have ea := hdd ex
    cases ea
    rw [ho] at ho'
    have eo := Option.some.inj ho'
    have eu : u = u' := by
      have h1 : (#[Value.str x t, u] : Array Value) = #[.str x' t', u'] := congrArg (fun o : Obj => match o.data with | .seq xs _ => xs | _ => #[]) eo
      have h2 := congrArg (fun z : Array Value => z[1]?) h1
      simpa using h2
    subst eu
    refine PySem.W.kat_yes (PySem.W.kat_cons (SeqAt.EqAt.same u prog w _ _ ?_))
    refine PySem.W.kat_go (fun e2 => ?_) (fun e2 => by cases e2)
    have e3 : ltS x x' = false := by
      subst ex; exact (swoK (fun _ => x)).refl Value.none
    exact PySem.W.kat_yes (PySem.W.kat_nil ⟨rfl, e3.symm⟩)
  · exact PySem.W.kat_no (PyProof.Rows.oneLt_str ⟨rfl, (ltS_eq x x').symm⟩)
theorem ps_firsts {h : Heap} : ∀ {vs : List Value} {k : Value → Str}, (∀ v ∈ vs, IsPS h v (k v)) → ∃ fs, PySem.W.KatTups h vs fs ∧ fs.length = vs.length ∧ ∀ f ∈ fs, ∃ x t, f = Value.str x t
  | [], _, _ => ⟨[], PySem.W.KatTups.nil, rfl, fun _ h => nomatch h⟩
  | v :: vs, k, hp => by
    obtain ⟨fs, h1, h2, h3⟩ := ps_firsts (vs := vs) (k := k) fun u hu => hp u (List.mem_cons_of_mem _ hu)
    obtain ⟨a, t, u, rfl, ho⟩ := hp v List.mem_cons_self
    exact ⟨_ :: fs, PySem.W.KatTups.cons ho rfl rfl rfl h1, by simp [h2], fun f hf => by
      rcases List.mem_cons.mp hf with rfl | hf
      · exact ⟨_, _, rfl⟩
      · exact h3 f hf⟩
theorem ps_sortable {a : Addr} {vs : List Value} {k : Value → Str} (h0 : 0 < vs.length) (hp : ∀ v ∈ vs, IsPS s.heap v (k v)) (hd : ∀ v ∈ vs, ∀ u ∈ vs, k v = k u → v = u) (ha : ∀ v ∈ vs, v ≠ .ref a) : SortableO prog w A s a vs fun v u => ltS (k v) (k u) := by
  intro h' keep
  have hp' : ∀ v ∈ vs, IsPS h' v (k v) := fun v hm => by
    obtain ⟨b, t, u, e, ho⟩ := hp v hm
    exact ⟨b, t, u, e, keep b _ (fun z => ha v hm (by rw [e, z])) ho⟩
  obtain ⟨fs, h1, h2, h3⟩ := ps_firsts hp'
  refine ⟨tuples' true, fun Q E hq => ?_, ps_cmp (s := { s with heap := h' }) hp' hd⟩
  refine PySem.W.kat_kind (T := .type "str") h1 (by omega) (fun f hm => ?_) (by rfl) ?_
  · obtain ⟨x, t, rfl⟩ := h3 f hm
    exact PySem.W.Looks.now
  · have e : (Value.type "str" != Value.type "tuple") = true := by first | decide +kernel | rfl | decide
    rw [e]
    exact hq
end

theorem nd_idx {α : Type} {l : List α} (nd : l.Nodup) {i j : Nat} {a : α} (h1 : l[i]? = some a) (h2 : l[j]? = some a) : i = j := by
  obtain ⟨i1, e1⟩ := List.getElem?_eq_some_iff.mp h1
  obtain ⟨j1, e2⟩ := List.getElem?_eq_some_iff.mp h2
  exact (List.getElem_inj nd).mp (e1.trans e2.symm)
def txK : Key → Str
  | .inr x => x
  | .inl _ => Str.empty
def isT : Key → Bool
  | .inr _ => true
  | .inl _ => false
theorem txK_inj {a b : Key} (ha : isT a = true) (hb : isT b = true) (h : txK a = txK b) : a = b := by
  cases a with
  | inl i => cases ha
  | inr x => cases b with
    | inl i => cases hb
    | inr y => simp only [txK] at h; rw [h]
/-- pairs by their keys -/
def kLe {β : Type} (a b : Key × β) : Bool := leS (txK a.1) (txK b.1)
def keyV {β : Type} (zs : List (Addr × Key × β)) : Value → Str
  | .ref a => match zs.find? fun z => decide (z.1 = a) with
    | some z => txK z.2.1
    | none => Str.empty
  | _ => Str.empty
theorem keyV_of {β : Type} {as : List Addr} {bs : List (Key × β)} (nd : as.Nodup) {z : Addr × Key × β} (hz : z ∈ as.zip bs) : keyV (as.zip bs) (.ref z.1) = txK z.2.1 := by
  simp only [keyV]
  cases e : (as.zip bs).find? (fun y => decide (y.1 = z.1)) with
  | none =>
    rw [List.find?_eq_none] at e
    exact absurd (decide_eq_true rfl) (e z hz)
  | some y =>
    have h1 := List.find?_some e
    have h2 := List.mem_of_find?_eq_some e
    simp only [decide_eq_true_eq] at h1
    obtain ⟨j, hj⟩ := List.mem_iff_getElem?.mp hz
    obtain ⟨i, hi⟩ := List.mem_iff_getElem?.mp h2
    obtain ⟨z1, z2⟩ := List.getElem?_zip_eq_some.mp hj
    obtain ⟨y1, y2⟩ := List.getElem?_zip_eq_some.mp hi
    have : j = i := nd_idx nd z1 (by rw [y1, h1])
    subst this
    rw [hj] at hi; cases hi; rfl
def rSortItK (K : PySem.W.Frag) : V → Hp → VK → Prop := fun x H Q => ∃ (d : Addr) (bs : List (Key × V)), x = .ref d ∧ Rd H d (.dK bs) ∧ (∀ b ∈ bs, isT b.1 = true) ∧ (bs.map (·.1)).Nodup ∧ bs.length ≤ 1000000 ∧
  ∀ (H' : Hp) (p : Addr) (ts : List (Addr × Key × V)), (∀ b o, H b = some o → H' b = some o) → H p = none → ts.map (·.2) = bs.mergeSort kLe → H' p = some (.lst (ts.map fun t => V.ref t.1)) → (∀ t ∈ ts, ∃ o, PlO o ∧ H t.1 = none ∧ H' t.1 = some (.frz o (.tup [kV t.2.1, t.2.2]))) → Q (.ref p) H'
section
variable {X : Cx} {e : Expr} {te : TE} {p apos cpos pos : Pos}
theorem pe_sortItemsK (hc : X.calm = true) (hu : X.A.units + 64 < cLine) (he : PE X e te) (hg : Gl X "sorted") (hm : X.mg "sorted" = none) (hv : bootBuiltins "sorted" = some (.builtin "sorted")) (hbase : attributeBase e "items" X.env (eval e X.env) = eval e X.env := by rfl) (hline : (apos.endLine == cpos.line) = true := by rfl)
    (hs : starEach [.Call (.Attribute e "items" apos) [] [] cpos] X.env = (false, eval (.Call (.Attribute e "items" apos) [] [] cpos) X.env) :: starEach [] X.env := by rfl) :
    PE X (.Call (.Name "sorted" p) [.Call (.Attribute e "items" apos) [] [] cpos] [] pos) (fun σ H Q => te σ H fun x H1 => rSortItK X.K x H1 Q) := by
  refine ⟨fun pins s σ H Q I hq => ?_⟩
  refine wpAny_Call_Name_kw (ld_blt I hg hm hv ?_)
  refine PyProof.Rows.callWith_builtin1 ?_ hs rfl
  rw [hs]
  show wpAny _ _ (spliced ((false, eval (.Call (.Attribute e "items" apos) [] [] cpos) X.env) :: backTo pos (starEach [] X.env))) _ _ s
  refine Calls.spliced_cons ?_
  refine wpAny_Call_method (T := "dict") (id := "dict.items") hbase rfl hline F.plainAttrs_dict F.slot_dict_items F.type_dict_items (thn (he.run pins s σ H _ I hq) fun u s1 ⟨x, H1, I1, rx, d, bs, ex, hd, htx, hnd, hfew, q⟩ => ?_)
  subst ex
  obtain rfl : u = Value.ref d := rx
  obtain ⟨hz, hs0, vs, kv, hdo⟩ := hd.ok I1.hok
  have lk : bs.length = vs.length := Paired.length kv
  have I2 : Inv X pins σ H1 { s1 with heap := s1.heap.push { cls := .type "dict_items", data := .fields #[.ref d] } } := I1.kept (t' := s1.toks) fun b ob q => Heap.get?_push_of_some _ q
  refine ⟨hdo.typeIs, hdo.mapOf.noDict, ?_⟩
  show wpAny _ _ (callWith cpos (.builtin "dict.items") [.ref d] [] []) _ X.xe s1
  refine method_meetsIn F.slot_dict_items F.entry_dict_items rfl (PySem.evalArgs_none ⟨rfl, hdo.typeIs, F.args_dict_items_1 _, _, meets_dict_items (mixKind X.prog X.w) d hs0, ⟨vs, hdo⟩, ?_⟩)
  refine Calls.spliced_nil ?_
  obtain ⟨o, es, ep, ho, hx, hdat, hko, hpr, hnd0⟩ := hdo
  have les : es.size = vs.length := by
    have : ∀ {l : List DictEntry} {vs : List (Key × Value)}, PySem.Pairs (mixKind X.prog X.w) l vs → l.length = vs.length := fun {l vs} h => by induction h with | nil => rfl | cons _ _ _ ih => simp [ih]
    rw [← Array.length_toList]; exact this hpr
  generalize hS2 : ({ s1 with heap := s1.heap.push { cls := .type "dict_items", data := .fields #[.ref d] } } : Shared) = s2 at I2
  have hview : s2.heap.IsItemsView s1.heap.objs.size d := by rw [← hS2]; exact ⟨_, Heap.get?_push_size _ rfl, rfl, rfl⟩
  have hraw : DT.Raw s2.heap d es ep := by rw [← hS2]; exact DT.Raw.push ⟨o, ho, hx, hdat⟩ _
  refine DT.sortedI (es := es) (ep := ep) (I1.ok.hd hc) hview hraw (by rw [sizeLine_eq]; omega) fun h' tk as hk hlt hl hG => ?_
  have lak : as.length = bs.length := by omega
  have nd : as.Nodup := List.Pairwise.imp (fun h => Nat.ne_of_lt h) hG.rise
  have pr : ∀ (j : Nat) (b : Addr) (bk : Key × V), as[j]? = some b → bs[j]? = some bk → ∃ en : DictEntry, es.toList[j]? = some en ∧ RelV (kV bk.1) en.key ∧ RelV bk.2 en.val ∧ keyIs bk.1 en.key = true ∧ h'.get? b = some (pairO en.key en.val) := by
    intro j b bk hj hbk
    obtain ⟨en, he, hg⟩ := hG.pairs j b hj
    have he' : es.toList[j]? = some en := by rw [Array.getElem?_toList]; exact he
    obtain ⟨k, v, hv1, hk1, hv2⟩ := pairs_get hpr he'
    obtain ⟨y, hy, r1, r2⟩ := LiI.paired_get kv (i := j) (x := (bk.1, bk.2)) hbk
    rw [hv1] at hy
    cases hy
    dsimp only at r1 r2
    subst r1
    exact ⟨en, he', relV_key hk1, by rw [hv2]; exact r2, hk1, hg⟩
  have hob : (h'.push { cls := .type "list", data := .seq (as.map Value.ref).toArray }).get? h'.objs.size = some (seqObj "list" (as.map Value.ref).toArray 0) := Heap.get?_push_size _ rfl
  have kb : ∀ b o, s2.heap.get? b = some o → (h'.push { cls := .type "list", data := .seq (as.map Value.ref).toArray }).get? b = some o := fun b o e => Heap.get?_push_of_some _ (hk b o e)
  have ne0 : ∀ b o, h'.get? b = some o → b ≠ h'.objs.size := fun b o e => Nat.ne_of_lt (Heap.lt_size e)
  generalize hh2 : h'.push { cls := .type "list", data := .seq (as.map Value.ref).toArray } = h2 at hob kb ⊢
  have ka : ∀ b o, h'.get? b = some o → h2.get? b = some o := fun b o e => by rw [← hh2]; exact Heap.get?_push_of_some _ e
  have zmap : (as.zip bs).map (·.2) = bs := List.map_snd_zip (by rw [lak]; exact Nat.le_refl _)
  have zget : ∀ (j : Nat) (z : Addr × Key × V), (as.zip bs)[j]? = some z → as[j]? = some z.1 ∧ bs[j]? = some z.2 := fun j z h => List.getElem?_zip_eq_some.mp h
  have k12 : ∀ b o, s1.heap.get? b = some o → s2.heap.get? b = some o := fun b o e => by rw [← hS2]; exact Heap.get?_push_of_some _ e
  have hkey : ∀ z ∈ as.zip bs, ∃ x t u, z.2.1 = .inr x ∧ h2.get? z.1 = some (pairO (.str x t) u) := fun z hz => by
    obtain ⟨j, hj⟩ := List.mem_iff_getElem?.mp hz
    obtain ⟨z1, z2⟩ := zget j z hj
    obtain ⟨en, _, r1, r2, hk1, hg⟩ := pr j _ _ z1 z2
    have := htx z.2 (List.mem_of_getElem? z2)
    rcases keyIs_shape hk1 with ⟨i, t, e1, e2⟩ | ⟨x, t, e1, e2⟩
    · rw [e1] at this; cases this
    · exact ⟨x, t, en.val, e1, by rw [← e2]; exact ka _ _ hg⟩
  have ndz : ∀ z ∈ as.zip bs, ∀ y ∈ as.zip bs, txK z.2.1 = txK y.2.1 → z = y := fun z hz y hy e => by
    obtain ⟨j, hj⟩ := List.mem_iff_getElem?.mp hz
    obtain ⟨i, hi⟩ := List.mem_iff_getElem?.mp hy
    obtain ⟨z1, z2⟩ := zget j z hj
    obtain ⟨y1, y2⟩ := zget i y hi
    have e2 : z.2.1 = y.2.1 := txK_inj (htx _ (List.mem_of_getElem? z2)) (htx _ (List.mem_of_getElem? y2)) e
    have : j = i := nd_idx hnd (a := z.2.1) (by rw [List.getElem?_map, z2]; rfl) (by rw [List.getElem?_map, y2, e2]; rfl)
    subst this
    rw [hj] at hi; exact Option.some.inj hi
  have hkv : ∀ z ∈ as.zip bs, keyV (as.zip bs) (.ref z.1) = txK z.2.1 := fun z hz => keyV_of nd hz
  have hpv : ∀ v ∈ as.map Value.ref, ∃ z ∈ as.zip bs, v = .ref z.1 := fun v hv => by
    obtain ⟨a, ha, rfl⟩ := List.mem_map.mp hv
    obtain ⟨j, hj⟩ := List.mem_iff_getElem?.mp ha
    have hjl : j < as.length := (List.getElem?_eq_some_iff.mp hj).1
    refine ⟨(a, bs[j]'(by omega)), List.mem_iff_getElem?.mpr ⟨j, ?_⟩, rfl⟩
    rw [List.getElem?_zip_eq_some]
    exact ⟨hj, List.getElem?_eq_getElem (by omega)⟩
  refine wpAny_call_entry slot_list_sort ⟨_, hob, rfl⟩ entry_list_sort (SrtO.list_sort_ord (s := { s2 with heap := h2, toks := tk }) (vs := as.map Value.ref) (swoK (keyV (as.zip bs))) hob (by rw [List.length_map, lak, sizeLine_eq]; omega) (fun h2' => ps_sortable (by omega) (fun v hv => ?_) (fun v hv u hu e => ?_) (fun v hv e => ?_)) fun out hs hb => ⟨_, rfl, ?_⟩) (args_list_sort _)
  · obtain ⟨z, hz, rfl⟩ := hpv v hv
    obtain ⟨x, t, u, e1, e2⟩ := hkey z hz
    rw [hkv z hz, e1]
    exact ⟨_, t, u, rfl, e2⟩
  · obtain ⟨z, hz, rfl⟩ := hpv v hv
    obtain ⟨y, hy, rfl⟩ := hpv u hu
    rw [hkv z hz, hkv y hy] at e
    rw [ndz z hz y hy e]
  · obtain ⟨z, hz, rfl⟩ := hpv v hv
    obtain ⟨x, t, u, e1, e2⟩ := hkey z hz
    have e' := Value.ref.inj e
    rw [← e'] at hob
    have hob2 := Option.some.inj (e2.symm.trans hob)
    have hc2 := congrArg Obj.cls hob2
    exact absurd (Value.type.inj hc2) (by decide)
  · have kF : ∀ b o, b ≠ h'.objs.size → h2.get? b = some o → (sortedHeap h2 h'.objs.size (as.map Value.ref) (List.toArray out)).get? b = some o := fun b o hb e => (PyProof.Rows.sortedHeap_old hb (Heap.lt_size e)).trans e
    have kS : ∀ b o, s2.heap.get? b = some o → (sortedHeap h2 h'.objs.size (as.map Value.ref) (List.toArray out)).get? b = some o := fun b o e => kF b o (ne0 _ _ (hk b o e)) (kb b o e)
    obtain ⟨eF, heF⟩ := PyProof.Rows.sortedHeap_at (vs := as.map Value.ref) (out := List.toArray out) hob
    have J1 : Inv X pins σ H1 { s2 with heap := sortedHeap h2 h'.objs.size (as.map Value.ref) (List.toArray out), toks := tk } := I2.kept (t' := tk) kS
    have hn0 : H1 h'.objs.size = none := I2.hok.fresh (Nat.le_of_lt hlt)
    generalize hts : (as.zip bs).mergeSort (fun a b : Addr × Key × V => kLe a.2 b.2) = ts
    have hperm : ts.Perm (as.zip bs) := by rw [← hts]; exact List.mergeSort_perm _ _
    have hto : out = ts.map fun t => Value.ref t.1 := by
      have pz : (ts.map fun t => Value.ref t.1).Perm (as.map Value.ref) := by
        have h1 := hperm.map (fun t : Addr × Key × V => Value.ref t.1)
        have h2 : (as.zip bs).map (fun t : Addr × Key × V => Value.ref t.1) = as.map Value.ref := by
          rw [show (fun t : Addr × Key × V => Value.ref t.1) = Value.ref ∘ (fun t => t.1) from rfl, ← List.map_map, List.map_fst_zip (by omega)]
        rw [← h2]; exact h1
      refine List.Perm.eq_of_pairwise (le := fun v u => leS (keyV (as.zip bs) v) (keyV (as.zip bs) u) = true) (fun v u hv hu h1 h2 => ?_) ?_ ?_ (hb.perm.trans pz.symm)
      · obtain ⟨z, hz, rfl⟩ := hpv v (hb.perm.mem_iff.mp hv)
        obtain ⟨y, hy, rfl⟩ := hpv u (pz.mem_iff.mp hu)
        have := leS_anti h1 h2
        rw [hkv z hz, hkv y hy] at this
        rw [ndz z hz y hy this]
      · exact hs.imp fun h => by unfold ltS at h; simpa using h
      · rw [List.pairwise_map, ← hts]
        have := List.pairwise_mergeSort (le := fun a b : Addr × Key × V => kLe a.2 b.2) (fun a b c h1 h2 => leS_trans _ _ _ h1 h2) (fun a b => leS_total _ _) (as.zip bs)
        refine this.imp_of_mem fun {z y} hz hy h => ?_
        rw [hkv z (List.mem_mergeSort.mp hz), hkv y (List.mem_mergeSort.mp hy)]
        exact h
    have hlen : (ts.map fun t => V.ref t.1).length ≤ sizeLine := by
      rw [List.length_map, hperm.length_eq, List.length_zip, sizeLine_eq]; omega
    have rv : Vals (ts.map fun t => V.ref t.1) out := by
      rw [hto]
      exact vals_maps (fun z : Addr × Key × V => V.ref z.1) (fun z => Value.ref z.1) ts fun _ _ => rfl
    have J2 : Inv X pins σ (upd H1 h'.objs.size (.lst (ts.map fun t => V.ref t.1))) { s2 with heap := sortedHeap h2 h'.objs.size (as.map Value.ref) (List.toArray out), toks := tk } :=
      J1.take (h' := sortedHeap h2 h'.objs.size (as.map Value.ref) (List.toArray out)) (t' := tk) (fun b ob _ e => e) (I2.fpOk (Nat.le_of_lt hlt) hn0) ⟨hlen, out, eF, rv, heF⟩
    have lz : as.length = (es.toList.zip bs).length := by simp; omega
    have mget : ∀ x ∈ List.zipWith (fun (a : Addr) (p : DictEntry × Key × V) => (a, pairO p.1.key p.1.val, [kV p.2.1, p.2.2])) as (es.toList.zip bs), ∃ (j : Nat) (a : Addr) (en : DictEntry) (bk : Key × V), as[j]? = some a ∧ es.toList[j]? = some en ∧ bs[j]? = some bk ∧ x = (a, pairO en.key en.val, [kV bk.1, bk.2]) := fun x hx => by
      obtain ⟨j, hj⟩ := List.mem_iff_getElem?.mp hx
      obtain ⟨a, p, e1, e2, rfl⟩ := List.getElem?_zipWith_eq_some.mp hj
      obtain ⟨e3, e4⟩ := List.getElem?_zip_eq_some.mp e2
      exact ⟨j, a, p.1, p.2, e1, e3, e4, rfl⟩
    obtain ⟨H2, J3, g, qt⟩ := takeF I2 (List.zipWith (fun (a : Addr) (p : DictEntry × Key × V) => (a, pairO p.1.key p.1.val, [kV p.2.1, p.2.2])) as (es.toList.zip bs)) _ J2 (by
        have : (List.zipWith (fun (a : Addr) (p : DictEntry × Key × V) => (a, pairO p.1.key p.1.val, [kV p.2.1, p.2.2])) as (es.toList.zip bs)).map (·.1) = as := by
          rw [List.map_zipWith]
          refine List.ext_getElem? fun j => ?_
          rw [List.getElem?_zipWith]
          by_cases hj : j < as.length
          · rw [List.getElem?_eq_getElem hj, List.getElem?_eq_getElem (show j < (es.toList.zip bs).length by omega)]
          · rw [List.getElem?_eq_none (by omega)]
        rw [this]; exact nd) fun x hx => by
      obtain ⟨j, a, en, bk, e1, e2, e3, rfl⟩ := mget x hx
      obtain ⟨en', f1, r1, r2, hk1, hg⟩ := pr j a bk e1 e3
      rw [e2] at f1; cases f1
      refine ⟨Nat.le_of_lt (hG.above a (List.mem_of_getElem? e1)), ?_, fun H3 => ⟨kF _ _ (ne0 _ _ hg) (ka _ _ hg), by show 2 ≤ sizeLine; decide, [en.key, en.val], .cons r1 (.cons r2 .nil), ⟨_, kF _ _ (ne0 _ _ hg) (ka _ _ hg), rfl, 0, rfl⟩⟩⟩
      rw [upd_ne (ne0 _ _ hg)]
      exact I2.hok.fresh (Nat.le_of_lt (hG.above a (List.mem_of_getElem? e1)))
    refine ⟨.ref h'.objs.size, H2, J3, rfl, q H2 h'.objs.size ts (fun b o e => g b o (by rw [upd_ne (ne_of_none e hn0)]; exact e)) hn0 ?_ (g _ _ upd_same) fun t ht => ?_⟩
    · have := List.map_mergeSort (r := fun a b : Addr × Key × V => kLe a.2 b.2) (s := kLe) (f := fun x : Addr × Key × V => x.2) (l := as.zip bs) (fun a _ b _ => rfl)
      rw [← hts, this, zmap]
    · obtain ⟨j, hj⟩ := List.mem_iff_getElem?.mp (hperm.mem_iff.mp ht)
      obtain ⟨z1, z2⟩ := zget j t hj
      obtain ⟨en, f1, r1, r2, hk1, hg⟩ := pr j t.1 t.2 z1 z2
      have hm : (t.1, pairO en.key en.val, [kV t.2.1, t.2.2]) ∈ List.zipWith (fun (a : Addr) (p : DictEntry × Key × V) => (a, pairO p.1.key p.1.val, [kV p.2.1, p.2.2])) as (es.toList.zip bs) := by
        refine List.mem_iff_getElem?.mpr ⟨j, ?_⟩
        rw [List.getElem?_zipWith, z1, show (es.toList.zip bs)[j]? = some (en, t.2) from List.getElem?_zip_eq_some.mpr ⟨f1, z2⟩]
      exact ⟨_, ⟨rfl, rfl⟩, I2.hok.fresh (Nat.le_of_lt (hG.above t.1 (List.mem_of_getElem? z1))), qt _ hm⟩
end


structure OkSortK (kvs : List (Key × D)) : Prop where
  txt : ∀ p ∈ kvs, isT p.1 = true
  nd : (kvs.map (·.1)).Nodup
  few : kvs.length ≤ 1000000
open Classical in
noncomputable def gSortItK (d : D) (m : Me) : Res D := match view m d with
  | .dct kvs => if OkSortK kvs then .ok (.lst ((kvs.mergeSort kLe).map prrD)) m else .no
  | _ => .no
section
variable {X : Cx} {W : WX} {e : Expr} {f : ME} {p apos cpos pos : Pos}
theorem pd_sortItK (hc : X.calm = true) (hu : X.A.units + 64 < cLine) (hg : Gl X "sorted") (hm : X.mg "sorted" = none) (hv : bootBuiltins "sorted" = some (.builtin "sorted")) (he : PD X W e f) (hbase : attributeBase e "items" X.env (eval e X.env) = eval e X.env := by rfl) (hline : (apos.endLine == cpos.line) = true := by rfl)
    (hs : starEach [.Call (.Attribute e "items" apos) [] [] cpos] X.env = (false, eval (.Call (.Attribute e "items" apos) [] [] cpos) X.env) :: starEach [] X.env := by rfl) :
    PD X W (.Call (.Name "sorted" p) [.Call (.Attribute e "items" apos) [] [] cpos] [] pos) (m1 gSortItK f) :=
  PE.imp (pe_sortItemsK hc hu he hg hm hv hbase hline hs) fun σ H Q ⟨μ, ρ, m, hH, hS, q⟩ => seqR q hH hS fun d m1 v H1 μ1 e1 hH1 r1 hS1 q1 => by
    unfold gSortItK at q1
    split at q1
    case h_2 => exact q1.elim
    rename_i kvs ev
    split at q1
    case isFalse => exact q1.elim
    rename_i ok
    obtain ⟨a, ps, rfl, hrd, hrk⟩ := view_dct hH1 r1 ev
    obtain ⟨ts, rfl, rfl, ht⟩ := rvq_pairs hrk
    refine ⟨a, ts.map fun t => (t.1, t.2.2), rfl, hrd, fun b hb => ?_, ?_, by have := ok.few; simpa using this, fun H' pl us hk hp hus hl hpr => ?_⟩
    · obtain ⟨t, h1, rfl⟩ := List.mem_map.mp hb
      exact ok.txt (t.1, t.2.1) (List.mem_map_of_mem h1)
    · have := ok.nd
      rw [List.map_map] at this ⊢
      exact this
    · have ex := Ext.keeps (K := X.K) (μ := μ1) hk
      refine q1 _ H' μ1 ex (hH1.keeps hk) ?_
      have m1' : (ts.map fun t => (t.1, t.2.2)).mergeSort kLe = (ts.mergeSort fun a b => kLe (a.1, a.2.1) (b.1, b.2.1)).map fun t => (t.1, t.2.2) :=
        (List.map_mergeSort (r := fun a b : Key × D × V => kLe (a.1, a.2.1) (b.1, b.2.1)) (f := fun t : Key × D × V => (t.1, t.2.2)) (fun a _ b _ => rfl)).symm
      have m2' : (ts.map fun t => (t.1, t.2.1)).mergeSort kLe = (ts.mergeSort fun a b => kLe (a.1, a.2.1) (b.1, b.2.1)).map fun t => (t.1, t.2.1) :=
        (List.map_mergeSort (r := fun a b : Key × D × V => kLe (a.1, a.2.1) (b.1, b.2.1)) (f := fun t : Key × D × V => (t.1, t.2.1)) (fun a _ b _ => rfl)).symm
      rw [m1'] at hus
      rw [m2', List.map_map]
      have hsub : ∀ t ∈ (ts.mergeSort fun a b => kLe (a.1, a.2.1) (b.1, b.2.1)), t ∈ ts := fun t h => (List.mergeSort_perm ts _).mem_iff.mp h
      have hlen : (ts.mergeSort fun a b => kLe (a.1, a.2.1) (b.1, b.2.1)).length ≤ 1000000 := by rw [List.length_mergeSort]; have := ok.few; simpa using this
      generalize (ts.mergeSort fun a b => kLe (a.1, a.2.1) (b.1, b.2.1)) = zs at *
      simp only [RV]
      refine ⟨pl, _, rfl, ⟨hH1.notin hp, fun z => hH1.hid _ z hp⟩, hl, ?_, ?_⟩
      · have := congrArg List.length hus
        rw [List.length_map, List.length_map] at this
        rw [List.length_map, this, sizeLine_eq]; omega
      · have key : ∀ (us : List (Addr × Key × V)) (zs : List (Key × D × V)), us.map (·.2) = zs.map (fun t => (t.1, t.2.2)) → (∀ t ∈ us, ∃ o, PlO o ∧ H1 t.1 = none ∧ H' t.1 = some (.frz o (.tup [kV t.2.1, t.2.2]))) → (∀ t ∈ zs, t ∈ ts) → RVs X.K H' μ1 (zs.map (prrD ∘ fun t => (t.1, t.2.1))) (us.map fun t => V.ref t.1) := by
          intro us
          induction us with
          | nil => intro zs e _ _; cases zs with | nil => simp [RVs] | cons => simp at e
          | cons u us ih =>
            intro zs e h1 h2
            cases zs with
            | nil => simp at e
            | cons z zs =>
              simp only [List.map_cons, List.cons.injEq] at e
              simp only [List.map_cons, RVs]
              refine ⟨_, _, rfl, ?_, ih zs e.2 (fun t h => h1 t (List.mem_cons_of_mem _ h)) fun t h => h2 t (List.mem_cons_of_mem _ h)⟩
              obtain ⟨o, po, hn, hf⟩ := h1 u List.mem_cons_self
              rw [e.1] at hf
              have rz := RV.ext ex _ _ (ht z (h2 z List.mem_cons_self))
              simp only [Function.comp, prrD, RV]
              refine ⟨u.1, [kV z.1, z.2.2], rfl, .inl ⟨o, hf, po⟩, by rw [sizeLine_eq]; simp, ?_⟩
              simp only [RVs]
              refine ⟨_, _, rfl, ?_, _, _, rfl, rz, rfl⟩
              cases z.1 <;> simp [kyD, kV, RV]
        exact key us zs hus hpr hsub
end
end FL

set_option maxRecDepth 100000
namespace FL
open PySem PySem.Spec PyProof.Rows L2

/-! ### d.update(d2), d2 another thing of the store -/
def mDupdR (fo fe : ME) : ME := fun ρ m => (fo ρ m).bind fun d m => match d with
  | .ref i => match m[i]? with
    | some (.dK _) => (fe ρ m).bind fun y m => match m[i]?, y with
      | some (.dK ks), .ref j => if j = i then .no else match m[j]? with
        | some (.dK ms) => if ks.length + ms.length < 1000000 then .ok .non (m.set i (.dK (ms.foldl (fun acc kv => setK acc kv.1 kv.2) ks))) else .no
        | _ => .no
      | _, _ => .no
    | _ => .no
  | _ => .no
section
variable {X : Cx} {W : WX} {o e : Expr} {fo fe : ME} {apos cpos : Pos}
theorem pd_dupdR (ho : PD X W o fo) (he : PD X W e fe) (hbase : attributeBase o "update" X.env (eval o X.env) = eval o X.env := by rfl)
    (hfew : ((backTo cpos (starEach [e] X.env)).all (fun x => !x.1) && (backToKw cpos (keywordEach [] X.env)).all (fun x => x.1.isSome)
      && decide (([e] : List Expr).length + ([] : List Keyword).length + (if ([] : List Keyword).isEmpty then 0 else 1) < 30)) = true := by rfl)
    (hline : (apos.endLine == cpos.line) = true := by rfl) (hs : starEach [e] X.env = (false, eval e X.env) :: starEach [] X.env := by rfl) (hplain : (backTo cpos (starEach [] X.env)).any (·.1) = false := by rfl) :
    PD X W (.Call (.Attribute o "update" apos) [e] [] cpos) (mDupdR fo fe) :=
  PE.imp (pe_dupd ho (pa_cons he pa_nil hs) hbase hfew hline hs hplain) fun σ H Q ⟨μ, ρ, m, hH, hS, q⟩ => by
    refine seqR q hH hS fun d m1 v H1 μ1 e1 hH1 r1 hS1 q1 => ?_
    cases d with
    | ref i =>
      simp only [RVv, RV] at r1
      obtain ⟨a, rfl, ha⟩ := r1
      cases e2 : m1[i]? with
      | none => simp only [e2] at q1; exact q1.elim
      | some c =>
        cases c with
        | dK kvs0 =>
          simp only [e2] at q1
          obtain ⟨a', ea, ps0, hs0, _⟩ := hH1.at' i _ e2
          rw [ha] at ea; cases ea
          refine ⟨⟨a, rfl, .inl ⟨ps0, .inl hs0⟩⟩, ?_⟩
          refine seqR q1 hH1 hS1 fun y m2 z H2 μ2 e2' hH2 r2 hS2 q2 => ?_
          have ha2 := e2'.get ha
          cases e3 : m2[i]? with
          | none => simp only [e3] at q2; exact q2.elim
          | some c =>
            cases c with
            | dK ks =>
              cases y with
              | ref j =>
                simp only [e3] at q2
                by_cases hji : j = i
                · rw [if_pos hji] at q2; exact q2.elim
                rw [if_neg hji] at q2
                cases e4 : m2[j]? with
                | none => simp only [e4] at q2; exact q2.elim
                | some c4 =>
                  cases c4 with
                  | dK ms =>
                    simp only [e4] at q2
                    split at q2
                    · rename_i hl
                      obtain ⟨a', ea, ps, hs2, hr⟩ := hH2.at' i _ e3
                      rw [ha2] at ea; cases ea
                      simp only [RVv, RV] at r2
                      obtain ⟨b, rfl, hb⟩ := r2
                      obtain ⟨b', eb, qs, hb2, hr2⟩ := hH2.at' j _ e4
                      rw [hb] at eb; cases eb
                      have hab : a ≠ b := fun e => by
                        subst e
                        obtain ⟨h1, h1'⟩ := List.getElem?_eq_some_iff.mp ha2
                        obtain ⟨h2, h2'⟩ := List.getElem?_eq_some_iff.mp hb
                        exact hji ((List.getElem_inj hH2.nd).mp (h2'.trans h1'.symm))
                      have l1 := rvq_len (rvk_iff.mp hr)
                      have l2 := rvq_len (rvk_iff.mp hr2)
                      have nf : ∀ o u, H2 a ≠ some (.frz o u) := fun o u z => by rw [hs2] at z; cases z
                      have x := Ext.wr (o := .dK (mergeK ps qs)) hH2 ha2 nf
                      refine ⟨a, b, ps, qs, rfl, rfl, hab, hs2, .inl hb2, by rw [← l1, ← l2, sizeLine_eq]; omega, ?_⟩
                      refine q2 _ _ μ2 x (hH2.wr ha2 ⟨_, upd_same, rvk_iff.mpr ?_⟩ nf) (by simp [RV])
                      exact L2.Paired.mapP (merge_rv (rvk_iff.mp hr2) (rvk_iff.mp hr)) fun p q z => ⟨z.1, RV.ext x _ _ z.2⟩
                    · exact q2.elim
                  | _ => simp only [e4] at q2; exact q2.elim
              | _ => simp only [e3] at q2; exact q2.elim
            | _ => simp only [e3] at q2; exact q2.elim
        | _ => simp only [e2] at q1; exact q1.elim
    | _ => exact q1.elim
end
end FL

set_option maxRecDepth 100000
namespace FL
open PySem PySem.Spec PyProof.Rows L2

/-! ### min(xs), xs a list or a tuple of data that can be compared -/
def mnIx (xs : List PyData) : Nat := argBest (fun i j => PySem.W.dataLt (xs.getD i .none) (xs.getD j .none)) (xs.length - 1)
def rMinG (K : PySem.W.Frag) : List V → Hp → VK → Prop := fun vs H Q => ∃ (a : Addr) (bs : List DV), vs = [.ref a] ∧ SqL K H a (bs.map (·.1)) ∧ (∀ b ∈ bs, Dp K H b.1 b.2 ∧ b.2.depth ≤ 60) ∧ PySem.W.AlikeAll (bs.map (·.2)) ∧ 0 < bs.length ∧ bs.length ≤ 1000000 ∧
  ∀ b, bs[mnIx (bs.map (·.2))]? = some b → Q b.1 H
theorem each_reads {h : Heap} : ∀ {vs : List Value} {bs : List DV}, PySem.W.EachIs (fun u (b : DV) => ∃ as, Reads h u b.2 as) vs bs → ∃ as, ReadsAll h vs (bs.map (·.2)) as
  | _, _, .nil => ⟨_, .nil⟩
  | _, _, .cons r t => by
    obtain ⟨as, r⟩ := r
    obtain ⟨bs, t⟩ := each_reads t
    exact ⟨_, .cons r t⟩
theorem each_get {R : Value → DV → Prop} : ∀ {vs : List Value} {bs : List DV}, PySem.W.EachIs R vs bs → ∀ (i : Nat) (v : Value), vs[i]? = some v → ∃ b, bs[i]? = some b ∧ R v b
  | _, _, .nil, i, v, e => by simp at e
  | _, _, .cons r t, 0, v, e => by
    simp only [List.getElem?_cons_zero, Option.some.injEq] at e
    subst e
    exact ⟨_, rfl, r⟩
  | _, _, .cons r t, i + 1, v, e => by
    simp only [List.getElem?_cons_succ] at e ⊢
    exact each_get t i v e
theorem each_len {R : Value → DV → Prop} : ∀ {vs : List Value} {bs : List DV}, PySem.W.EachIs R vs bs → vs.length = bs.length
  | _, _, .nil => rfl
  | _, _, .cons r t => by simp [each_len t]
theorem depths_le {xs : List PyData} {k : Nat} (h : ∀ x ∈ xs, x.depth ≤ k) : PyData.depthAll xs ≤ k := by
  induction xs with
  | nil => simp [PyData.depthAll]
  | cons a l ih =>
    have := h a List.mem_cons_self
    have := ih fun x hx => h x (List.mem_cons_of_mem _ hx)
    simp only [PyData.depthAll]; omega
theorem cr_minG {X : Cx} (hc : X.calm = true) (hu : X.A.units + 64 < cLine) : CallR X (.builtin "min") (rMinG X.K) := by
  intro pins s σ H xs us Q I r h
  obtain ⟨a, bs, rfl, hq, hb, hal, hne, hz, q⟩ := h
  obtain ⟨u, rfl, ru⟩ := vals1 r
  cases ru
  obtain ⟨its, rv, p, _⟩ := I.list hq
  obtain ⟨e1, e2⟩ := each_dv I rv fun b hb' => (hb b hb').1
  obtain ⟨as, hr⟩ := each_reads e2
  have hl := each_len e1
  have hd : PyData.depthAll (bs.map (·.2)) ≤ 60 := depths_le fun x hx => by obtain ⟨b, h1, rfl⟩ := List.mem_map.mp hx; exact (hb b h1).2
  have hr' : ReadsAll s.heap its.toArray.toList (bs.map (·.2)) as := by simpa using hr
  refine PySem.call_min_walkH (PySem.W.iter_listW (A := X.A.in1) (I.ok.hd hc) p.isList fun s₂ e W st hfp hw hk => ?_)
  refine ⟨_, _, _, _, _, _, _, s.heap, _, rfl, W, st, hfp, by simp; omega, hw, hk, PySem.W.cmpIn_lt (A := X.A.in1) hr' hal (by show X.A.units + 1 + _ < _; omega), fun v s' hP m => ?_⟩
  obtain ⟨h', tk, rfl, hk'⟩ := PySem.W.moved_old e rfl m
  have hsz : its.toArray.size - 1 = (bs.map (·.2)).length - 1 := by simp [hl]
  rw [hsz] at hP
  have hP' : its[mnIx (bs.map (·.2))]? = some v := by simpa [mnIx] using hP
  obtain ⟨b, h1, h2⟩ := each_get e1 _ v hP'
  exact ⟨b.1, H, I.kept hk', h2, q b h1⟩
structure OkMin (xs : List D) : Prop where
  py : ∀ x ∈ xs, (py x).isSome = true ∧ (enc x).depth ≤ 60
  al : PySem.W.AlikeAll (xs.map enc)
  ne : 0 < xs.length
  few : xs.length ≤ 1000000
open Classical in
noncomputable def gMin (ds : List D) (m : Me) : Res D := match ds with
  | [d] => match lstV m d with
    | some xs => if OkMin xs then .ok (xs.getD (mnIx (xs.map enc)) .non) m else .no
    | none => .no
  | _ => .no
theorem g_min {K : PySem.W.Frag} : GC K (rMinG K) gMin := fun Ex H μ m ds vs Q hH rr q => by
  unfold gMin at q
  split at q
  case h_2 => exact q.elim
  rename_i d
  obtain ⟨v, rfl, r⟩ := rvs1 rr
  split at q
  case h_2 => exact q.elim
  rename_i xs e
  split at q
  case isFalse => exact q.elim
  rename_i ok
  obtain ⟨a, vs, rfl, ha, hz, hr⟩ := lstV_of hH r e
  obtain ⟨ts, rfl, rfl, ht⟩ := pairs_rvs hr
  have e3 : (ts.map fun t => (t.2, enc t.1)).map (·.2) = (ts.map (·.1)).map enc := by rw [List.map_map, List.map_map]; rfl
  refine ⟨a, ts.map fun t => (t.2, enc t.1), rfl, ?_, ?_, ?_, ?_, ?_, fun b hb => ?_⟩
  · rw [List.map_map]; exact .of ha
  · intro b hb
    obtain ⟨t, h1, rfl⟩ := List.mem_map.mp hb
    obtain ⟨h2, h3⟩ := ok.py t.1 (List.mem_map_of_mem h1)
    exact ⟨enc_dp (ht t h1) h2, h3⟩
  · rw [e3]; exact ok.al
  · have := ok.ne; simpa using this
  · have := ok.few; simpa using this
  · rw [e3] at hb
    generalize mnIx ((ts.map (·.1)).map enc) = i at hb q
    rw [List.getElem?_map] at hb
    cases e4 : ts[i]? with
    | none => rw [e4] at hb; cases hb
    | some t =>
      rw [e4] at hb
      cases hb
      have e5 : (ts.map (·.1)).getD i .non = t.1 := by rw [List.getD_eq_getElem?_getD, List.getElem?_map, e4]; rfl
      rw [e5] at q
      exact q _ H μ .refl hH (ht t (List.mem_of_getElem? e4))
/-! ### sorted(d), all keys numbers -/
def ikeys : List (Key × D) → Option (List Int)
  | [] => some []
  | (.inl i, _) :: r => (ikeys r).map (i :: ·)
  | _ => none
def leI (a b : Int) : Bool := decide (a ≤ b)
def gSortDI (ds : List D) (m : Me) : Res D := match ds with
  | [d] => match view m d with
    | .dct kvs => match ikeys kvs with
      | some ks => if ks.length < 64 then .ok (.lst ((ks.mergeSort leI).map .int)) m else .no
      | none => .no
    | _ => .no
  | _ => .no
theorem ikeys_rv {K : PySem.W.Frag} {H : Hp} {μ : Mu} : ∀ {kvs : List (Key × D)} {ps : List (Key × V)} {ks : List Int}, RVq K H μ kvs ps → ikeys kvs = some ks → ps.map (·.1) = ks.map Sum.inl
  | [], [], ks, _, e => by cases e; rfl
  | (k, d) :: kvs, (k', v) :: ps, ks, r, e => by
    cases r with
    | cons r1 r2 =>
      obtain rfl : k = k' := r1.1
      cases k with
      | inr x => cases e
      | inl i =>
        simp only [ikeys] at e
        cases e2 : ikeys kvs with
        | none => rw [e2] at e; cases e
        | some l =>
          rw [e2] at e; cases e
          simp [ikeys_rv r2 e2]
theorem leI_sort {ys ks : List Int} (hp : ys.Perm ks) (hs : ys.Pairwise (· ≤ ·)) : ks.mergeSort leI = ys := by
  refine List.Perm.eq_of_pairwise (le := fun a b => leI a b = true) (fun a b _ _ h1 h2 => ?_) ?_ ?_ ((List.mergeSort_perm ks leI).trans hp.symm)
  · simp only [leI, decide_eq_true_eq] at h1 h2; omega
  · exact List.pairwise_mergeSort (le := leI) (fun a b c h1 h2 => by simp only [leI, decide_eq_true_eq] at *; omega) (fun a b => by simp only [leI, Bool.or_eq_true, decide_eq_true_eq]; omega) ks
  · exact hs.imp fun h => by simpa [leI] using h
theorem g_sortDI {K : PySem.W.Frag} : GC K (fun xs H Q => ∃ (a : Addr) (kvs : List (Key × V)) (ks : List Int), xs = [.ref a] ∧ Rd H a (.dK kvs) ∧ kvs.map (·.1) = ks.map Sum.inl ∧ ks.length < 64 ∧
    ∀ (ys : List Int) (p : Addr), ys.Perm ks → ys.Pairwise (· ≤ ·) → H p = none → Q (.ref p) (upd H p (.lst (ys.map V.int)))) gSortDI := fun Ex H μ m ds vs Q hH rr q => by
  unfold gSortDI at q
  split at q
  · obtain ⟨v, rfl, r⟩ := rvs1 rr
    split at q
    · rename_i d kvs e
      obtain ⟨a, ps, rfl, hs, hr⟩ := view_dct hH r e
      split at q
      · rename_i ks e2
        split at q
        · rename_i h64
          refine ⟨a, ps, ks, rfl, hs, ikeys_rv (rvk_iff.mp hr) e2, h64, fun ys p hp hsd hn => ?_⟩
          have ey := leI_sort hp hsd
          have ex := Ext.new (o := .lst (ys.map V.int)) hH hn
          refine q _ _ μ ex (hH.new hn) ?_
          simp only [RV]
          refine ⟨p, _, rfl, ⟨hH.notin hn, fun z => hH.hid _ z hn⟩, upd_same, ?_, ?_⟩
          · rw [List.length_map, hp.length_eq, sizeLine_eq]; omega
          · rw [ey]; exact ints_rv _
        · exact q.elim
      · exact q.elim
    · exact q.elim
  · exact q.elim
/-! ### d != e, of two lengths, or both empty -/
def rNeL : R2 := fun x y H Q => ∃ a b ks ls, x = .ref a ∧ y = .ref b ∧ Rd H a (.dK ks) ∧ Rd H b (.dK ls) ∧ (ks.length = ls.length → ks = []) ∧ Q (.bl (decide (ks.length ≠ ls.length))) H
theorem op_neL {X : Cx} (hu : X.A.units + 64 < cLine) : OpR X (compareOp .NotEq) rNeL := by
  intro pins s σ H x y v u Q I rx ry h
  obtain ⟨a, b, ks, ls, rfl, rfl, ea, eb, hlen, q⟩ := h
  obtain rfl : v = Value.ref a := rx
  obtain rfl : u = Value.ref b := ry
  obtain ⟨_, ya, va, ra, da⟩ := dk_rd I.hok ea
  obtain ⟨_, yb, vb, rb, db⟩ := dk_rd I.hok eb
  have l1 := ra.length
  have l2 := rb.length
  refine PySem.W.keq_ne (knd := mixKind X.prog X.w) (r := true) ya yb da db (by omega) (fun e => hits_all rb ra fun p hp => ?_) (fin_bl I q ?_)
  · rw [hlen (by omega)] at hp; cases hp
  · rw [← l1, ← l2]
    by_cases e : ks.length = ls.length <;> simp [e]
def gNeL (d d' : D) (m : Me) : Res D := match view m d, view m d' with
  | .dct ks, .dct ls => if ks.length = ls.length ∧ ks.length ≠ 0 then .no else .ok (.bl (decide (ks.length ≠ ls.length))) m
  | _, _ => .no
theorem g_neL {K : PySem.W.Frag} : G2 K rNeL gNeL := fun Ex H μ m d d' x y Q hH r1 r2 q => by
  unfold gNeL at q
  split at q
  · rename_i ks ls e1 e2
    split at q
    · exact q.elim
    · rename_i h
      obtain ⟨a, ps, rfl, h1, h2⟩ := view_dct hH r1 e1
      obtain ⟨b, qs, rfl, h3, h4⟩ := view_dct hH r2 e2
      have l1 := rvq_len (rvk_iff.mp h2)
      have l2 := rvq_len (rvk_iff.mp h4)
      refine ⟨a, b, ps, qs, rfl, rfl, h1, h3, fun e => ?_, q _ H μ .refl hH (by simp [RV, l1, l2])⟩
      cases ps with
      | nil => rfl
      | cons p ps => exact absurd ⟨by rw [l1, l2]; exact e, by rw [l1]; simp⟩ h
  · exact q.elim
/-! ### d.setdefault(k, y) -/
def mSetd (fo fk fv : ME) : ME := fun ρ m => (fo ρ m).bind fun d m => match d with
  | .ref i => match m[i]? with
    | some (.dK _) => (fk ρ m).bind fun k m => (fv ρ m).bind fun y m => match m[i]?, keyD k with
      | some (.dK kvs), some k => if kvs.length < 1000000 then match getK kvs k with
        | some v => .ok v m
        | none => .ok y (m.set i (.dK (setK kvs k y)))
        else .no
      | _, _ => .no
    | _ => .no
  | _ => .no
section
variable {X : Cx} {W : WX} {o e f : Expr} {fo fk fv : ME} {apos cpos : Pos}
theorem pd_setd (ho : PD X W o fo) (he : PD X W e fk) (hf : PD X W f fv) (mm : M2 X o "setdefault" apos e f cpos) : PD X W (.Call (.Attribute o "setdefault" apos) [e, f] [] cpos) (mSetd fo fk fv) :=
  PE.imp (pe_dsetd ho he hf mm) fun σ H Q ⟨μ, ρ, m, hH, hS, q⟩ => by
    refine seqR q hH hS fun d m1 v H1 μ1 e1 hH1 r1 hS1 q1 => ?_
    cases d with
    | ref i =>
      simp only [RVv, RV] at r1
      obtain ⟨a, rfl, ha⟩ := r1
      cases e2 : m1[i]? with
      | none => simp only [e2] at q1; exact q1.elim
      | some c =>
        cases c with
        | dK kvs0 =>
          simp only [e2] at q1
          obtain ⟨a', ea, ps0, hs0, _⟩ := hH1.at' i _ e2
          rw [ha] at ea; cases ea
          refine ⟨a, rfl, .inl ⟨ps0, .inl hs0⟩, ?_⟩
          refine seqR q1 hH1 hS1 fun k m2 z H2 μ2 e2' hH2 r2 hS2 q2 => ?_
          refine seqR q2 hH2 hS2 fun y m3 w H3 μ3 e3' hH3 r3 hS3 q3 => ?_
          have ha3 := e3'.get (e2'.get ha)
          have rk := RV.ext e3' k z r2
          cases e4 : m3[i]? with
          | none => simp only [e4] at q3; exact q3.elim
          | some c =>
            cases c with
            | dK kvs =>
              cases e5 : keyD k with
              | none => simp only [e4, e5] at q3; exact q3.elim
              | some kk =>
                simp only [e4, e5] at q3
                split at q3
                · rename_i hl
                  obtain ⟨a', ea, ps, hs, hr⟩ := hH3.at' i _ e4
                  rw [ha3] at ea; cases ea
                  have hq := rvk_iff.mp hr
                  have hlen : ps.length < sizeLine := by rw [← rvq_len hq, sizeLine_eq]; omega
                  refine ⟨ps, kk, hs, keyD_rv rk e5, hlen, fun v hv => ?_, fun hn => ?_⟩
                  · have hg := rvq_get (k := kk) hq
                    cases e6 : getK kvs kk with
                    | none =>
                      simp only [e6] at hg
                      rw [hg] at hv; cases hv
                    | some u =>
                      simp only [e6] at hg q3
                      obtain ⟨u', h1, h2⟩ := hg
                      rw [h1] at hv; cases hv
                      exact q3 _ H3 μ3 .refl hH3 h2
                  · have hg := rvq_get (k := kk) hq
                    cases e6 : getK kvs kk with
                    | some u =>
                      simp only [e6] at hg
                      obtain ⟨u', h1, h2⟩ := hg
                      rw [h1] at hn; cases hn
                    | none =>
                      simp only [e6] at q3
                      have nf : ∀ o u, H3 a ≠ some (.frz o u) := fun o u z => by rw [hs] at z; cases z
                      have x := Ext.wr (o := .dK (putK ps kk w)) hH3 ha3 nf
                      refine q3 _ _ μ3 x (hH3.wr ha3 ⟨_, upd_same, rvk_iff.mpr ?_⟩ nf) (RV.ext x _ _ r3)
                      exact L2.Paired.mapP (rvq_set r3 hq) fun p q z => ⟨z.1, RV.ext x _ _ z.2⟩
                · exact q3.elim
            | _ => simp only [e4] at q3; exact q3.elim
        | _ => simp only [e2] at q1; exact q1.elim
    | _ => exact q1.elim
end
end FL

set_option maxRecDepth 100000
namespace FL
open PySem PySem.Spec PyProof.Rows L2

/-! ### leaving a def by an exception -/
noncomputable def leaveX (m : Me) (x : Exn) (m' : Me) : Res D :=
  if m'.length = m.length then .exc x m'
  else @ite _ (x.fs.all (fun p => clo m.length p.2) = true ∧ (m'.take m.length).all (cloC m.length) = true) (Classical.propDecidable _) (.exc x (m'.take m.length)) .no
noncomputable def runDefX (N n : Nat) (f : MS) : List D → Me → Res D := fun ds m => match f (ds.map some ++ List.replicate (N - n) none) m with
  | .nx _ m' => leave m .non m'
  | .rt d m' => leave m d m'
  | .exc x _ m' => leaveX m x m'
  | _ => .no
section
variable {K : PySem.W.Frag} {H H' : Hp} {μ μ' : Mu} {m m' : Me}
theorem RX.cut {n : Nat} {x : Exn} {c : Value} {d : Option Addr} (r : RX K H μ x c d) (h : x.fs.all (fun p => clo n p.2) = true) : RX K H (μ.cut n) x c d := by
  refine ⟨r.1, ?_⟩
  have r2 := r.2
  cases d with
  | none => exact r2
  | some a => obtain ⟨fs, g1, g2⟩ := r2; exact ⟨fs, g1, Paired.all2 g2 (fun p q z y => ⟨z.1, RV.cut _ _ z.2 y⟩) h⟩
theorem RX.ext {x : Exn} {c : Value} {d : Option Addr} (r : RX K H μ x c d) (e : Ext K H μ H' μ') : RX K H' μ' x c d := by
  refine ⟨r.1, ?_⟩
  have r2 := r.2
  cases d with
  | none => exact r2
  | some a => obtain ⟨fs, g1, g2⟩ := r2; exact ⟨fs, e.xd a fs g1, L2.Paired.mapP g2 fun p q z => ⟨z.1, RV.ext e _ _ z.2⟩⟩
theorem leaveX_ok {Ex : XK} {Q : VK} {x : Exn} {c : Value} {d : Option Addr} (hH : RH K H μ m) (q : Ok K Ex H μ (RVv K) Q (leaveX m x m')) (e : Ext K H μ H' μ') (hH' : RH K H' μ' m') (r : RX K H' μ' x c d) : Ex c d H' := by
  unfold leaveX at q
  split at q
  · exact q H' μ' c d e hH' r
  · by_cases hc : x.fs.all (fun p => clo m.length p.2) = true ∧ (m'.take m.length).all (cloC m.length) = true
    · rw [if_pos hc] at q
      obtain ⟨x2, e2⟩ := e.cut (n := m.length) (by rw [hH.len])
      exact q H' _ c d x2 (hH'.cut hc.2) (r.cut hc.1)
    · rw [if_neg hc] at q; exact q.elim
end
abbrev WEx (E : XK) : WX := fun c d _ H => E c d H
section
variable {P : Program} {w : World} {K : PySem.W.Frag} {mg : Str → Option Value} {base : Heap}
theorem fn_okX {x qual : Str} {st : Stmt} {f : Addr} {fd : FuncData} {N ps : List Str} {k : Nat} (F : Fun K x qual st f fd) (S : FnScope N ps (defScope st)) {fm : MS}
    (hbody : ∀ (cdv : Value) (A : Around) (outer : List Env) (s : Shared) (H : Hp) (E : XK), Room k (A.deeper (envOfC qual (defScope st) s.heap.objs.size f cdv)) →
      Takes (cxOf (L2.CX P w) P w K mg base N qual (defScope st) f cdv A outer s H E) (WEx E) →
      PDB (cxOf (L2.CX P w) P w K mg base N qual (defScope st) f cdv A outer s H E) (WEx E) (defBody st) fm) : FnOk P w K mg base (L2.CX P w) (k + 1) f fd ps (spF K ps.length (runDefX N.length ps.length fm)) := by
  refine F.okX S (fun vs H Q E h => ?_) (fun cdv A outer s H vs Q E hr h => ?_)
  · obtain ⟨μ, m, ds, _, r, hn, _⟩ := h
    rw [← r.length, hn]
  · obtain ⟨μ, m, ds, hH, r, hn, q⟩ := h
    refine ⟨_, hbody cdv A outer s H E hr (takes_of rfl rfl rfl rfl), μ, _, m, hH, start_rs r hn, ?_⟩
    unfold runDefX at q
    cases e : fm (ds.map some ++ List.replicate (N.length - ps.length) none) m with
    | no => simp only [e] at q; exact q
    | exc x ρ m' => simp only [e] at q; exact fun σ' H' μ' c d x' hH' hS' r' => leaveX_ok hH q x' hH' r'
    | bk ρ m' => simp only [e] at q; exact q.elim
    | ct ρ m' => simp only [e] at q; exact q.elim
    | nx ρ m' => simp only [e] at q; exact fun σ' H' μ' x hH' hS' => leave_ok hH q x hH' (by simp [RV])
    | rt d m' => simp only [e] at q; exact fun v H' μ' x hH' r' => leave_ok hH q x hH' r'
theorem fn_zeroX {f : Addr} {fd : FuncData} {ps : List Str} {n : Nat} : FnOk P w K mg base (L2.CX P w) 0 f fd ps (spF K n fun _ _ => .no) := by
  have no : ∀ vs H Q E, ¬ spF K n (fun _ _ => .no) vs H Q E := fun vs H Q E ⟨_, _, _, _, _, _, q⟩ => q
  exact ⟨fun vs H Q E h => absurd h (no vs H Q E), fun A outer s H args us vs Q E _ _ _ _ h => absurd h (no vs H Q E)⟩
end
/-! ### calls that may raise -/
def mCallX (F : List D → Me → Res D) (fa : MA) : ME := fun ρ m => (fa ρ m).bind F
def mMethX (C : Addr) (x : Str) (F : List D → Me → Res D) (fo : ME) (fa : MA) : ME := fun ρ m => (fo ρ m).bind fun d m => match d with
  | .ref i => match m[i]? with
    | some (.ins C' fs) => if C' = C ∧ fs.lookup x = none then (fa ρ m).bind fun ds m => F (.ref i :: ds) m else .no
    | _ => .no
  | _ => .no
section
variable {X : Cx} {W : WX} {k n : Nat} {f C : Addr} {fd : FuncData} {ps : List Str} {x : Str} {p pos apos : Pos} {e o : Expr} {es : List Expr} {Fm : List D → Me → Res D} {fo : ME} {fa : MA}
theorem pd_callX (tk : Takes X W) (G : FnOk X.prog X.w X.K X.mg X.base (L2.CX X.prog X.w) k f fd ps (spF X.K n Fm)) (hr : Room k X.A) (hg : Gl X x) (hm : X.mg x = some (.ref f)) (hk : PySem.W.keepIn X.K (.ref f) = true) (hb : Binds X.K fd ps [])
    (ha : PDA X W n (e :: es) fa) (hdb : (x == ("__debug__" : Str)) = false := by decide) (he : starEach (e :: es) X.env = (false, eval e X.env) :: starEach es X.env := by rfl) (hpl : (backTo pos (starEach es X.env)).any (·.1) = false := by rfl) :
    PD X W (.Call (.Name x p) (e :: es) [] pos) (mCallX Fm fa) :=
  PE.imp (pe_callS (E := fun σ c d H => W c d σ H) G hr hg hm hk hb (fun σ => passAt tk σ) ha hdb he hpl) fun σ H Q ⟨μ, ρ, m, hH, hS, q⟩ => seqR q hH hS fun ds m1 vs H1 μ1 e1 hH1 r1 hS1 q1 =>
    ⟨μ1, m1, ds, hH1, r1.1, r1.2, q1⟩
/-- a def that may raise, called where it does not -/
theorem pd_call1 (G : FnOk X.prog X.w X.K X.mg X.base (L2.CX X.prog X.w) k f fd ps (spF X.K n Fm)) (hr : Room k X.A) (hg : Gl X x) (hm : X.mg x = some (.ref f)) (hk : PySem.W.keepIn X.K (.ref f) = true) (hb : Binds X.K fd ps [])
    (ha : PDA X W n (e :: es) fa) (hdb : (x == ("__debug__" : Str)) = false := by decide) (he : starEach (e :: es) X.env = (false, eval e X.env) :: starEach es X.env := by rfl) (hpl : (backTo pos (starEach es X.env)).any (·.1) = false := by rfl) :
    PD X W (.Call (.Name x p) (e :: es) [] pos) (mCall Fm fa) :=
  PE.imp (pe_call G hr hg hm hk hb .nil passL ha hdb he hpl) fun σ H Q ⟨μ, ρ, m, hH, hS, q⟩ => seqR q hH hS fun ds m1 vs H1 μ1 e1 hH1 r1 hS1 q1 => by
    refine ⟨μ1, m1, ds, hH1, by simpa using r1.1, r1.2, Ok.noX' q1⟩
def tMethS (C : Addr) (m : Str) (sp : Sp) (E : L2.St → XK) (ta : TE) (t : TA) : TE := fun σ H Q => ta σ H fun x H1 => ∃ (a dx : Addr) (fs : List (Str × V)), x = .ref a ∧ H1 a = some (.ins C dx fs) ∧ fs.lookup m = none ∧ t σ H1 fun vs H2 => sp (.ref a :: vs) H2 Q (E σ)
theorem pe_methS {CX : CXT} {sp : Sp} {E : L2.St → XK} {m : Str} {ta : TE} {t : TA} (pl : Sem Bool) (he : PE X o ta) (c : Cls X.K C) (hm : Meth X.K C m f) (F : FnOk X.prog X.w X.K X.mg X.base CX k f fd ps sp) (hr : Room k X.A) (hb : Binds X.K fd ps []) (hx : ∀ σ, PassesAt CX X σ (E σ)) (ha : PA X (e :: es) t)
    (hst : starEach (e :: es) X.env = (false, eval e X.env) :: starEach es X.env := by rfl) (hpl : (backTo pos (starEach es X.env)).any (·.1) = false := by rfl)
    (ht : eval (.Call (.Attribute o m apos) (e :: es) [] pos) X.env = (do
      let ov ← eval o X.env
      standAt apos.atName
      let (f, first) ← holding [ov] (getMethod ov m pl)
      callWith pos f first (backTo pos (starEach (e :: es) X.env)) (backToKw pos (keywordEach [] X.env))) := by rfl) :
    PE X (.Call (.Attribute o m apos) (e :: es) [] pos) (tMethS C m sp E ta t) := by
  refine ⟨fun pins s σ H Q I h => ?_⟩
  refine PySem.W.methodCall_KW (pl := pl) (thn (he.run pins s σ H _ I h) fun u s1 ⟨x, H1, I1, rx, a, dx, fs, ex, ea, l, q⟩ => ?_) ht
  subst ex
  obtain rfl : u = Value.ref a := rx
  refine getmeth_ok I1 ea c hm l ?_
  refine PySem.W.callWith_K (first := [.ref a]) (h₀ := X.base) I.ok.mod.kin hm.kp (thn (ha.run pos pins s1 σ H1 _ I1 q) fun us s2 ⟨vs, H2, I2, r, q2⟩ => ⟨I2.kIn, ?_⟩) hst hpl
  exact run_fnS (us := .ref a :: us) (vs := .ref a :: vs) F hr hb (hx σ) I2 (.cons rfl r) q2
theorem pe_methS0 {CX : CXT} {sp : Sp} {E : L2.St → XK} {m : Str} {ta : TE} (pl : Sem Bool) (he : PE X o ta) (c : Cls X.K C) (hm : Meth X.K C m f) (F : FnOk X.prog X.w X.K X.mg X.base CX k f fd ps sp) (hr : Room k X.A) (hb : Binds X.K fd ps []) (hx : ∀ σ, PassesAt CX X σ (E σ))
    (ht : eval (.Call (.Attribute o m apos) [] [] pos) X.env = (do
      let ov ← eval o X.env
      standAt apos.atName
      let (f, first) ← holding [ov] (getMethod ov m pl)
      callWith pos f first (backTo pos (starEach [] X.env)) (backToKw pos (keywordEach [] X.env))) := by rfl) :
    PE X (.Call (.Attribute o m apos) [] [] pos) (tMethS C m sp E ta tNil) := by
  refine ⟨fun pins s σ H Q I h => ?_⟩
  refine PySem.W.methodCall_KW (pl := pl) (thn (he.run pins s σ H _ I h) fun u s1 ⟨x, H1, I1, rx, a, dx, fs, ex, ea, l, q⟩ => ?_) ht
  subst ex
  obtain rfl : u = Value.ref a := rx
  refine getmeth_ok I1 ea c hm l ?_
  exact PySem.W.callWith_K0 (first := [.ref a]) I1.kIn hm.kp (run_fnS (us := [.ref a]) (vs := [.ref a]) F hr hb (hx σ) I1 (.cons rfl .nil) q)
theorem methS_imp {t : TA} {tq : TE} (ht : t = tR X.K W (RVn X.K n) fa) (ho : tq = tR X.K W (RVv X.K) fo) : ∀ σ H Q, tR X.K W (RVv X.K) (mMethX C x Fm fo fa) σ H Q → tMethS C x (spF X.K (n + 1) Fm) (fun σ c d H => W c d σ H) tq t σ H Q := fun σ H Q ⟨μ, ρ, m, hH, hS, q⟩ => by
  subst ht ho
  refine seqR q hH hS fun d m1 v H1 μ1 e1 hH1 r1 hS1 q1 => ?_
  split at q1
  case h_2 => exact q1.elim
  rename_i i
  split at q1
  case h_2 => exact q1.elim
  rename_i C' fs ei
  split at q1
  case isFalse => exact q1.elim
  rename_i hC
  obtain ⟨hC, hl⟩ := hC
  subst hC
  obtain ⟨a, dx, gs, rfl, ha, h1, h2⟩ := ins_of hH1 r1 ei
  have hl' := lookA (f := x) h2
  rw [hl] at hl'
  refine ⟨a, dx, gs, rfl, h1, hl', ?_⟩
  refine seqR q1 hH1 hS1 fun ds m2 vs H2 μ2 e2 hH2 r2 hS2 q2 => ?_
  refine ⟨μ2, m2, .ref i :: ds, hH2, ?_, by simp [r2.2], q2⟩
  simp only [RVs]
  exact ⟨_, _, rfl, RV.ext e2 _ _ r1, by simpa using r2.1⟩
theorem pd_methX (tk : Takes X W) (pl : Sem Bool) (c : Cls X.K C) (hm : Meth X.K C x f) (G : FnOk X.prog X.w X.K X.mg X.base (L2.CX X.prog X.w) k f fd ps (spF X.K (n + 1) Fm)) (hr : Room k X.A) (hb : Binds X.K fd ps []) (ho : PD X W o fo) (ha : PDA X W n (e :: es) fa)
    (hst : starEach (e :: es) X.env = (false, eval e X.env) :: starEach es X.env := by rfl) (hpl : (backTo pos (starEach es X.env)).any (·.1) = false := by rfl)
    (ht : eval (.Call (.Attribute o x apos) (e :: es) [] pos) X.env = (do
      let ov ← eval o X.env
      standAt apos.atName
      let (f, first) ← holding [ov] (getMethod ov x pl)
      callWith pos f first (backTo pos (starEach (e :: es) X.env)) (backToKw pos (keywordEach [] X.env))) := by rfl) : PD X W (.Call (.Attribute o x apos) (e :: es) [] pos) (mMethX C x Fm fo fa) :=
  PE.imp (pe_methS pl ho c hm G hr hb (fun σ => passAt tk σ) ha hst hpl ht) (methS_imp rfl rfl)
theorem nil_rn : PDA X W 0 [] mNil := pda_nil
theorem pd_methX0 (tk : Takes X W) (pl : Sem Bool) (c : Cls X.K C) (hm : Meth X.K C x f) (G : FnOk X.prog X.w X.K X.mg X.base (L2.CX X.prog X.w) k f fd ps (spF X.K (0 + 1) Fm)) (hr : Room k X.A) (hb : Binds X.K fd ps []) (ho : PD X W o fo)
    (ht : eval (.Call (.Attribute o x apos) [] [] pos) X.env = (do
      let ov ← eval o X.env
      standAt apos.atName
      let (f, first) ← holding [ov] (getMethod ov x pl)
      callWith pos f first (backTo pos (starEach [] X.env)) (backToKw pos (keywordEach [] X.env))) := by rfl) : PD X W (.Call (.Attribute o x apos) [] [] pos) (mMethX C x Fm fo mNil) :=
  PE.imp (pe_methS0 (E := fun σ c d H => W c d σ H) pl ho c hm G hr hb (fun σ => passAt tk σ) ht) fun σ H Q ⟨μ, ρ, m, hH, hS, q⟩ => by
    refine seqR q hH hS fun d m1 v H1 μ1 e1 hH1 r1 hS1 q1 => ?_
    split at q1
    case h_2 => exact q1.elim
    rename_i i
    split at q1
    case h_2 => exact q1.elim
    rename_i C' fs ei
    split at q1
    case isFalse => exact q1.elim
    rename_i hC
    obtain ⟨hC, hl⟩ := hC
    subst hC
    obtain ⟨a, dx, gs, rfl, ha, h1, h2⟩ := ins_of hH1 r1 ei
    have hl' := lookA (f := x) h2
    rw [hl] at hl'
    refine ⟨a, dx, gs, rfl, h1, hl', ?_⟩
    refine ⟨μ1, m1, [.ref i], hH1, ?_, rfl, q1⟩
    simp only [RVs]
    exact ⟨_, _, rfl, r1, rfl⟩
end
/-! ### a statement that is never reached -/
def sNever : MS := fun _ _ => .no
theorem pds_never {X : Cx} {W : WX} {st : Stmt} : PDS X W st sNever := PS.imp ps_never fun D σ H ⟨μ, ρ, m, hH, hS, q⟩ => q
/-! ### an own exception is made and raised -/
/-- StayError.__init__(self, ..) -/
theorem pe_sinit {X : Cx} {S : Addr} {y : Str} {mc : Value} {e : Expr} {es : List Expr} {ta : TA} {p1 p2 pos : Pos} {pl : Sem Bool} (hg : Gl X y) (hm : X.mg y = some (.ref S)) (hgt : PySem.W.specialIn X.K (.ref S) "__getattribute__" = some (some (.builtin "type.__getattribute__")))
    (hrd : PySem.W.readsIn X.K S mc = true) (vV : PySem.W.findCls X.K (.ref S) mc "__init__" = some (.val (.builtin "ValueError.__init__"))) (ha : PA X (e :: es) ta) (hd : (y == ("__debug__" : Str)) = false := by decide)
    (hc : eval (.Call (.Attribute (.Name y p1) "__init__" p2) (e :: es) [] pos) X.env = (do
      let ov ← eval (.Name y p1) X.env
      standAt p2.atName
      let (f, first) ← holding [ov] (getMethod ov "__init__" pl)
      callWith pos f first (backTo pos (starEach (e :: es) X.env)) (backToKw pos (keywordEach [] X.env))) := by rfl)
    (he : starEach (e :: es) X.env = (false, eval e X.env) :: starEach es X.env := by rfl) (hpl : (backTo pos (starEach es X.env)).any (·.1) = false := by rfl) :
    PE X (.Call (.Attribute (.Name y p1) "__init__" p2) (e :: es) [] pos) (tVeI X.K ta) := by
  refine ⟨fun pins s σ H Q I h => ?_⟩
  refine PySem.W.methodCall_KW (ld_glob I hg hm ?_ hd) hc
  refine PySem.W.method_cls I.kIn hgt (PySem.W.cls_value I.kIn hrd vV (by decide +kernel) ?_)
  show wpAny _ _ (callWith pos (Value.builtin "ValueError.__init__") [] (backTo pos (starEach (e :: es) X.env)) []) _ _ _
  refine PyProof.Rows.callWith_method1 (thn (ha.run pos pins _ σ H _ (I.tok _) h) fun us s1 ⟨vs, H1, I1, r1, a, C, ws, ev, hl, T, ea, q⟩ => ?_) he hpl
  subst ev
  cases r1 with
  | @cons _ u0 _ ur ra rw' =>
    obtain rfl : u0 = Value.ref a := ra
    have hlen : ur.length ≤ sizeLine := by
      rw [← Paired.length rw', sizeLine_eq]
      omega
    exact oinit_ok T I1 ea hlen fun s' J => ⟨.non, H1, J, rfl, q⟩
/-- what an own __init__ does: pre what it asks of what it is handed, fl the fields that it lays -/
def spI (K : PySem.W.Frag) (C : Addr) (np : Nat) (pre : List V → Prop) (fl : List V → List (Str × V)) : Sp := fun vs H Q E => ∃ (a : Addr) (ws : List V), vs = .ref a :: ws ∧ ws.length = np ∧ pre ws ∧ OexC K C ∧ H a = some (exo a C none) ∧
  ∀ dx, H dx = none → dx ≠ a → Q .non (upd (upd H dx (exd dx (fl ws))) a (exo a C (some dx)))
/-- what stands at the top of such a class -/
structure RsC (P : Program) (w : World) (K : PySem.W.Frag) (mg : Str → Option Value) (base : Heap) (C : Addr) (np : Nat) (pre : List V → Prop) (fl : List V → List (Str × V)) where
  fI : Addr
  fd : FuncData
  ps : List Str
  T : OexC K C
  iC : PySem.W.findIn K (.ref C) "__init__" = some (some (.ref fI))
  tI : PySem.W.typeIn K (.ref fI) = some (.type "function")
  F1 : FnOk P w K mg base CX0 1 fI fd ps (spI K C np pre fl)
  b : Binds K fd ps []
/-- C(..), raised: at fuel n -/
def rsF (C : Addr) (np : Nat) (okD : List D → Bool) (flD : List D → List (Str × D)) : Nat → List D → Me → Res D
  | n + 3 => fun ds m => if ds.isEmpty = true then .ok .non m else if ds.length = np ∧ okD ds = true then .exc ⟨.ref C, flD ds⟩ m else .no
  | _ => fun _ _ => .no
def sRaise (F : List D → Me → Res D) (fa : MA) : MS := fun ρ m => match F [] m with
  | .ok _ _ => bindS ((fa ρ m).bind F) ρ fun _ _ => .no
  | _ => .no
theorem upd_del {H1 : Hp} {a dx C : Addr} {fs : List (Str × V)} {d0 : Option Addr} (hn : H1 a = none) (hd : dx ≠ a) : upd (del (upd (upd (upd H1 a (exo a C d0)) dx (exd dx fs)) a (exo a C (some dx))) a) dx (.xd fs) = upd H1 dx (.xd fs) := by
  funext b
  by_cases h1 : b = dx
  · subst h1; rw [upd_same, upd_same]
  · rw [upd_ne h1, upd_ne h1]
    by_cases h2 : b = a
    · subst h2; rw [del_same, hn]
    · rw [del_ne h2, upd_ne h2, upd_ne h1, upd_ne h2]
theorem pds_raise {X : Cx} {W : WX} {C : Addr} {x : Str} {np n : Nat} {pre : List V → Prop} {fl : List V → List (Str × V)} {okD : List D → Bool} {flD : List D → List (Str × D)} {e : Expr} {es : List Expr} {fa : MA} {p pos pos2 : Pos} (hc : X.calm = true) (tk : Takes X W)
    (R : RsC X.prog X.w X.K X.mg X.base C np pre fl) (hpre : ∀ H μ ds vs, RVs X.K H μ ds vs → okD ds = true → pre vs) (hfl : ∀ H μ ds vs, RVs X.K H μ ds vs → ds.length = np → Paired (fun (p : Str × D) (q : Str × V) => p.1 = q.1 ∧ RV X.K H μ p.2 q.2) (flD ds) (fl vs))
    (hr : Room n X.A) (hg : Gl X x) (hm : X.mg x = some (.ref C)) (ha : PDA X W np (e :: es) fa) (hnp : np ≤ 1000 := by decide) (hdb : (x == ("__debug__" : Str)) = false := by decide) (he : starEach (e :: es) X.env = (false, eval e X.env) :: starEach es X.env := by rfl) (hpl : (backTo pos (starEach es X.env)).any (·.1) = false := by rfl) :
    PDS X W (.Raise (some (.Call (.Name x p) (e :: es) [] pos)) none pos2) (sRaise (rsF C np okD flD n) fa) := by
  match n, hr with
  | 0, _ => exact PS.imp ps_never fun D σ H ⟨μ, ρ, m, hH, hS, q⟩ => q
  | 1, _ => exact PS.imp ps_never fun D σ H ⟨μ, ρ, m, hH, hS, q⟩ => q
  | 2, _ => exact PS.imp ps_never fun D σ H ⟨μ, ρ, m, hH, hS, q⟩ => q
  | n + 3, hr =>
    refine PS.imp (ps_raise hc tk (pmk_oex R.T R.iC R.tI R.F1 (hr.mono (by omega)) R.b .nil pass0 hg hm ha hdb he hpl)) fun D σ H ⟨μ, ρ, m, hH, hS, q⟩ => ?_
    have q' : OkS X.K W H μ D (bindS ((fa ρ m).bind (rsF C np okD flD (n + 3))) ρ fun _ _ => .no) := q
    have hcomb : (bindS ((fa ρ m).bind (rsF C np okD flD (n + 3))) ρ fun _ _ => Fl.no) = bindS (fa ρ m) ρ fun ds m1 => bindS (rsF C np okD flD (n + 3) ds m1) ρ fun _ _ => .no := by
      cases fa ρ m <;> rfl
    rw [hcomb] at q'
    show tR X.K W (RVn X.K np) fa σ H _
    refine seqS q' hH hS fun ds m1 vs H1 μ1 e1 hH1 r1 hS1 q1 => ?_
    have hl := r1.1.length
    have hq : ds.isEmpty = false ∧ (ds.length = np ∧ okD ds = true) := by
      unfold rsF at q1
      cases hds : ds.isEmpty with
      | true => simp [hds, OkS] at q1
      | false =>
        refine ⟨rfl, ?_⟩
        by_cases hc : ds.length = np ∧ okD ds = true
        · exact hc
        · simp [hds, hc, OkS] at q1
    have q2 : OkS X.K W H1 μ1 D (.exc ⟨.ref C, flD ds⟩ ρ m1) := by
      have e3 : rsF C np okD flD (n + 3) ds m1 = .exc ⟨.ref C, flD ds⟩ m1 := by
        show (if ds.isEmpty = true then _ else if ds.length = np ∧ okD ds = true then _ else _) = _
        rw [if_neg (by rw [hq.1]; decide), if_pos hq.2]
      rw [e3] at q1
      exact q1
    refine ⟨by rw [← hl, r1.2]; exact hnp, fun a ha => ⟨a, vs, by rw [List.append_nil], by rw [← hl, r1.2], hpre _ _ _ _ r1.1 hq.2.2, R.T, upd_same, fun dx hdx hne => ⟨rfl, dx, fl vs, upd_same, by rw [upd_ne hne, upd_same], by rw [upd_ne hne] at hdx; exact hdx, ?_⟩⟩⟩
    have hdx' : H1 dx = none := by rw [upd_ne hne] at hdx; exact hdx
    rw [upd_del ha hne]
    have ex := Ext.new (o := .xd (fl vs)) hH1 hdx'
    exact q2 σ _ μ1 _ _ ex (hH1.new hdx') (hS1.ext ex) ⟨rfl, fl vs, upd_same, L2.Paired.mapP (hfl _ _ _ _ r1.1 hq.2.1) fun p q z => ⟨z.1, RV.ext ex _ _ z.2⟩⟩
end FL

set_option maxRecDepth 100000
namespace FL
open PySem PySem.Spec PyProof.Rows L2

/-! ### what stands in a suite: the exception x is at a, its class C, its dict d, its name's slot i -/
def tRX {α β : Type} (K : PySem.W.Frag) (C : Addr) (d : Option Addr) (i : Nat) (a : Addr) (R : Hp → Mu → α → β → Prop) (f : Exn → En → Me → Res α) : L2.St → Hp → (β → Hp → Prop) → Prop :=
  fun σ H Q => ∃ μ ρ m x, RH K H μ m ∧ RS K H μ ρ σ ∧ σ[i]? = some (some (.ref a)) ∧ RX K H μ x (.ref C) d ∧ Ok K (fun _ _ _ => False) H μ R Q (f x ρ m)
def tSX (K : PySem.W.Frag) (C : Addr) (d : Option Addr) (i : Nat) (a : Addr) (f : Exn → MS) : TS := fun D σ H => ∃ μ ρ m x, RH K H μ m ∧ RS K H μ ρ σ ∧ σ[i]? = some (some (.ref a)) ∧ RX K H μ x (.ref C) d ∧ OkS K WF H μ D (f x ρ m)
abbrev PDX (X : Cx) (C : Addr) (d : Option Addr) (i : Nat) (a : Addr) (e : Expr) (f : Exn → ME) : Prop := PE X e (tRX X.K C d i a (RVv X.K) f)
abbrev PTX (X : Cx) (C : Addr) (d : Option Addr) (i : Nat) (a : Addr) (e : Expr) (f : Exn → MT) : Prop := PT X e (tRX X.K C d i a RVB f)
abbrev PWX (X : Cx) (C : Addr) (d : Option Addr) (i : Nat) (a : Addr) (e : Expr) (f : Exn → MT) : Prop := PW X e (tRX X.K C d i a RVB f)
abbrev PAX (X : Cx) (C : Addr) (d : Option Addr) (i : Nat) (a : Addr) (n : Nat) (es : List Expr) (f : Exn → MA) : Prop := PA X es (tRX X.K C d i a (RVn X.K n) f)
abbrev PSX (X : Cx) (C : Addr) (d : Option Addr) (i : Nat) (a : Addr) (sts : List Stmt) (f : Exn → MS) : Prop := PSs X sts (tSX X.K C d i a f)
section
variable {K : PySem.W.Frag} {C : Addr} {d : Option Addr} {i : Nat} {a : Addr} {H H1 : Hp} {μ μ1 : Mu} {m : Me} {ρ : En} {σ : L2.St} {x : Exn}
theorem seqX {α β γ δ : Type} {R : Hp → Mu → α → β → Prop} {R' : Hp → Mu → γ → δ → Prop} {Q : δ → Hp → Prop} {Q1 : β → Hp → Prop} {f : Exn → En → Me → Res α} {g : α → Me → Res γ}
    (q : Ok K (fun _ _ _ => False) H μ R' Q ((f x ρ m).bind g)) (hH : RH K H μ m) (hS : RS K H μ ρ σ) (hi : σ[i]? = some (some (.ref a))) (hx : RX K H μ x (.ref C) d)
    (h : ∀ y m1 v H1 μ1, Ext K H μ H1 μ1 → RH K H1 μ1 m1 → R H1 μ1 y v → RS K H1 μ1 ρ σ → RX K H1 μ1 x (.ref C) d → Ok K (fun _ _ _ => False) H1 μ1 R' Q (g y m1) → Q1 v H1) : tRX K C d i a R f σ H Q1 := by
  refine ⟨μ, ρ, m, x, hH, hS, hi, hx, ?_⟩
  cases e : f x ρ m with
  | no => rw [e] at q; exact q
  | exc x m' => rw [e] at q; exact q
  | ok y m1 => rw [e] at q; exact fun v H1 μ1 x hH1 r => h y m1 v H1 μ1 x hH1 r (hS.ext x) (hx.ext x) (q.ext x)
end
section
variable {X : Cx} {C : Addr} {d : Option Addr} {i : Nat} {a : Addr} {e b c : Expr} {es : List Expr} {pos p : Pos} {f g h : Exn → ME} {n : Nat}
/-- what does not look at the exception -/
theorem pdx_of {f : ME} (h : PD X WF e f) : PDX X C d i a e (fun _ => f) := h.imp fun σ H Q ⟨μ, ρ, m, x, hH, hS, _, _, q⟩ => ⟨μ, ρ, m, hH, hS, by
  dsimp only at q
  cases e2 : f ρ m with
  | no => rw [e2] at q; exact q
  | exc x m' => rw [e2] at q; exact fun H' μ' c d e hH r => q H' μ' c d e hH r
  | ok y m1 => rw [e2] at q; exact q⟩
theorem pax_nil : PAX X C d i a 0 [] (fun _ => mNil) := PA.imp pa_nil fun σ H Q ⟨μ, ρ, m, x, hH, hS, _, _, q⟩ => q [] H μ .refl hH ⟨by simp [RVs], rfl⟩
theorem pax_cons {g : Exn → MA} (he : PDX X C d i a e f) (hr : PAX X C d i a n es g) (hs : starEach (e :: es) X.env = (false, eval e X.env) :: starEach es X.env := by rfl) : PAX X C d i a (n + 1) (e :: es) (fun x => mCons (f x) (g x)) :=
  PA.imp (pa_cons he hr hs) fun σ H Q ⟨μ, ρ, m, x, hH, hS, hi, hx, q⟩ => by
    refine seqX q hH hS hi hx fun y m1 v H1 μ1 e1 hH1 r1 hS1 hx1 q1 => ?_
    refine seqX q1 hH1 hS1 hi hx1 fun ds m2 vs H2 μ2 e2 hH2 r2 hS2 hx2 q2 => ?_
    exact q2 (v :: vs) H2 μ2 .refl hH2 ⟨by simp only [RVs]; exact ⟨v, vs, rfl, RV.ext e2 _ v r1, r2.1⟩, by simp [r2.2]⟩
theorem pdx_tup {x1} {g : Exn → MA} (h : PAX X C d i a n es g) (hn : n ≤ 1000 := by decide) : PDX X C d i a (.Tuple es x1 pos) (fun x => mTup (g x)) :=
  (pe_tupN h).imp fun σ H Q ⟨μ, ρ, m, x, hH, hS, hi, hx, q⟩ => by
    refine seqX q hH hS hi hx fun ds m1 vs H1 μ1 e1 hH1 r1 hS1 hx1 q1 => ?_
    have hl := r1.1.length
    have hz : vs.length ≤ sizeLine := by rw [← hl, r1.2]; exact le_line hn
    refine ⟨hz, fun p o hd hp => ?_⟩
    have ex := Ext.new (o := .frz o (.tup vs)) hH1 hp
    refine q1 _ _ μ1 ex (hH1.new hp) ?_
    simp only [RV]
    exact ⟨p, vs, rfl, .inl ⟨o, upd_same, hd⟩, hz, RVs.ext ex _ _ r1.1⟩
theorem pdx_if {fc : Exn → MT} (hc : PTX X C d i a c fc) (ha : PDX X C d i a e f) (hb : PDX X C d i a b g) : PDX X C d i a (.IfExp c e b pos) (fun x => mIf (fc x) (f x) (g x)) :=
  (pe_ifExp hc ha hb).imp fun σ H Q ⟨μ, ρ, m, x, hH, hS, hi, hx, q⟩ => seqX q hH hS hi hx fun y m1 v H1 μ1 e1 hH1 r1 hS1 hx1 q1 => by
    subst r1
    cases y with
    | true => rw [if_pos rfl]; exact ⟨μ1, ρ, m1, x, hH1, hS1, hi, hx1, q1⟩
    | false => rw [if_neg Bool.false_ne_true]; exact ⟨μ1, ρ, m1, x, hH1, hS1, hi, hx1, q1⟩
theorem ptx_val (h : PDX X C d i a e f) (he : ∀ whole, isTrue e X.env whole = (do let v ← whole; standAt e.pos; holding [v] (truthy v)) := by intro _; rfl) : PTX X C d i a e (fun x => mB (f x)) :=
  (pt_val h he).imp fun σ H Q ⟨μ, ρ, m, x, hH, hS, hi, hx, q⟩ => seqX q hH hS hi hx fun y m1 v H1 μ1 e1 hH1 r1 hS1 hx1 q1 => okB hH1 r1 q1
theorem ptx_cmp {op : CmpOp} {r : R2} {g2 : D → D → Me → Res D} (ho : OpR X (compareOp op) r) (hg : G2 X.K r g2) (ha : PDX X C d i a e f) (hb : PDX X C d i a b g) (hm : behindInMarks op b = false) : PTX X C d i a (.Compare e [op] [b] pos) (fun x => mB (m2 g2 (f x) (g x))) :=
  (pt_cmpR ho ha hb hm).imp fun σ H Q ⟨μ, ρ, m, x, hH, hS, hi, hx, q⟩ => by
    have hcomb : mB (m2 g2 (f x) (g x)) ρ m = (f x ρ m).bind fun y m => (g x ρ m).bind fun z m => (g2 y z m).bind asB := by
      unfold mB m2
      cases f x ρ m with
      | no => rfl
      | exc _ _ => rfl
      | ok y m1 => simp only [Res.bind_ok]; cases g x ρ m1 <;> rfl
    dsimp only at q
    rw [hcomb] at q
    refine seqX q hH hS hi hx fun y m1 v H1 μ1 e1 hH1 r1 hS1 hx1 q1 => ?_
    refine seqX q1 hH1 hS1 hi hx1 fun z m2 v2 H2 μ2 e2 hH2 r2 hS2 hx2 q2 => ?_
    refine hg (fun _ _ _ => False) H2 μ2 m2 y z v v2 _ hH2 (RV.ext e2 _ _ r1) r2 ?_
    cases e3 : g2 y z m2 with
    | no => rw [e3] at q2; exact q2
    | exc x m' => rw [e3] at q2; exact q2
    | ok w m3 => rw [e3] at q2; exact fun u H3 μ3 x3 hH3 r3 => okB hH3 r3 (q2.ext x3)
theorem pwx_and1 {f : Exn → MT} (h : PTX X C d i a e f) : PWX X C d i a (.BoolOp .And [e] pos) f := pw_and1 h
theorem pwx_and {f g : Exn → MT} {rest : List Expr} (ha : PTX X C d i a e f) (hb : PWX X C d i a (.BoolOp .And (b :: rest) pos) g) : PWX X C d i a (.BoolOp .And (e :: b :: rest) pos) (fun x => mAnd (f x) (g x)) :=
  PW.imp (pw_and ha hb) fun σ H Q ⟨μ, ρ, m, x, hH, hS, hi, hx, q⟩ => seqX q hH hS hi hx fun y m1 v H1 μ1 e1 hH1 r1 hS1 hx1 q1 => by
    subst r1
    cases y with
    | true => exact ⟨μ1, ρ, m1, x, hH1, hS1, hi, hx1, q1⟩
    | false => exact q1 false H1 μ1 .refl hH1 rfl
theorem ptx_w {f : Exn → MT} (h : PWX X C d i a e f) : PTX X C d i a e f := PW.pt h
theorem psx_ret (he : PDX X C d i a e f) : PSX X C d i a [.Return (some e) pos] (fun x => sRet (f x)) :=
  PSs.imp (pss_cons (ps_ret he) pss_nil) fun D σ H ⟨μ, ρ, m, x, hH, hS, hi, hx, q⟩ => by
    refine ⟨μ, ρ, m, x, hH, hS, hi, hx, ?_⟩
    dsimp only at q
    unfold sRet at q
    cases e2 : f x ρ m with
    | no => rw [e2] at q; exact q
    | exc x m' => rw [e2] at q; intro H' μ' c d e hH' r; exact q σ H' μ' c d e hH' (hS.ext e) r
    | ok y m1 => rw [e2] at q; exact fun v H1 μ1 e1 hH1 r1 => q v H1 μ1 e1 hH1 r1
end
/-! ### the exception's fields, its class -/
def mXF (n : Str) : Exn → ME := fun x _ m => match x.fs.lookup n with
  | some y => .ok y m
  | none => .no
def mXI : Exn → ME := fun x _ m => if x.fs.isEmpty = true then .no else .ok (.bl true) m
theorem look_xf {K : PySem.W.Frag} {H : Hp} {μ : Mu} : ∀ {fs : List (Str × D)} {gs : List (Str × V)} {n : Str} {y : D}, Paired (fun (p : Str × D) (q : Str × V) => p.1 = q.1 ∧ RV K H μ p.2 q.2) fs gs → fs.lookup n = some y → ∃ v, gs.lookup n = some v ∧ RV K H μ y v
  | _, _, _, _, .nil, e => by cases e
  | (k, y0) :: fs, (k', v0) :: gs, n, y, .cons r t, e => by
    obtain ⟨r1, r2⟩ := r
    simp only at r1 r2
    subst r1
    by_cases hk : n = k
    · subst hk
      simp only [List.lookup, beq_self_eq_true, Option.some.injEq] at e ⊢
      subst e
      exact ⟨v0, rfl, r2⟩
    · have hk' : (n == k) = false := by simpa using hk
      simp only [List.lookup, hk'] at e ⊢
      exact look_xf t e
section
variable {X : Cx} {C : Addr} {d : Option Addr} {i : Nat} {a : Addr} {oe : Obj} {pn : List (Addr × Obj)} {pos p : Pos} {nm n : Str}
theorem pdx_fld (T : XfC X.K C) (hno : PySem.W.findIn X.K (.ref C) n = some none) (hz : Zc (.ref C) d oe) (hf : ∃ vs, oe.data = .fields vs) (hN : X.N[i]? = some nm := by rfl) (hv : Vis X.env.scope nm := by first | exact Or.inl rfl | exact Or.inr (Or.inl rfl) | exact Or.inr (Or.inr rfl))
    (hd1 : (nm == ("__debug__" : Str)) = false := by decide) (hcd : (nm == ("__classdict__" : Str)) = false := by decide) (hb : attributeBase (.Name nm p) n X.env (eval (.Name nm p) X.env) = eval (.Name nm p) X.env := by rfl) :
    PDX (X.suite a ((a, oe) :: pn)) C d i a (.Attribute (.Name nm p) n pos) (mXF n) :=
  PE.imp (pe_xf T hno hz hf (pe_var (X := X.suite a ((a, oe) :: pn)) (i := i) hN hv hd1 hcd) hb) fun σ H Q ⟨μ, ρ, m, x, hH, hS, hi, hx, q⟩ => by
    refine ⟨.ref a, hi, rfl, rfl, ?_⟩
    unfold mXF at q
    split at q
    case h_2 => exact q.elim
    rename_i y ey
    have r2 := hx.2
    cases d with
    | none =>
      have e0 : x.fs = [] := r2
      rw [e0] at ey; cases ey
    | some dd =>
      obtain ⟨fs, g1, g2⟩ := r2
      obtain ⟨v, l, rv⟩ := look_xf g2 ey
      exact ⟨dd, fs, v, rfl, g1, l, q v H μ .refl hH rv⟩
/-- what the class must say for isinstance -/
structure XiC (K : PySem.W.Frag) (C : Addr) : Prop where
  cl : (PySem.W.clsIn K C).isSome = true
  hg : PySem.W.findIn K (.ref C) "__getattribute__" = some (some (.builtin "BaseException.__getattribute__"))
  hk : PySem.W.findIn K (.ref C) "__getattr__" = some none
  hs : PySem.W.subIn K (.ref C) (.type "BaseException") = some true
  ha : PySem.W.findIn K (.ref C) "__class__" = some (some (.builtin "object.__class__"))
  hn : PySem.W.specialIn K (.builtin "object.__class__") "__get__" = some (some (.builtin "getset_descriptor.__get__"))
  ht : PySem.W.takesIn K (.builtin "object.__class__") = some true
  hm : PySem.W.mroIn K C (.type "object") = some true
  kit : PySem.W.kitOne K (.ref C) (.ref C) = some true
/-- isinstance(e, C), e the exception that the suite holds, of class C, its dict known -/
def rIsX (C a : Addr) (d : Option Addr) : List V → Hp → VK → Prop := fun xs H Q => xs = [.ref a, .ref C] ∧ (∃ dd fs, d = some dd ∧ H dd = some (.xd fs)) ∧ Q (.bl true) H
theorem call_isX (T : XiC X.K C) (hz : Zc (.ref C) d oe) (hf : ∃ vs, oe.data = .fields vs) : CallR (X.suite a ((a, oe) :: pn)) (.builtin "isinstance") (rIsX C a d) := by
  intro pins s σ H xs us Q I r h
  obtain ⟨rfl, ⟨dd, fs, ed, ea⟩, q⟩ := h
  subst ed
  cases r with
  | cons rx rr =>
    cases rr with
    | cons rt rr =>
      cases rr
      cases rx
      cases rt
      obtain ⟨hget, _⟩ := I.pin (a, oe) (List.mem_append.mpr (.inl List.mem_cons_self))
      obtain ⟨vs, hv⟩ := hf
      have hx : ObjOk X.prog X.w H s.heap dd (.xd fs) := I.hok dd _ ea
      obtain ⟨mA, hns, hr⟩ := hx
      obtain ⟨od, ho, hl⟩ := lookIn_ns hns
      have J : PySem.W.InstAt s.heap a oe C (some od) := ⟨hget, hz.1, by unfold PySem.W.notCls; rw [hv] <;> rfl, by rw [hz.2]; exact ho⟩
      exact PySem.W.kia_one (PySem.W.kitx_exc T.cl T.hg T.hk T.hs T.ha T.hn T.ht T.hm) I.kIn J T.kit (fun z => nomatch z) fun tk => ⟨.bl true, H, I.kept (t' := tk) fun _ _ z => z, rfl, q⟩
theorem pdx_isi {y : Str} {p1 p2 : Pos} (T : XiC X.K C) (hz : Zc (.ref C) d oe) (hf : ∃ vs, oe.data = .fields vs) (g1 : Gl X "isinstance") (n1 : X.mg "isinstance" = none) (g2 : Gl X y) (n2 : X.mg y = some (.ref C)) (hN : X.N[i]? = some nm := by rfl) (hv : Vis X.env.scope nm := by first | exact Or.inl rfl | exact Or.inr (Or.inl rfl) | exact Or.inr (Or.inr rfl))
    (hd1 : (nm == ("__debug__" : Str)) = false := by decide) (hcd : (nm == ("__classdict__" : Str)) = false := by decide) (hd2 : (y == ("__debug__" : Str)) = false := by decide)
    (s1 : starEach [.Name nm p, .Name y p2] X.env = (false, eval (.Name nm p) X.env) :: starEach [.Name y p2] X.env := by rfl) (s2 : starEach [.Name y p2] X.env = (false, eval (.Name y p2) X.env) :: starEach [] X.env := by rfl) (hpl : (backTo pos (starEach [.Name y p2] X.env)).any (·.1) = false := by rfl) :
    PDX (X.suite a ((a, oe) :: pn)) C d i a (.Call (.Name "isinstance" p1) [.Name nm p, .Name y p2] [] pos) mXI :=
  PE.imp (pe_callB (call_isX T hz hf) g1 n1 (show bootBuiltins "isinstance" = some (.builtin "isinstance") by decide +kernel) (pa_cons (pe_var (X := X.suite a ((a, oe) :: pn)) (i := i) hN hv hd1 hcd) (pa_cons (pe_glob (X := X.suite a ((a, oe) :: pn)) (v := .ref C) g2 n2 rfl hd2) pa_nil s2) s1) (by decide) (by decide) s1 hpl) fun σ H Q ⟨μ, ρ, m, x, hH, hS, hi, hx, q⟩ => by
    unfold mXI at q
    split at q
    · exact q.elim
    rename_i hne
    refine ⟨.ref a, hi, rfl, ?_, q _ H μ .refl hH (by simp [RV])⟩
    have r2 := hx.2
    cases d with
    | none =>
      have e0 : x.fs = [] := r2
      rw [e0] at hne; exact absurd rfl hne
    | some dd =>
      obtain ⟨fs, g1, g2⟩ := r2
      exact ⟨dd, fs, rfl, g1⟩
end
/-! ### try: body except .. as e: suite, the body raising C alone -/
noncomputable def sTryAs (i : Nat) (C : Addr) (body : MS) (hnd : Exn → MS) : MS := fun ρ m => match body ρ m with
  | .exc x ρ' m' => @ite _ (x.cls = .ref C ∧ i < ρ'.length) (Classical.propDecidable _) (match hnd x (ρ'.set i none) m' with
    | .rt d m => .rt d m
    | .nx ρ m => .nx (ρ.set i none) m
    | _ => .no) .no
  | r => r
theorem RS.unset {K : PySem.W.Frag} {H : Hp} {μ : Mu} {ρ : En} {σ : L2.St} (h : RS K H μ ρ σ) (i : Nat) (v : Option V) : RS K H μ (ρ.set i Option.none) (σ.set i v) := by
  refine ⟨by rw [List.length_set, List.length_set]; exact h.1, fun j e q => ?_⟩
  by_cases hj : i = j
  · subst hj
    by_cases hl : i < ρ.length
    · rw [List.getElem?_set_self hl] at q; cases q
    · rw [List.getElem?_eq_none (by rw [List.length_set]; omega)] at q; cases q
  · rw [List.getElem?_set_ne hj] at q ⊢
    exact h.2 j e q
section
variable {X : Cx} {W : WX} {C : Addr} {c : Value} {i : Nat} {x n : Str} {body suite : List Stmt} {b₀ : Stmt} {np pos pos' : Pos} {fb : MS} {hnd : Exn → MS}
theorem pds_tryAs (hs : X.stack = X.env :: X.outer) (hf : X.env.frame = some X.env.locals) (hN : X.N.Nodup) (hi : X.N[i]? = some n) (hln : X.env.kindOf n = some .local) (hc : Names X x c) (tk : Takes X W) (ex : PySem.W.exmOne X.K (.ref C) c = some true)
    (hb : ∀ (W' : WX) (pn : List (Addr × Obj)) (xe : Value → Shared → Prop), Takes (X.tr pn xe) W' → PassesOwn (model X.prog X.w) X.A X.env xe → PDB (X.tr pn xe) W' body fb)
    (hsu : ∀ (a : Addr) (oe : Obj) (d : Option Addr) (pn : List (Addr × Obj)), Zc (.ref C) d oe → (∃ vs, oe.data = .fields vs) → PSX (X.suite a ((a, oe) :: pn)) C d i a (b₀ :: suite) hnd) :
    PDS X W (.Try body [.ExceptHandler (some (.Name x np)) (some n) (b₀ :: suite) pos'] [] [] pos) (sTryAs i C fb hnd) := by
  refine PS.imp (ps_try_as (tb := fun W => tS X.K W fb) (ts := fun a cls d D σ H => cls = .ref C ∧ tSX X.K C d i a hnd D σ H) hs hf hN hi hln hc tk hb fun a oe cls d pn hz hfl => ?_) fun D σ H ⟨μ, ρ, m, hH, hS, q⟩ => ?_
  · by_cases h : cls = .ref C
    · subst h
      exact PSs.imp (hsu a oe d pn hz hfl) fun D σ H ⟨_, q⟩ => q
    · exact ⟨fun pins s σ H D I hw => absurd hw.1 h⟩
  · refine ⟨μ, ρ, m, hH, hS, ?_⟩
    unfold sTryAs at q
    cases e : fb ρ m with
    | no => rw [e] at q; exact q
    | nx ρ1 m1 => rw [e] at q; exact q
    | rt d m1 => rw [e] at q; exact q
    | bk ρ1 m1 => rw [e] at q; exact q
    | ct ρ1 m1 => rw [e] at q; exact q
    | exc y ρ1 m1 =>
      rw [e] at q
      simp only at q
      by_cases hcl : y.cls = .ref C ∧ i < ρ1.length
      · rw [if_pos hcl] at q
        obtain ⟨hcl, hli⟩ := hcl
        intro σ' H' μ' cls d x' hH' hS' r
        have hcc : cls = .ref C := r.1.trans hcl
        subst hcc
        refine ⟨true, ex, fun _ a ha => ⟨rfl, μ', ρ1.set i none, m1, y, hH', hS'.unset i _, ?_, r, ?_⟩, fun z => nomatch z⟩
        · have hl2 : i < σ'.length := by rw [← hS'.1]; exact hli
          rw [List.getElem?_set_self hl2]
        · have q2 := q.ext x'
          cases e3 : hnd y (ρ1.set i none) m1 with
          | no => rw [e3] at q2; exact q2
          | exc _ _ _ => rw [e3] at q2; exact q2.elim
          | bk _ _ => rw [e3] at q2; exact q2.elim
          | ct _ _ => rw [e3] at q2; exact q2.elim
          | rt d m2 => rw [e3] at q2; exact q2
          | nx ρ2 m2 => rw [e3] at q2; exact fun σ2 H2 μ2 x2 hH2 hS2 => q2 (σ2.set i none) H2 μ2 x2 hH2 (hS2.unset i none)
      · rw [if_neg hcl] at q; exact q.elim
end
end FL

set_option maxRecDepth 100000
namespace FL
open PySem PySem.Spec PyProof.Rows L2

theorem upd_swap {H : Hp} {a dx : Addr} {e1 e2 x : HO} (h : dx ≠ a) : upd (upd (upd H dx e1) a x) dx e2 = upd (upd H dx e2) a x := by
  funext b
  by_cases h1 : b = dx
  · subst h1; rw [upd_same, upd_ne h, upd_same]
  · rw [upd_ne h1]
    by_cases h2 : b = a
    · subst h2; rw [upd_same, upd_same]
    · rw [upd_ne h2, upd_ne h2, upd_ne h1, upd_ne h1]
theorem exm_of {K : PySem.W.Frag} {C S : Addr} (h1 : PySem.W.subIn K (.ref S) (.type "BaseException") = some true) (h2 : PySem.W.isClsIn K S = true) (h3 : PySem.W.typeIn K (.ref S) = some (.type "type")) (h4 : PySem.W.subIn K (.ref C) (.ref S) = some true) :
    PySem.W.exmOne K (.ref C) (.ref S) = some true := by
  have e1 : (PySem.W.subIn K (.ref S) (.type "BaseException") == some true) = true := by rw [h1] <;> rfl
  have e2 : ((PySem.W.clsIn K S).isSome && PySem.W.typeIn K (.ref S) == some (.type "type")) = true := by
    have h2' : (PySem.W.clsIn K S).isSome = true := h2
    rw [h2', h3] <;> rfl
  show (if (PySem.W.subIn K (.ref S) (.type "BaseException") == some true) = true then (if ((PySem.W.clsIn K S).isSome && PySem.W.typeIn K (.ref S) == some (.type "type")) = true then PySem.W.subIn K (.ref C) (.ref S) else none) else none) = some true
  rw [if_pos e1, if_pos e2]
  exact h4
theorem pds_raiseF {X : Cx} {W : WX} {C : Addr} {x : Str} {np n : Nat} {pre : List V → Prop} {fl : List V → List (Str × V)} {okD : List D → Bool} {flD : List D → List (Str × D)} {e : Expr} {es : List Expr} {fa : MA} {p pos pos2 : Pos} {Fm : List D → Me → Res D} (hc : X.calm = true) (tk : Takes X W)
    (R : RsC X.prog X.w X.K X.mg X.base C np pre fl) (hpre : ∀ K H μ ds vs, RVs K H μ ds vs → okD ds = true → pre vs) (hfl : ∀ K H μ ds vs, RVs K H μ ds vs → ds.length = np → Paired (fun (p : Str × D) (q : Str × V) => p.1 = q.1 ∧ RV K H μ p.2 q.2) (flD ds) (fl vs)) (hF : Fm = rsF C np okD flD n)
    (hr : Room n X.A) (hg : Gl X x) (hm : X.mg x = some (.ref C)) (ha : PDA X W np (e :: es) fa) (hnp : np ≤ 1000 := by decide) (hdb : (x == ("__debug__" : Str)) = false := by decide) (he : starEach (e :: es) X.env = (false, eval e X.env) :: starEach es X.env := by rfl) (hpl : (backTo pos (starEach es X.env)).any (·.1) = false := by rfl) :
    PDS X W (.Raise (some (.Call (.Name x p) (e :: es) [] pos)) none pos2) (sRaise Fm fa) := by
  subst hF
  exact pds_raise hc tk R (hpre X.K) (hfl X.K) hr hg hm ha hnp hdb he hpl
section
variable {X : Cx} {W : WX} {k n : Nat} {f C : Addr} {fd : FuncData} {ps : List Str} {x : Str} {p pos apos : Pos} {e o : Expr} {es : List Expr} {Fm : List D → Me → Res D} {fo : ME} {fa : MA}
theorem pd_meth1 (pl : Sem Bool) (c : Cls X.K C) (hm : Meth X.K C x f) (G : FnOk X.prog X.w X.K X.mg X.base (L2.CX X.prog X.w) k f fd ps (spF X.K (n + 1) Fm)) (hr : Room k X.A) (hb : Binds X.K fd ps []) (ho : PD X W o fo) (ha : PDA X W n (e :: es) fa)
    (hst : starEach (e :: es) X.env = (false, eval e X.env) :: starEach es X.env := by rfl) (hpl : (backTo pos (starEach es X.env)).any (·.1) = false := by rfl)
    (ht : eval (.Call (.Attribute o x apos) (e :: es) [] pos) X.env = (do
      let ov ← eval o X.env
      standAt apos.atName
      let (f, first) ← holding [ov] (getMethod ov x pl)
      callWith pos f first (backTo pos (starEach (e :: es) X.env)) (backToKw pos (keywordEach [] X.env))) := by rfl) : PD X W (.Call (.Attribute o x apos) (e :: es) [] pos) (mMeth C x Fm fo fa) :=
  PE.imp (pe_meth (pl := pl) ho c hm G hr hb .nil passL ha hst hpl ht) (meth_imp rfl rfl)
end
/-- fields: none, one, two of what is handed -/
theorem rvs1' {K : PySem.W.Frag} {H : Hp} {μ : Mu} {ds : List D} {vs : List V} (r : RVs K H μ ds vs) (h : ds.length = 1) : ∃ d v, ds = [d] ∧ vs = [v] ∧ RV K H μ d v := by
  match ds, h with
  | [d], _ =>
    simp only [RVs] at r
    obtain ⟨v, l, rfl, h1, rfl⟩ := r
    exact ⟨d, v, rfl, rfl, h1⟩
theorem rvs2' {K : PySem.W.Frag} {H : Hp} {μ : Mu} {ds : List D} {vs : List V} (r : RVs K H μ ds vs) (h : ds.length = 2) : ∃ d e v u, ds = [d, e] ∧ vs = [v, u] ∧ RV K H μ d v ∧ RV K H μ e u := by
  match ds, h with
  | [d, e], _ =>
    simp only [RVs] at r
    obtain ⟨v, l, rfl, h1, u, l2, rfl, h2, rfl⟩ := r
    exact ⟨d, e, v, u, rfl, rfl, h1, h2⟩
end FL

set_option maxRecDepth 100000
namespace FL
open PySem PySem.Spec PyProof.Rows L2

theorem refsVE_1 (S : Addr) : HandSPX.refsVE [.ref S, .type "ValueError", .type "Exception", .type "BaseException", .type "object"] = true := by
  show HandSPX.refsVE [.type "ValueError", .type "Exception", .type "BaseException", .type "object"] = true
  decide +kernel
/-! ### sorted of a tuple of numbers -/
section
variable {prog : Program} {w : World} {A : Around} {E : Value → Shared → Prop} {s : Shared}
theorem collect_tup {l : Addr} {vs : List Value} {Q : List Value → Shared → Prop} (hl : PyProof.Rows.IsTup s.heap l vs.toArray)
    (h : Q vs { s with heap := (s.heap.push (seqObj "list" #[] 0)).update s.heap.objs.size (Obj.mapSeq (· ++ vs.toArray)) }) (hsz : vs.length ≤ sizeLine := by size_fits) :
    wpAny (model prog w) A (collect (.ref l)) Q E s := by
  obtain ⟨o, ho, hc, n, hd⟩ := id hl
  unfold collect
  refine wpAny_bind (wpAny_runValue (codeAny_builtin entry_proto_collect' ?_))
  show wpAny _ _ (do again (.builtin "list.__iadd__" ⟨[← newList [], .ref l], []⟩)) _ _ s
  refine wpAny_bind (wpAny_newList (wpAny_pure ⟨Code.quiet_builtin _ (by decide +kernel), codeAny_builtin entry_list_iadd' ?_⟩))
  show wpAny _ _ (Builtin.List.listExtendWith (.ref s.heap.objs.size) (.ref l) (.ref s.heap.objs.size)) _ _ { s with heap := s.heap.push (seqObj "list" #[] 0) }
  unfold Builtin.List.listExtendWith
  have ho' : (s.heap.push (seqObj "list" #[] 0)).get? l = some o := Heap.get?_push_of_some _ ho
  refine wpAny_bind (wpAny_typeOf (T := "tuple") ⟨o, ho', hc⟩ ?_)
  have ht : (Value.type "tuple" == Value.type "tuple") = true := by rfl
  rw [if_pos (by rw [ht]; simp)]
  refine wpAny_bind (listItems_at ho' hd ?_)
  refine wpAny_bind (listItems_at (xs := #[]) (n := 0) (Heap.get?_push_size _ rfl) rfl ?_)
  rw [if_neg (by simp)]
  refine wpAny_bind (listUpdate_at (xs := #[]) (n := 0) (Heap.get?_push_size _ rfl) rfl ?_ (Nat.zero_le _) (by show (#[] ++ vs.toArray).size ≤ sizeLine + 1; simp only [Array.size_append, List.size_toArray, List.length_nil]; omega))
  refine wpAny_pure ?_
  show wpAny (model prog w) A (do
      let o ← load s.heap.objs.size
      match o.data with
      | .seq xs _ => pure xs.toList
      | _ => unsupported "internal:collect") Q E { s with heap := (s.heap.push (seqObj "list" #[] 0)).update s.heap.objs.size (Obj.mapSeq (· ++ vs.toArray)) }
  refine wpAny_bind (wpAny_load (get?_update_seq (Heap.get?_push_size _ rfl) _) ?_)
  show wpAny _ _ (pure ((#[] : Array Value) ++ vs.toArray).toList) Q E _
  rw [show ((#[] : Array Value) ++ vs.toArray).toList = vs by simp]
  exact wpAny_pure h
open PySem.W in
theorem sortedT_of_sort {l : Addr} {vs : List Value} {Q : Value → Shared → Prop} (hl : PyProof.Rows.IsTup s.heap l vs.toArray) (hL : vs.length ≤ sizeLine)
    (body : ∀ E' : Value → Shared → Prop, wpAny (model prog w) A.in1.in1 (Builtin.«list.sort» ⟨[.ref (s.heap.objs.size + 1)], []⟩) (fun f s' => f = .done (.ret .none) ∧ Q (.ref (s.heap.objs.size + 1)) s') E' { s with heap := copyHeap s.heap vs }) :
    wpAny (model prog w) A (call (.builtin "sorted") [.ref l] []) Q E s := by
  refine call_function_entry_kw kind_sorted plain_sorted entry_sorted (args_sorted1 _) ?_
  unfold Builtin.«sorted»
  refine wpAny_bind (m := checkCount "sorted" 1 1 _) (wpAny_pure ?_)
  refine wpAny_bind (collect_tup hl ?_ hL)
  refine wpAny_bind (wpAny_newList ?_ hL)
  have hsz : ((s.heap.push (seqObj "list" #[] 0)).update s.heap.objs.size (Obj.mapSeq (· ++ vs.toArray))).objs.size = s.heap.objs.size + 1 := by
    rw [Heap.size_update, size_push']
  show wpAny _ _ _ _ _ { s with heap := copyHeap s.heap vs }
  rw [hsz]
  refine wpAny_bind (wpAny_holding (wpAny_call_entry_kw slot_list_sort ⟨_, copyHeap_at s.heap vs, rfl⟩ entry_list_sort ?body (args_list_sort _)))
  case body =>
    show wpAny (model prog w) A.in1.in1 (Builtin.«list.sort» ⟨[.ref (s.heap.objs.size + 1)], []⟩) _ _ _
    refine wpAny_mono (body _) (fun f s' hf => ?_) fun _ _ e => e
    obtain ⟨rfl, hq⟩ := hf
    exact ⟨_, rfl, wpAny_pure ⟨_, rfl, hq⟩⟩
open PySem.W in
theorem sortedT_data {β : Type} {R : Value → β → Prop} {bs : List β} {enc : β → PyData} {vs : List Value} {l : Addr} {Q : Value → Shared → Prop} (hl : PyProof.Rows.IsTup s.heap l vs.toArray) (e : EachIs R vs bs) (er : EachIs (fun v b => ∃ as, Reads s.heap v (enc b) as) vs bs) (hal : AllAlike (bs.map enc)) (hk : Sortable (bs.map enc)) (hL : bs.length ≤ sizeLine)
    (hu : ∀ b, b ∈ bs → A.units + 2 + (enc b).depth < cLine) (h : ∀ out, out.length = bs.length → EachIs R out (bs.mergeSort (dataLe false enc)) → Q (.ref (s.heap.objs.size + 1)) { s with heap := sortedAll s.heap vs (List.toArray out) }) :
    wpAny (model prog w) A (call (.builtin "sorted") [.ref l]) Q E s := by
  have er' : EachIs (fun v b => ∃ as, Reads (sortingHeap (copyHeap s.heap vs) (s.heap.objs.size + 1) vs) v (enc b) as) vs bs := er.mono fun _ _ ⟨as, r⟩ => ⟨as, PyProof.Rows.Reads.keeps (fun _ _ => sorting_copy_old) r⟩
  have S := SortsAt.data (prog := prog) (w := w) (A := A.in1.in1) (s := { s with heap := sortingHeap (copyHeap s.heap vs) (s.heap.objs.size + 1) vs }) (each_map (R := fun v d => ∃ as, Reads (sortingHeap (copyHeap s.heap vs) (s.heap.objs.size + 1) vs) v d as) enc er') hal hk (bound_map hu)
  exact sortedT_of_sort hl (by rw [e.length]; exact hL) fun _ => list_sort_vals (s := { s with heap := copyHeap s.heap vs }) (copyHeap_at s.heap vs) S (by rw [e.length]; exact hL) ⟨rfl, h _ (by rw [sortVals_length false rfl]; exact e.length) (sortVals_data false e er' hal)⟩
end
def rSortTG (K : PySem.W.Frag) : List V → Hp → VK → Prop := fun vs H Q => ∃ (a : Addr) (bs : List DV), vs = [.ref a] ∧ SqT K H a (bs.map (·.1)) ∧ (∀ b ∈ bs, Dp K H b.1 b.2 ∧ b.2.depth ≤ 60) ∧ PySem.W.AllAlike (bs.map (·.2)) ∧ PySem.W.Sortable (bs.map (·.2)) ∧ bs.length ≤ 1000000 ∧
  ∀ p, H p = none → Q (.ref p) (upd H p (.lst ((bs.mergeSort dvLe).map (·.1))))
theorem cr_sortedTG {X : Cx} (hu : X.A.units + 64 < cLine) : CallR X (.builtin "sorted") (rSortTG X.K) := by
  intro pins s σ H xs us Q I r h
  obtain ⟨a, bs, rfl, hq, hb, hal, hs, hz, q⟩ := h
  obtain ⟨u, rfl, ru⟩ := vals1 r
  cases ru
  obtain ⟨its, rv, p, _⟩ := I.tuple hq
  obtain ⟨e1, e2⟩ := each_dv I rv fun b hb' => (hb b hb').1
  refine sortedT_data (enc := fun b : DV => b.2) p e1 e2 hal hs (by rw [sizeLine_eq]; omega) (fun b hb' => by have := (hb b hb').2; omega) fun out hl eo => ?_
  obtain ⟨ep, he'⟩ := PyProof.Rows.sortedAll_at s.heap its out.toArray
  have hv := each_vals eo
  have hlen : ((bs.mergeSort dvLe).map (·.1)).length ≤ sizeLine := by rw [List.length_map, List.length_mergeSort, sizeLine_eq]; omega
  exact ⟨.ref _, upd H (s.heap.objs.size + 1) (.lst ((bs.mergeSort dvLe).map (·.1))), I.laid (t' := s.toks) (fun _ _ => PyProof.Rows.sortedAll_old) (Nat.le_succ _) ⟨hlen, out, ep, hv, he'⟩, rfl, q _ (I.hok.fresh (Nat.le_succ _))⟩
open Classical in
/-- sorted(xs), xs a tuple -/
noncomputable def gSortT (ds : List D) (m : Me) : Res D := match ds with
  | [.tup xs] => if OkSort xs then .ok (.lst (xs.mergeSort leD)) m else .no
  | _ => .no
theorem g_sortT {K : PySem.W.Frag} : GC K (rSortTG K) gSortT := fun Ex H μ m ds vs Q hH rr q => by
  unfold gSortT at q
  split at q
  case h_2 => exact q.elim
  rename_i xs
  obtain ⟨v, rfl, r⟩ := rvs1 rr
  split at q
  case isFalse => exact q.elim
  rename_i ok
  simp only [RV] at r
  obtain ⟨a, vs, rfl, ha, hz, hr⟩ := r
  obtain ⟨ts, rfl, rfl, ht⟩ := pairs_rvs hr
  refine ⟨a, ts.map fun t => (t.2, enc t.1), rfl, ?_, ?_, ?_, ?_, ?_, fun p hp => ?_⟩
  · rw [List.map_map]; exact ha.sq
  · intro b hb
    obtain ⟨t, h1, rfl⟩ := List.mem_map.mp hb
    obtain ⟨h2, h3⟩ := ok.py t.1 (List.mem_map_of_mem h1)
    exact ⟨enc_dp (ht t h1) h2, h3⟩
  · have := ok.al; rw [List.map_map] at this ⊢; exact this
  · have := ok.st; rw [List.map_map] at this ⊢; exact this
  · have := ok.few; simpa using this
  · have e1 : ((ts.map fun t => (t.2, enc t.1)).mergeSort dvLe) = (ts.mergeSort fun a b => leD a.1 b.1).map fun t => (t.2, enc t.1) :=
      (List.map_mergeSort (r := fun a b : D × V => leD a.1 b.1) (f := fun t : D × V => (t.2, enc t.1)) (fun a _ b _ => rfl)).symm
    have e2 : (ts.map (·.1)).mergeSort leD = (ts.mergeSort fun a b => leD a.1 b.1).map (·.1) := (List.map_mergeSort (r := fun a b : D × V => leD a.1 b.1) (f := fun t : D × V => t.1) (fun a _ b _ => rfl)).symm
    rw [e1, List.map_map]
    have ex := Ext.new (o := .lst ((ts.mergeSort fun a b => leD a.1 b.1).map ((fun b : DV => b.1) ∘ fun t => (t.2, enc t.1)))) hH hp
    refine q _ _ μ ex (hH.new hp) ?_
    rw [e2]
    simp only [RV]
    refine ⟨p, _, rfl, ⟨hH.notin hp, fun z => hH.hid _ z hp⟩, upd_same, ?_, ?_⟩
    · rw [List.length_map, List.length_mergeSort]; rw [List.length_map] at hz; exact hz
    · exact RVs.ext ex _ _ (rvs_pairs fun t h => ht t ((List.mergeSort_perm ts _).mem_iff.mp h))
end FL

/-! ### the text by places -/
namespace G
open PySem PySem.Spec PyProof.Rows L2 FL
def topS (i : Nat) : Stmt := PySem.Challenge.pw_namestay_k18_words_with_marks.main.body.getD i (.Pass ⟨0, 0, 0, 0⟩)
theorem boot_abs' : bootBuiltins "abs" = some (.builtin "abs") := by decide +kernel
theorem boot_all' : bootBuiltins "all" = some (.builtin "all") := by decide +kernel
theorem boot_bool' : bootBuiltins "bool" = some (.type "bool") := by decide +kernel
theorem boot_int' : bootBuiltins "int" = some (.type "int") := by decide +kernel
theorem boot_isinstance' : bootBuiltins "isinstance" = some (.builtin "isinstance") := by decide +kernel
theorem boot_list' : bootBuiltins "list" = some (.type "list") := by decide +kernel
theorem boot_max' : bootBuiltins "max" = some (.builtin "max") := by decide +kernel
theorem boot_range' : bootBuiltins "range" = some (.type "range") := by decide +kernel
theorem boot_sorted' : bootBuiltins "sorted" = some (.builtin "sorted") := by decide +kernel
theorem boot_str' : bootBuiltins "str" = some (.type "str") := by decide +kernel
theorem boot_tuple' : bootBuiltins "tuple" = some (.type "tuple") := by decide +kernel
abbrev s0 : Stmt := topS 6 -- is_within
theorem sc0 : FnScope ["one", "other", "mark"] ["one", "other"] (defScope s0) := ⟨rfl, rfl, rfl, by decide +kernel, rfl, by decide +kernel, by decide +kernel⟩
abbrev s1 : Stmt := inClass (topS 7) 0 -- Marked.__init__
theorem sc1 : FnScope ["self", "most"] ["self", "most"] (defScope s1) := ⟨rfl, rfl, rfl, by decide +kernel, rfl, by decide +kernel, by decide +kernel⟩
abbrev s2 : Stmt := inClass (topS 7) 1 -- Marked.new_mark
theorem sc2 : FnScope ["self"] ["self"] (defScope s2) := ⟨rfl, rfl, rfl, by decide +kernel, rfl, by decide +kernel, by decide +kernel⟩
abbrev s3 : Stmt := inClass (topS 7) 4 -- Marked.tie
theorem sc3 : FnScope ["self", "word", "marks", "meaning"] ["self", "word", "marks", "meaning"] (defScope s3) := ⟨rfl, rfl, rfl, by decide +kernel, rfl, by decide +kernel, by decide +kernel⟩
abbrev s4 : Stmt := inClass (topS 7) 5 -- Marked.mean
theorem sc4 : FnScope ["self", "word", "marks", "place", "able", "most", "best", "tie", "own", "_"] ["self", "word", "marks", "place"] (defScope s4) := ⟨rfl, rfl, rfl, by decide +kernel, rfl, by decide +kernel, by decide +kernel⟩
abbrev s5 : Stmt := topS 9 -- _law_draws
theorem sc5 : FnScope ["script", "many", "draws", "mixed", "k", "cell", "rest", "turn"] ["script", "many"] (defScope s5) := ⟨rfl, rfl, rfl, by decide +kernel, rfl, by decide +kernel, by decide +kernel⟩
abbrev s6 : Stmt := topS 10 -- _law_next
theorem sc6 : FnScope ["w", "many"] ["w", "many"] (defScope s6) := ⟨rfl, rfl, rfl, by decide +kernel, rfl, by decide +kernel, by decide +kernel⟩
abbrev s7 : Stmt := topS 11 -- _law_pick
theorem sc7 : FnScope ["w", "rows"] ["w", "rows"] (defScope s7) := ⟨rfl, rfl, rfl, by decide +kernel, rfl, by decide +kernel, by decide +kernel⟩
abbrev s8 : Stmt := topS 13 -- _law_equal
theorem sc8 : FnScope ["told", "due", "k"] ["told", "due"] (defScope s8) := ⟨rfl, rfl, rfl, by decide +kernel, rfl, by decide +kernel, by decide +kernel⟩
abbrev s9 : Stmt := topS 14 -- _law_told
theorem sc9 : FnScope ["marked", "word", "marks", "place", "e"] ["marked", "word", "marks", "place"] (defScope s9) := ⟨rfl, rfl, rfl, by decide +kernel, rfl, by decide +kernel, by decide +kernel⟩
abbrev s10 : Stmt := topS 15 -- _law_due
theorem sc10 : FnScope ["ties", "word", "marks", "place", "able", "best", "tie", "name", "own", "meaning", "mark"] ["ties", "word", "marks", "place"] (defScope s10) := ⟨rfl, rfl, rfl, by decide +kernel, rfl, by decide +kernel, by decide +kernel⟩
abbrev s11 : Stmt := topS 16 -- law
theorem sc11 : FnScope ["script", "w", "turn", "many", "time", "marked", "ties", "word", "marks", "meaning", "k", "mark"] ["script"] (defScope s11) := ⟨rfl, rfl, rfl, by decide +kernel, rfl, by decide +kernel, by decide +kernel⟩
abbrev sx0 : Stmt := inClass (topS 3) 0 -- BadForm.__init__
theorem scx0 : FnScope ["self", "place", "word"] ["self", "place", "word"] (defScope sx0) := ⟨rfl, rfl, rfl, by decide +kernel, rfl, by decide +kernel, by decide +kernel⟩
def flV0 : List V → List (Str × V) := fun (ws : List V) => match ws with
  | [w0, w1] => [("word", w1), ("place", w0)]
  | _ => []
def flD0 : List FL.D → List (Str × FL.D) := fun (ws : List FL.D) => match ws with
  | [w0, w1] => [("word", w1), ("place", w0)]
  | _ => []
def pre0 : List V → Prop := fun ws => match ws with
  | [_, V.str s] => s.length ≤ 1000
  | _ => False
def okD0 : List FL.D → Bool := fun ws => match ws with
  | [_, FL.D.str s] => decide (s.length ≤ 1000)
  | _ => false
theorem hpre0 : ∀ (K : PySem.W.Frag) H μ ds vs, RVs K H μ ds vs → okD0 ds = true → pre0 vs := fun K H μ ds vs r h => by
  unfold okD0 at h
  split at h
  · simp only [RVs, RV] at r
    simp only [decide_eq_true_eq] at h
    obtain ⟨_, _, rfl, _, _, _, rfl, rfl, rfl⟩ := r
    exact h
  · cases h
theorem hfl0 : ∀ (K : PySem.W.Frag) H μ ds vs, RVs K H μ ds vs → ds.length = 2 → Paired (fun (p : Str × FL.D) (q : Str × V) => p.1 = q.1 ∧ RV K H μ p.2 q.2) (flD0 ds) (flV0 vs) := fun K H μ ds vs r h => by
  obtain ⟨d, e, v, u, rfl, rfl, r1, r2⟩ := rvs2' r h
  exact .cons ⟨rfl, r2⟩ (.cons ⟨rfl, r1⟩ (.nil))
/-! ### what the defs compute -/
/-- is_within(one, other); names 0 one, 1 other, 2 mark -/
noncomputable def b0 (cl : Nat → Addr) (f : Nat → List D → Me → Res D) : MS :=
  (sSeq (sRet (mArgs gAll (mCons (mComp (iSeq (mVar 0)) [2] (tgN 2) cYes (m2 (gInN false) (mVar 2) (mVar 1))) mNil))) sNext)
/-- Marked.__init__(self, most); names 0 self, 1 most -/
noncomputable def b1 (cl : Nat → Addr) (f : Nat → List D → Me → Res D) : MS :=
  (sSeq (sFldD (cl 0) "most" (mVar 0) (mVar 1)) (sSeq (sFldD (cl 0) "ties" (mVar 0) mNewK) (sSeq (sFldD (cl 0) "marks" (mVar 0) (mC (.int 0))) (sSeq (sFldD (cl 0) "places" (mVar 0) (mC (.int 0))) (sSeq (sFldD (cl 0) "rule_rows" (mVar 0) (mLst mNil)) (sSeq (sFldD (cl 0) "uses" (mVar 0) (mC (.int 0))) sNext))))))
/-- Marked.new_mark(self); names 0 self -/
noncomputable def b2 (cl : Nat → Addr) (f : Nat → List D → Me → Res D) : MS :=
  (sSeq (sFldAug (cl 0) "marks" (fun i j => i + j) (mVar 0) (mC (.int 1))) (sSeq (sRet (m2 gSub (mFld (cl 0) "marks" (mVar 0)) (mC (.int 1)))) sNext))
/-- Marked.tie(self, word, marks, meaning); names 0 self, 1 word, 2 marks, 3 meaning -/
noncomputable def b3 (cl : Nat → Addr) (f : Nat → List D → Me → Res D) : MS :=
  (sSeq (sDo (mAppend (mSetd (mFld (cl 0) "ties" (mVar 0)) (mVar 1) (mNew mNil)) (mTup (mCons (mArgs gTuple (mCons (mArgs gSortT (mCons (mVar 2) mNil)) mNil)) (mCons (mVar 3) mNil))))) sNext)
/-- Marked.mean(self, word, marks, place); names 0 self, 1 word, 2 marks, 3 place, 4 able, 5 most, 6 best, 7 tie, 8 own, 9 _ -/
noncomputable def b4 (cl : Nat → Addr) (f : Nat → List D → Me → Res D) : MS :=
  (sSeq (sSet 4 (mComp (iSeq (m3 gDget2 (mFld (cl 0) "ties" (mVar 0)) (mVar 1) (mLst mNil))) [7] (tgN 7) (mB (mCall (f 0) (mCons (m2 gIx (mVar 7) (mC (.int 0))) (mCons (mVar 2) mNil)))) (mVar 7))) (sSeq (sIf (mB (m2 gEq (mVar 4) (mLst mNil))) (sSeq (sRet (mIf (mB (m2 (gInN false) (mVar 1) (mC (.tup [.str ("fn" : Str), .str ("let" : Str), .str ("if" : Str), .str ("quote" : Str), .str ("rules" : Str)])))) (mTup (mCons (mC (.str ("form" : Str))) (mCons (mVar 1) mNil))) (mTup (mCons (mC (.str ("open" : Str))) (mCons (mVar 1) mNil))))) sNext) sNext) (sSeq (sSet 5 (mArgs gMaxL (mCons (mComp (iSeq (mVar 4)) [8, 9] (tgTup 2 (tgCons (tgN 8) (tgCons (tgN 9) tgNil))) cYes (mArgs gLen (mCons (mVar 8) mNil))) mNil))) (sSeq (sSet 6 (mComp (iSeq (mVar 4)) [7] (tgN 7) (mB (m2 gEq (mArgs gLen (mCons (m2 gIx (mVar 7) (mC (.int 0))) mNil)) (mVar 5))) (mVar 7))) (sSeq (sIf (mOr (mB (m2 gGt (mArgs gLen (mCons (mVar 6) mNil)) (mC (.int 1)))) (mNot (mB (mArgs gAll (mCons (mComp (iSeq (mVar 4)) [8, 9] (tgTup 2 (tgCons (tgN 8) (tgCons (tgN 9) tgNil))) cYes (mCall (f 0) (mCons (mVar 8) (mCons (m2 gIx (m2 gIx (mVar 6) (mC (.int 0))) (mC (.int 0))) mNil)))) mNil))))) (sSeq (sRaise (f 13) (mCons (mVar 3) (mCons (mC (.str ("unclear" : Str))) mNil))) sNext) sNext) (sSeq (sRet (m2 gIx (m2 gIx (mVar 6) (mC (.int 0))) (mC (.int 1)))) sNext))))))
/-- _law_draws(script, many); names 0 script, 1 many, 2 draws, 3 mixed, 4 k, 5 cell, 6 rest, 7 turn -/
noncomputable def b5 (cl : Nat → Addr) (f : Nat → List D → Me → Res D) : MS :=
  (sSeq (sSet 2 (mNew mNil)) (sSeq (sSet 3 (mC (.int 7))) (sSeq (sFor (iRange1 (mCons (mArgs gLen (mCons (mVar 0) mNil)) mNil)) (tgN 4) (sSeq (sSet 5 (mArgs gAbs (mCons (mArgs gInt (mCons (m2 gIx (mVar 0) (mVar 4)) mNil)) mNil))) (sSeq (sSet 3 (m2 gMod (mArgs gInt (mCons (m2 gAdd (m2 gAdd (m2 gMul (mVar 3) (mC (.int 48271))) (m2 gMod (mVar 5) (mC (.int 1000003)))) (mVar 4)) mNil)) (mC (.int 65537)))) (sSeq (sSet 6 (mC (.int 0))) (sSeq (sIf (mB (m2 gGe (mVar 5) (m2 gPow (mC (.int 10)) (mC (.int 18))))) (sSeq (sSet 6 (mVar 5)) sNext) (sSeq (sDo (mAppend (mVar 2) (m2 gMod (mArgs gInt (mCons (mVar 5) mNil)) (mC (.int 997))))) (sSeq (sDo (mAppend (mVar 2) (m2 gMod (m2 gMod (mArgs gInt (mCons (m2 gAdd (m2 gMul (mVar 3) (mC (.int 69621))) (mC (.int 5))) mNil)) (mC (.int 65521))) (mC (.int 997))))) sNext))) (sSeq (sFor (iRange1 (mCons (mC (.int 60)) mNil)) (tgN 7) (sSeq (sIf (mB (m2 gGt (mVar 6) (mC (.int 0)))) (sSeq (sDo (mAppend (mVar 2) (m2 gMod (mArgs gInt (mCons (mVar 6) mNil)) (mC (.int 997))))) (sSeq (sSet 6 (m2 gDiv (mVar 6) (mC (.int 997)))) sNext)) sNext) sNext)) sNext)))))) (sSeq (sFor (iRange1 (mCons (mVar 1) mNil)) (tgN 4) (sSeq (sSet 3 (m2 gMod (mArgs gInt (mCons (m2 gAdd (m2 gAdd (m2 gMul (mVar 3) (mC (.int 16807))) (mVar 4)) (mC (.int 1))) mNil)) (mC (.int 65537)))) (sSeq (sDo (mAppend (mVar 2) (m2 gMod (mArgs gInt (mCons (mVar 3) mNil)) (mC (.int 997))))) sNext))) (sSeq (sRet (mSl (mVar 2) mNo (mOpt (mVar 1)))) sNext)))))
/-- _law_next(w, many); names 0 w, 1 many -/
noncomputable def b6 (cl : Nat → Addr) (f : Nat → List D → Me → Res D) : MS :=
  (sSeq (sDaug (mVar 0) (mC (.str ("at" : Str))) (mC (.int 1))) (sSeq (sIf (mB (m2 gGt (m2 gDget (mVar 0) (mC (.str ("at" : Str)))) (mArgs gLen (mCons (m2 gDget (mVar 0) (mC (.str ("draws" : Str)))) mNil)))) (sSeq (sRet (mC (.int 0))) sNext) sNext) (sSeq (sRet (m2 gMod (mArgs gInt (mCons (m2 gIx (m2 gDget (mVar 0) (mC (.str ("draws" : Str)))) (m2 gSub (m2 gDget (mVar 0) (mC (.str ("at" : Str)))) (mC (.int 1)))) mNil)) (mVar 1))) sNext)))
/-- _law_pick(w, rows); names 0 w, 1 rows -/
noncomputable def b7 (cl : Nat → Addr) (f : Nat → List D → Me → Res D) : MS :=
  (sSeq (sRet (m2 gIx (mVar 1) (mCall (f 6) (mCons (mVar 0) (mCons (mArgs gLen (mCons (mVar 1) mNil)) mNil))))) sNext)
/-- _law_equal(told, due); names 0 told, 1 due, 2 k -/
noncomputable def b8 (cl : Nat → Addr) (f : Nat → List D → Me → Res D) : MS :=
  (sSeq (sIf (mB (m1 (gIsi "tuple") (mVar 1))) (sSeq (sIf (mOr (mNot (mB (m1 (gIsi "tuple") (mVar 0)))) (mB (m2 gNe (mArgs gLen (mCons (mVar 0) mNil)) (mArgs gLen (mCons (mVar 1) mNil))))) (sSeq (sRet (mC (.bl false))) sNext) sNext) (sSeq (sRet (m2 gEq (mComp (iRange1 (mCons (mArgs gLen (mCons (mVar 1) mNil)) mNil)) [2] (tgN 2) (mNot (mB (mCall (f 8) (mCons (m2 gIx (mVar 0) (mVar 2)) (mCons (m2 gIx (mVar 1) (mVar 2)) mNil))))) (mVar 2)) (mLst mNil))) sNext)) sNext) (sSeq (sIf (mB (m2 gIsN (mVar 1) (mC .non))) (sSeq (sRet (m2 gIsN (mVar 0) (mC .non))) sNext) sNext) (sSeq (sIf (mB (m1 (gIsi "str") (mVar 1))) (sSeq (sRet (mAndV (m1 (gIsi "str") (mVar 0)) (m2 gEq (mVar 0) (mVar 1)))) sNext) sNext) (sSeq (sRet (mAndV (m1 (gIsi "int") (mVar 0)) (mAndV (m2 gEq (m1 (gIsi "bool") (mVar 0)) (m1 (gIsi "bool") (mVar 1))) (m2 gEq (mVar 0) (mVar 1))))) sNext))))
/-- _law_told(marked, word, marks, place); names 0 marked, 1 word, 2 marks, 3 place, 4 e -/
noncomputable def b9 (cl : Nat → Addr) (f : Nat → List D → Me → Res D) : MS :=
  (sSeq (sTryAs 4 (cl 100) (sSeq (sRet (mTup (mCons (mC (.str ("yes" : Str))) (mCons (mMethX (cl 0) "mean" (f 4) (mVar 0) (mCons (mVar 1) (mCons (mVar 2) (mCons (mVar 3) mNil)))) mNil)))) sNext) (fun x => sRet ((fun x => mIf ((fun x => mB (mXI x)) x) ((fun x => mTup ((fun x => mCons ((fun _ => (mC (.str ("no" : Str)))) x) ((fun x => mCons ((mXF "place") x) ((fun x => mCons ((mXF "word") x) ((fun _ => mNil) x)) x)) x)) x)) x) ((fun _ => (mTup (mCons (mC (.str ("other" : Str))) (mCons (mC (.int 0)) (mCons (mC (.str ("" : Str))) mNil))))) x)) x))) sNext)
/-- _law_due(ties, word, marks, place); names 0 ties, 1 word, 2 marks, 3 place, 4 able, 5 best, 6 tie, 7 name, 8 own, 9 meaning, 10 mark -/
noncomputable def b10 (cl : Nat → Addr) (f : Nat → List D → Me → Res D) : MS :=
  (sSeq (sSet 4 (mComp (iSeq (mVar 0)) [7, 8, 9] (tgTup 3 (tgCons (tgN 7) (tgCons (tgN 8) (tgCons (tgN 9) tgNil)))) (mAnd (mB (m2 gEq (mVar 7) (mVar 1))) (mB (m2 gEq (mComp (iSeq (mVar 8)) [10] (tgN 10) (mB (m2 (gInN true) (mVar 10) (mVar 2))) (mVar 10)) (mLst mNil)))) (mTup (mCons (mVar 8) (mCons (mVar 9) mNil))))) (sSeq (sIf (mB (m2 gEq (mVar 4) (mLst mNil))) (sSeq (sRet (mTup (mCons (mC (.str ("yes" : Str))) (mCons (mIf (mB (m2 (gInN false) (mVar 1) (mLst (mCons (mC (.str ("fn" : Str))) (mCons (mC (.str ("let" : Str))) (mCons (mC (.str ("if" : Str))) (mCons (mC (.str ("quote" : Str))) (mCons (mC (.str ("rules" : Str))) mNil)))))))) (mTup (mCons (mC (.str ("form" : Str))) (mCons (mVar 1) mNil))) (mTup (mCons (mC (.str ("open" : Str))) (mCons (mVar 1) mNil)))) mNil)))) sNext) sNext) (sSeq (sSet 5 (mComp (iSeq (mVar 4)) [6] (tgN 6) (mB (m2 gEq (mComp (iSeq (mVar 4)) [8, 9] (tgTup 2 (tgCons (tgN 8) (tgCons (tgN 9) tgNil))) (mB (m2 gNe (mComp (iSeq (mVar 8)) [10] (tgN 10) (mB (m2 (gInN true) (mVar 10) (m2 gIx (mVar 6) (mC (.int 0))))) (mVar 10)) (mLst mNil))) (mVar 8)) (mLst mNil))) (mVar 6))) (sSeq (sRet (mIf (mB (m2 gEq (mArgs gLen (mCons (mVar 5) mNil)) (mC (.int 1)))) (mTup (mCons (mC (.str ("yes" : Str))) (mCons (m2 gIx (m2 gIx (mVar 5) (mC (.int 0))) (mC (.int 1))) mNil))) (mTup (mCons (mC (.str ("no" : Str))) (mCons (mVar 3) (mCons (mC (.str ("unclear" : Str))) mNil)))))) sNext))))
/-- law(script); names 0 script, 1 w, 2 turn, 3 many, 4 time, 5 marked, 6 ties, 7 word, 8 marks, 9 meaning, 10 k, 11 mark -/
noncomputable def b11 (cl : Nat → Addr) (f : Nat → List D → Me → Res D) : MS :=
  (sSeq (sSet 1 (mDisp (pCons (mC (.str ("draws" : Str))) (mCall (f 5) (mCons (mVar 0) (mCons (mC (.int 400)) mNil))) (pCons (mC (.str ("at" : Str))) (mC (.int 0)) pNil)))) (sSeq (sFor (iRange1 (mCons (mC (.int 3)) mNil)) (tgN 2) (sSeq (sAsg (tgTup 2 (tgCons (tgN 5) (tgCons (tgN 6) tgNil))) (mTup (mCons (mCall (f 12) (mCons (mC (.int 10)) mNil)) (mCons (mNew mNil) mNil)))) (sSeq (sSet 3 (m2 gAdd (mC (.int 2)) (mCall (f 6) (mCons (mVar 1) (mCons (mC (.int 4)) mNil))))) (sSeq (sIf (mB (m2 gNe (mComp (iRange1 (mCons (mVar 3) mNil)) [10] (tgN 10) cYes (mMeth (cl 0) "new_mark" (f 2) (mVar 5) mNil)) (mLstRg (mRg1 (mVar 3))))) (sSeq (sRet (mC (.bl false))) sNext) sNext) (sSeq (sFor (iRange1 (mCons (mC (.int 12)) mNil)) (tgN 4) (sSeq (sSet 7 (mCall (f 7) (mCons (mVar 1) (mCons (mLst (mCons (mC (.str ("t" : Str))) (mCons (mC (.str ("x" : Str))) (mCons (mC (.str ("if" : Str))) (mCons (mC (.str ("rules" : Str))) mNil))))) mNil)))) (sSeq (sSet 8 (mArgs gTuple (mCons (mComp (iRange1 (mCons (mVar 3) mNil)) [11] (tgN 11) (mB (m2 gEq (mCall (f 6) (mCons (mVar 1) (mCons (mC (.int 2)) mNil))) (mC (.int 0)))) (mVar 11)) mNil))) (sSeq (sIf (mB (m2 gEq (mCall (f 6) (mCons (mVar 1) (mCons (mC (.int 2)) mNil))) (mC (.int 0)))) (sSeq (sSet 9 (mCall (f 7) (mCons (mVar 1) (mCons (mLst (mCons (mTup (mCons (mC (.str ("place" : Str))) (mCons (mVar 4) mNil))) (mCons (mTup (mCons (mC (.str ("rule" : Str))) (mCons (mVar 4) mNil))) (mCons (mTup (mCons (mC (.str ("place" : Str))) (mCons (m2 gAdd (mC (.int 50)) (mVar 4)) mNil))) mNil)))) mNil)))) (sSeq (sDo (mMeth (cl 0) "tie" (f 3) (mVar 5) (mCons (mVar 7) (mCons (mVar 8) (mCons (mVar 9) mNil))))) (sSeq (sDo (mAppend (mVar 6) (mTup (mCons (mVar 7) (mCons (mVar 8) (mCons (mVar 9) mNil)))))) sNext))) (sSeq (sIf (mNot (mB (mCall (f 8) (mCons (mCall (f 9) (mCons (mVar 5) (mCons (mVar 7) (mCons (mVar 8) (mCons (mVar 4) mNil))))) (mCons (mCall (f 10) (mCons (mVar 6) (mCons (mVar 7) (mCons (mVar 8) (mCons (mVar 4) mNil))))) mNil))))) (sSeq (sRet (mC (.bl false))) sNext) sNext) sNext)) sNext)))) sNext))))) (sSeq (sRet (mC (.bl true))) sNext)))
noncomputable def fns (cl : Nat → Addr) : Nat → Nat → List D → Me → Res D
  | 0, _ => fun _ _ => .no
  | n + 1, 0 => runDef 3 2 (b0 cl (fns cl n))
  | n + 1, 1 => runDefK 2 2 (b1 cl (fns cl n))
  | n + 1, 2 => runDef 1 1 (b2 cl (fns cl n))
  | n + 1, 3 => runDefK 4 4 (b3 cl (fns cl n))
  | n + 1, 4 => runDefX 10 4 (b4 cl (fns cl n))
  | n + 1, 5 => runDef 8 2 (b5 cl (fns cl n))
  | n + 1, 6 => runDef 2 2 (b6 cl (fns cl n))
  | n + 1, 7 => runDef 2 2 (b7 cl (fns cl n))
  | n + 1, 8 => runDef 3 2 (b8 cl (fns cl n))
  | n + 1, 9 => runDef 5 4 (b9 cl (fns cl n))
  | n + 1, 10 => runDef 11 4 (b10 cl (fns cl n))
  | n + 1, 11 => runDef 12 1 (b11 cl (fns cl n))
  | n + 1, 12 => mkC (cl 0) (fns cl n 1)
  | n + 1, 13 => rsF (cl 100) 2 okD0 flD0 (n + 1)
  | _ + 1, _ => fun _ _ => .no
theorem rt0 (cl : Nat → Addr) (n : Nat) : fns cl n 13 = rsF (cl 100) 2 okD0 flD0 n := by cases n <;> rfl
theorem ct0 (cl : Nat → Addr) (n : Nat) : fns cl n 12 = ctF (cl 0) (fun k => fns cl k 1) n := by cases n <;> rfl
/-! ### what stands at the top -/
structure Facts (K : PySem.W.Frag) (mg : Str → Option Value) where
  a0 : Addr
  fd0 : FuncData
  F0 : Fun K "is_within" "is_within" s0 a0 fd0
  m0 : mg "is_within" = some (.ref a0)
  b0 : Binds K fd0 ["one", "other"] []
  a1 : Addr
  fd1 : FuncData
  F1 : Fun K "__init__" "Marked.__init__" s1 a1 fd1
  b1 : Binds K fd1 ["self", "most"] []
  a2 : Addr
  fd2 : FuncData
  F2 : Fun K "new_mark" "Marked.new_mark" s2 a2 fd2
  b2 : Binds K fd2 ["self"] []
  a3 : Addr
  fd3 : FuncData
  F3 : Fun K "tie" "Marked.tie" s3 a3 fd3
  b3 : Binds K fd3 ["self", "word", "marks", "meaning"] []
  a4 : Addr
  fd4 : FuncData
  F4 : Fun K "mean" "Marked.mean" s4 a4 fd4
  b4 : Binds K fd4 ["self", "word", "marks", "place"] []
  a5 : Addr
  fd5 : FuncData
  F5 : Fun K "_law_draws" "_law_draws" s5 a5 fd5
  m5 : mg "_law_draws" = some (.ref a5)
  b5 : Binds K fd5 ["script", "many"] []
  a6 : Addr
  fd6 : FuncData
  F6 : Fun K "_law_next" "_law_next" s6 a6 fd6
  m6 : mg "_law_next" = some (.ref a6)
  b6 : Binds K fd6 ["w", "many"] []
  a7 : Addr
  fd7 : FuncData
  F7 : Fun K "_law_pick" "_law_pick" s7 a7 fd7
  m7 : mg "_law_pick" = some (.ref a7)
  b7 : Binds K fd7 ["w", "rows"] []
  a8 : Addr
  fd8 : FuncData
  F8 : Fun K "_law_equal" "_law_equal" s8 a8 fd8
  m8 : mg "_law_equal" = some (.ref a8)
  b8 : Binds K fd8 ["told", "due"] []
  a9 : Addr
  fd9 : FuncData
  F9 : Fun K "_law_told" "_law_told" s9 a9 fd9
  m9 : mg "_law_told" = some (.ref a9)
  b9 : Binds K fd9 ["marked", "word", "marks", "place"] []
  a10 : Addr
  fd10 : FuncData
  F10 : Fun K "_law_due" "_law_due" s10 a10 fd10
  m10 : mg "_law_due" = some (.ref a10)
  b10 : Binds K fd10 ["ties", "word", "marks", "place"] []
  a11 : Addr
  fd11 : FuncData
  F11 : Fun K "law" "law" s11 a11 fd11
  m11 : mg "law" = some (.ref a11)
  b11 : Binds K fd11 ["script"] []
  C0 : Addr
  cls0 : Cls K C0
  mgC0 : mg "Marked" = some (.ref C0)
  mk0 : Mk K C0 a1
  nA0_uses : NoAttr K C0 "uses"
  nA0_rule_rows : NoAttr K C0 "rule_rows"
  nA0_places : NoAttr K C0 "places"
  nA0_marks : NoAttr K C0 "marks"
  nA0_ties : NoAttr K C0 "ties"
  nA0_most : NoAttr K C0 "most"
  me2 : Meth K C0 "new_mark" a2
  me3 : Meth K C0 "tie" a3
  me4 : Meth K C0 "mean" a4
  XC0 : Addr
  xmC0 : mg "BadForm" = some (.ref XC0)
  xo0 : OexC K XC0
  xa0 : Addr
  xiC0 : PySem.W.findIn K (.ref XC0) "__init__" = some (some (.ref xa0))
  xtI0 : PySem.W.typeIn K (.ref xa0) = some (.type "function")
  xfd0 : FuncData
  xF0 : Fun K "__init__" "BadForm.__init__" sx0 xa0 xfd0
  xb0 : Binds K xfd0 ["self", "place", "word"] []
  xS0 : Addr
  xmS0 : mg "StayError" = some (.ref xS0)
  xgt0 : PySem.W.specialIn K (.ref xS0) "__getattribute__" = some (some (.builtin "type.__getattribute__"))
  xrd0 : PySem.W.readsIn K xS0 (.type "type") = true
  xv0 : PySem.W.findCls K (.ref xS0) (.type "type") "__init__" = some (.val (.builtin "ValueError.__init__"))
  xno0_place : PySem.W.findIn K (.ref XC0) "place" = some none
  xno0_word : PySem.W.findIn K (.ref XC0) "word" = some none
  xf0 : XfC K XC0
  xi0 : XiC K XC0
  XS_StayError : Addr
  xm_StayError : mg "StayError" = some (.ref XS_StayError)
  xe0_StayError : PySem.W.exmOne K (.ref XC0) (.ref XS_StayError) = some true
  z_all : mg "all" = none
  z_tuple : mg "tuple" = none
  z_sorted : mg "sorted" = none
  z_len : mg "len" = none
  z_max : mg "max" = none
  z_range : mg "range" = none
  z_int : mg "int" = none
  z_abs : mg "abs" = none
  z_isinstance : mg "isinstance" = none
  z_bool : mg "bool" = none
  z_str : mg "str" = none
  z_list : mg "list" = none
  c_FORMS : KTup K mg "FORMS" [.str ("fn" : Str), .str ("let" : Str), .str ("if" : Str), .str ("quote" : Str), .str ("rules" : Str)]
def Facts.cl {K : PySem.W.Frag} {mg : Str → Option Value} (T : Facts K mg) : Nat → Addr
  | 0 => T.C0
  | 100 => T.XC0
  | _ => 0
section
variable {P : Program} {w : World} {K : PySem.W.Frag} {mg : Str → Option Value} {base : Heap}
theorem init0 {P : Program} {w : World} {base : Heap} {K : PySem.W.Frag} {mg : Str → Option Value} (T : Facts K mg) : FnOk P w K mg base CX0 1 T.xa0 T.xfd0 ["self", "place", "word"] (spI K T.XC0 2 pre0 flV0) := by
  refine T.xF0.ok scx0 (fun vs H Q E h => ?_) (fun cdv A outer s H vs Q E hr h => ?_)
  · obtain ⟨a, ws, rfl, hl, _⟩ := h
    simp [hl]
  · obtain ⟨a, ws, rfl, hl, hp, _, hE, hQ⟩ := h
    have hT := T.xo0
    obtain ⟨w0, w1, rfl⟩ : ∃ w0 w1, ws = [w0, w1] := by
      match ws, hl with
      | [w0, w1], _ => exact ⟨w0, w1, rfl⟩
    obtain ⟨s, hs, hs2⟩ : ∃ s, w1 = .str s ∧ s.length ≤ 1000 := by
      unfold pre0 at hp
      split at hp
      · rename_i hh
        cases hh
        exact ⟨_, rfl, hp⟩
      · exact hp.elim
    have hmsg : ("a form that cannot stand: " : Str).length + s.length ≤ sizeLine := by
      have h1 : ("a form that cannot stand: " : Str).length ≤ 1000 := by decide +kernel
      have e : sizeLine = 16777216 := by decide
      omega
    exact ⟨_, pss_cons (ps_expr (pe_sinit rfl T.xmS0 T.xgt0 T.xrd0 T.xv0 (pa_cons (pe_var (i := 0) rfl (by first | exact Or.inl rfl | exact Or.inr (Or.inl rfl) | exact Or.inr (Or.inr rfl))) (pa_cons (pe_op op_add_str pe_str (pe_var (i := 2) rfl (by first | exact Or.inl rfl | exact Or.inr (Or.inl rfl) | exact Or.inr (Or.inr rfl)))) pa_nil)))) (pss_cons (ps_ost (f := "place") (pe_var (i := 0) rfl (by first | exact Or.inl rfl | exact Or.inr (Or.inl rfl) | exact Or.inr (Or.inr rfl))) (pe_var (i := 1) rfl (by first | exact Or.inl rfl | exact Or.inr (Or.inl rfl) | exact Or.inr (Or.inr rfl)))) (pss_cons (ps_ost (f := "word") (pe_var (i := 0) rfl (by first | exact Or.inl rfl | exact Or.inr (Or.inl rfl) | exact Or.inr (Or.inr rfl))) (pe_var (i := 2) rfl (by first | exact Or.inl rfl | exact Or.inr (Or.inl rfl) | exact Or.inr (Or.inr rfl)))) pss_nil)), ⟨.ref a, rfl, w1, rfl, _, s, rfl, hs, hmsg, a, T.XC0, [_], rfl, (by simp), hT, hE, ⟨w0, rfl, .ref a, rfl, a, T.XC0, rfl, hT, T.xno0_place, .inl ⟨hE, fun dx n ne => ⟨w1, rfl, .ref a, rfl, a, T.XC0, rfl, hT, T.xno0_word, .inr ⟨dx, _, upd_same, (by rw [upd_ne ne, upd_same]), (by simp), (by have := hQ dx n ne; rw [← upd_swap ne (e1 := exd dx [("place", w0)])] at this; exact this)⟩⟩⟩⟩⟩⟩
def rs0 {P : Program} {w : World} {base : Heap} {K : PySem.W.Frag} {mg : Str → Option Value} (T : Facts K mg) : RsC P w K mg base T.XC0 2 pre0 flV0 := ⟨T.xa0, T.xfd0, ["self", "place", "word"], T.xo0, T.xiC0, T.xtI0, init0 T, T.xb0⟩
structure OkAll (P : Program) (w : World) (base : Heap) {K : PySem.W.Frag} {mg : Str → Option Value} (T : Facts K mg) (n : Nat) : Prop where
  g0 : FnOk P w K mg base CX0 n T.a0 T.fd0 ["one", "other"] (spF K 2 (fns T.cl n 0))
  g1 : FnOk P w K mg base CX0 n T.a1 T.fd1 ["self", "most"] (spF K 2 (fns T.cl n 1))
  g2 : FnOk P w K mg base CX0 n T.a2 T.fd2 ["self"] (spF K 1 (fns T.cl n 2))
  g3 : FnOk P w K mg base CX0 n T.a3 T.fd3 ["self", "word", "marks", "meaning"] (spF K 4 (fns T.cl n 3))
  g4 : FnOk P w K mg base (L2.CX P w) n T.a4 T.fd4 ["self", "word", "marks", "place"] (spF K 4 (fns T.cl n 4))
  g5 : FnOk P w K mg base CX0 n T.a5 T.fd5 ["script", "many"] (spF K 2 (fns T.cl n 5))
  g6 : FnOk P w K mg base CX0 n T.a6 T.fd6 ["w", "many"] (spF K 2 (fns T.cl n 6))
  g7 : FnOk P w K mg base CX0 n T.a7 T.fd7 ["w", "rows"] (spF K 2 (fns T.cl n 7))
  g8 : FnOk P w K mg base CX0 n T.a8 T.fd8 ["told", "due"] (spF K 2 (fns T.cl n 8))
  g9 : FnOk P w K mg base CX0 n T.a9 T.fd9 ["marked", "word", "marks", "place"] (spF K 4 (fns T.cl n 9))
  g10 : FnOk P w K mg base CX0 n T.a10 T.fd10 ["ties", "word", "marks", "place"] (spF K 4 (fns T.cl n 10))
  g11 : FnOk P w K mg base CX0 n T.a11 T.fd11 ["script"] (spF K 1 (fns T.cl n 11))
  h0 : CtOk P w K mg base T.a1 T.fd1 ["self", "most"] 2 (fun k => fns T.cl k 1) n
theorem ok0 (T : Facts K mg) {n : Nat} (O : OkAll P w base T n) : FnOk P w K mg base CX0 (n + 1) T.a0 T.fd0 ["one", "other"] (spF K 2 (fns T.cl (n + 1) 0)) := by
  refine fn_ok (fm := b0 T.cl (fns T.cl n)) T.F0 sc0 fun cdv A outer s H E hr => ?_
  have nd := sc0.nd
  exact (pdb_cons (pds_ret (pd_callB (cr_all rfl) g_all rfl T.z_all boot_all' (pda_cons (pd_lc rfl nd (pdi_seq (pd_var 0)) (own := [("mark", 2)]) (blkOk_by (by kernel_rfl)) tg_n (by decide) (fun _ _ _ _ _ => (pg_name (i := 2) nd rfl (by first | exact Or.inl rfl | exact Or.inr rfl))) (fun _ _ _ _ _ => pts_yes) (fun _ _ _ _ _ => (pd_cmp op_in_seq g_inN (pd_var 2) (pd_var 1) (by rfl)))) pda_nil)))
    pdb_nil)
theorem ok1 (T : Facts K mg) {n : Nat} (O : OkAll P w base T n) : FnOk P w K mg base CX0 (n + 1) T.a1 T.fd1 ["self", "most"] (spF K 2 (fns T.cl (n + 1) 1)) := by
  refine fn_okK (fm := b1 T.cl (fns T.cl n)) T.F1 sc1 fun cdv A outer s H E hr => ?_
  have nd := sc1.nd
  exact (pdb_cons (pds_fld T.cls0 T.nA0_most (pd_var 0) (pd_var 1))
    (pdb_cons (pds_fld T.cls0 T.nA0_ties (pd_var 0) pd_newK)
    (pdb_cons (pds_fld T.cls0 T.nA0_marks (pd_var 0) pd_int)
    (pdb_cons (pds_fld T.cls0 T.nA0_places (pd_var 0) pd_int)
    (pdb_cons (pds_fld T.cls0 T.nA0_rule_rows (pd_var 0) (pd_lst pda_nil))
    (pdb_cons (pds_fld T.cls0 T.nA0_uses (pd_var 0) pd_int)
    pdb_nil))))))
theorem ok2 (T : Facts K mg) {n : Nat} (O : OkAll P w base T n) : FnOk P w K mg base CX0 (n + 1) T.a2 T.fd2 ["self"] (spF K 1 (fns T.cl (n + 1) 2)) := by
  refine fn_ok (fm := b2 T.cl (fns T.cl n)) T.F2 sc2 fun cdv A outer s H E hr => ?_
  have nd := sc2.nd
  exact (pdb_cons (pds_fldaug inI_add T.cls0 T.nA0_marks (pd_var 0) pd_int)
    (pdb_cons (pds_ret (pd_sub (pd_fld T.cls0 T.nA0_marks (pd_var 0)) pd_int))
    pdb_nil))
theorem ok3 (T : Facts K mg) {n : Nat} (O : OkAll P w base T n) : FnOk P w K mg base CX0 (n + 1) T.a3 T.fd3 ["self", "word", "marks", "meaning"] (spF K 4 (fns T.cl (n + 1) 3)) := by
  refine fn_okK (fm := b3 T.cl (fns T.cl n)) T.F3 sc3 fun cdv A outer s H E hr => ?_
  have nd := sc3.nd
  exact (pdb_cons (pds_expr (pd_append (pd_setd (pd_fld T.cls0 T.nA0_ties (pd_var 0)) (pd_var 1) (pd_new pda_nil) ⟨rfl, rfl, rfl, rfl⟩) (pd_tup (pda_cons (pd_callTy call_tuple_ofN g_tuple rfl T.z_tuple boot_tuple' (pda_cons (pd_callB (cr_sortedTG hr.units) g_sortT rfl T.z_sorted boot_sorted' (pda_cons (pd_var 2) pda_nil)) pda_nil)) (pda_cons (pd_var 3) pda_nil)))))
    pdb_nil)
theorem ok4 (T : Facts K mg) {n : Nat} (O : OkAll P w base T n) : FnOk P w K mg base (L2.CX P w) (n + 1) T.a4 T.fd4 ["self", "word", "marks", "place"] (spF K 4 (fns T.cl (n + 1) 4)) := by
  refine fn_okX (fm := b4 T.cl (fns T.cl n)) T.F4 sc4 fun cdv A outer s H E hr tk => ?_
  have nd := sc4.nd
  exact (pdb_cons (pds_setLc 4 rfl nd (pdi_seq (pd_dget2 (hu_of hr) (pd_fld T.cls0 T.nA0_ties (pd_var 0)) (pd_var 1) (pd_lst pda_nil) ⟨rfl, rfl, rfl, rfl⟩)) (own := [("tie", 7)]) (blkOk_by (by kernel_rfl)) tg_n (by decide) (fun _ _ _ _ _ => (pg_name (i := 7) nd rfl (by first | exact Or.inl rfl | exact Or.inr rfl))) (fun _ _ _ _ _ => pts_c (pdt_val (pd_call O.g0 hr rfl T.m0 T.F0.kp T.b0 (pda_cons (pd_at (pd_var 7) pd_int) (pda_cons (pd_var 2) pda_nil))))) (fun _ _ _ _ _ => (pd_var 7)) (sw_true rfl rfl rfl (by kernel_rfl)))
    (pdb_cons (pds_if (pdt_cmp (op_eqD hr.units) g_eq (pd_var 4) (pd_lst pda_nil) (nomark _)) (pdb_cons (pds_ret (pd_if (pdt_cmp op_in_seq g_inN (pd_var 1) (pd_globT rfl T.c_FORMS) (by rfl)) (pd_tup (pda_cons pd_str (pda_cons (pd_var 1) pda_nil))) (pd_tup (pda_cons pd_str (pda_cons (pd_var 1) pda_nil)))))
    pdb_nil) pdb_nil)
    (pdb_cons (pds_set 5 nd (pd_callB (cr_max rfl) g_maxL rfl T.z_max boot_max' (pda_cons (pd_lc rfl nd (pdi_seq (pd_var 4)) (own := [("own", 8), ("_", 9)]) (blkOk_by (by kernel_rfl)) (tg_tup (tgs_cons tg_n (tgs_cons tg_n tgs_nil))) (by decide) (fun _ _ _ _ _ => (pg_tup rfl (pgs_cons (pg_name (i := 8) nd rfl (by first | exact Or.inl rfl | exact Or.inr rfl)) (pgs_cons (pg_name (i := 9) nd rfl (by first | exact Or.inl rfl | exact Or.inr rfl)) pgs_nil)))) (fun _ _ _ _ _ => pts_yes) (fun _ _ _ _ _ => (pd_callB (call_len.or call_lenR) g_len rfl T.z_len PySem.boot_len (pda_cons (pd_var 8) pda_nil)))) pda_nil)))
    (pdb_cons (pds_set 6 nd (pd_lc rfl nd (pdi_seq (pd_var 4)) (own := [("tie", 7)]) (blkOk_by (by kernel_rfl)) tg_n (by decide) (fun _ _ _ _ _ => (pg_name (i := 7) nd rfl (by first | exact Or.inl rfl | exact Or.inr rfl))) (fun _ _ _ _ _ => pts_c (pdt_cmp (op_eqD hr.units) g_eq (pd_callB (call_len.or call_lenR) g_len rfl T.z_len PySem.boot_len (pda_cons (pd_at (pd_var 7) pd_int) pda_nil)) (pd_var 5) (nomark _))) (fun _ _ _ _ _ => (pd_var 7))))
    (pdb_cons (pds_if (pdt_w (pdw_or (pdt_cmp op_gt g_gt (pd_callB (call_len.or call_lenR) g_len rfl T.z_len PySem.boot_len (pda_cons (pd_var 6) pda_nil)) pd_int (nomark _)) (pdw_or1 (pdt_not (pdt_val (pd_callB (cr_all rfl) g_all rfl T.z_all boot_all' (pda_cons (pd_lc rfl nd (pdi_seq (pd_var 4)) (own := [("own", 8), ("_", 9)]) (blkOk_by (by kernel_rfl)) (tg_tup (tgs_cons tg_n (tgs_cons tg_n tgs_nil))) (by decide) (fun _ _ _ _ _ => (pg_tup rfl (pgs_cons (pg_name (i := 8) nd rfl (by first | exact Or.inl rfl | exact Or.inr rfl)) (pgs_cons (pg_name (i := 9) nd rfl (by first | exact Or.inl rfl | exact Or.inr rfl)) pgs_nil)))) (fun _ _ _ _ _ => pts_yes) (fun _ _ _ _ _ => (pd_call O.g0 hr rfl T.m0 T.F0.kp T.b0 (pda_cons (pd_var 8) (pda_cons (pd_at (pd_at (pd_var 6) pd_int) pd_int) pda_nil))))) pda_nil))))))) (pdb_cons (pds_raiseF rfl tk (rs0 T) hpre0 hfl0 (rt0 _ _) hr rfl T.xmC0 (pda_cons (pd_var 3) (pda_cons pd_str pda_nil)))
    pdb_nil) pdb_nil)
    (pdb_cons (pds_ret (pd_at (pd_at (pd_var 6) pd_int) pd_int))
    pdb_nil))))))
theorem ok5 (T : Facts K mg) {n : Nat} (O : OkAll P w base T n) : FnOk P w K mg base CX0 (n + 1) T.a5 T.fd5 ["script", "many"] (spF K 2 (fns T.cl (n + 1) 5)) := by
  refine fn_ok (fm := b5 T.cl (fns T.cl n)) T.F5 sc5 fun cdv A outer s H E hr => ?_
  have nd := sc5.nd
  exact (pdb_cons (pds_set 2 nd (pd_new pda_nil))
    (pdb_cons (pds_set 3 nd pd_int)
    (pdb_cons (pds_for PassesOwn.never rfl (pdi_range1 rfl T.z_range (pda_cons (pd_callB (call_len.or call_lenR) g_len rfl T.z_len PySem.boot_len (pda_cons (pd_var 0) pda_nil)) pda_nil)) (pg_name (i := 4) nd rfl (by first | exact Or.inl rfl | exact Or.inr rfl)) tg_n (pdb_cons (pds_set 5 nd (pd_callB call_abs g_abs rfl T.z_abs boot_abs' (pda_cons (pd_callTy call_int1 g_int rfl T.z_int boot_int' (pda_cons (pd_at (pd_var 0) (pd_var 4)) pda_nil)) pda_nil)))
    (pdb_cons (pds_set 3 nd (pd_mod (pd_callTy call_int1 g_int rfl T.z_int boot_int' (pda_cons (pd_add (pd_add (pd_mul (pd_var 3) pd_int) (pd_mod (pd_var 5) pd_int)) (pd_var 4)) pda_nil)) pd_int))
    (pdb_cons (pds_set 6 nd pd_int)
    (pdb_cons (pds_if (pdt_cmp op_ge g_ge (pd_var 5) (pd_pow pd_int pd_int) (nomark _)) (pdb_cons (pds_set 6 nd (pd_var 5))
    pdb_nil) (pdb_cons (pds_expr (pd_append (pd_var 2) (pd_mod (pd_callTy call_int1 g_int rfl T.z_int boot_int' (pda_cons (pd_var 5) pda_nil)) pd_int)))
    (pdb_cons (pds_expr (pd_append (pd_var 2) (pd_mod (pd_mod (pd_callTy call_int1 g_int rfl T.z_int boot_int' (pda_cons (pd_add (pd_mul (pd_var 3) pd_int) pd_int) pda_nil)) pd_int) pd_int)))
    pdb_nil)))
    (pdb_cons (pds_for PassesOwn.never rfl (pdi_range1 rfl T.z_range (pda_cons pd_int pda_nil)) (pg_name (i := 7) nd rfl (by first | exact Or.inl rfl | exact Or.inr rfl)) tg_n (pdb_cons (pds_if (pdt_cmp op_gt g_gt (pd_var 6) pd_int (nomark _)) (pdb_cons (pds_expr (pd_append (pd_var 2) (pd_mod (pd_callTy call_int1 g_int rfl T.z_int boot_int' (pda_cons (pd_var 6) pda_nil)) pd_int)))
    (pdb_cons (pds_set 6 nd (pd_div (pd_var 6) pd_int))
    pdb_nil)) pdb_nil)
    pdb_nil))
    pdb_nil))))))
    (pdb_cons (pds_for PassesOwn.never rfl (pdi_range1 rfl T.z_range (pda_cons (pd_var 1) pda_nil)) (pg_name (i := 4) nd rfl (by first | exact Or.inl rfl | exact Or.inr rfl)) tg_n (pdb_cons (pds_set 3 nd (pd_mod (pd_callTy call_int1 g_int rfl T.z_int boot_int' (pda_cons (pd_add (pd_add (pd_mul (pd_var 3) pd_int) (pd_var 4)) pd_int) pda_nil)) pd_int))
    (pdb_cons (pds_expr (pd_append (pd_var 2) (pd_mod (pd_callTy call_int1 g_int rfl T.z_int boot_int' (pda_cons (pd_var 3) pda_nil)) pd_int)))
    pdb_nil)))
    (pdb_cons (pds_ret (pd_slice (pd_var 2) pdo_none (pdo_some (pd_var 1))))
    pdb_nil)))))
theorem ok6 (T : Facts K mg) {n : Nat} (O : OkAll P w base T n) : FnOk P w K mg base CX0 (n + 1) T.a6 T.fd6 ["w", "many"] (spF K 2 (fns T.cl (n + 1) 6)) := by
  refine fn_ok (fm := b6 T.cl (fns T.cl n)) T.F6 sc6 fun cdv A outer s H E hr => ?_
  have nd := sc6.nd
  exact (pdb_cons (pds_daug (hu_of hr) (pd_var 0) pd_str pd_int)
    (pdb_cons (pds_if (pdt_cmp op_gt g_gt (pd_dget (hu_of hr) (pd_var 0) pd_str) (pd_callB (call_len.or call_lenR) g_len rfl T.z_len PySem.boot_len (pda_cons (pd_dget (hu_of hr) (pd_var 0) pd_str) pda_nil)) (nomark _)) (pdb_cons (pds_ret pd_int)
    pdb_nil) pdb_nil)
    (pdb_cons (pds_ret (pd_mod (pd_callTy call_int1 g_int rfl T.z_int boot_int' (pda_cons (pd_at (pd_dget (hu_of hr) (pd_var 0) pd_str) (pd_sub (pd_dget (hu_of hr) (pd_var 0) pd_str) pd_int)) pda_nil)) (pd_var 1)))
    pdb_nil)))
theorem ok7 (T : Facts K mg) {n : Nat} (O : OkAll P w base T n) : FnOk P w K mg base CX0 (n + 1) T.a7 T.fd7 ["w", "rows"] (spF K 2 (fns T.cl (n + 1) 7)) := by
  refine fn_ok (fm := b7 T.cl (fns T.cl n)) T.F7 sc7 fun cdv A outer s H E hr => ?_
  have nd := sc7.nd
  exact (pdb_cons (pds_ret (pd_at (pd_var 1) (pd_call O.g6 hr rfl T.m6 T.F6.kp T.b6 (pda_cons (pd_var 0) (pda_cons (pd_callB (call_len.or call_lenR) g_len rfl T.z_len PySem.boot_len (pda_cons (pd_var 1) pda_nil)) pda_nil)))))
    pdb_nil)
theorem ok8 (T : Facts K mg) {n : Nat} (O : OkAll P w base T n) : FnOk P w K mg base CX0 (n + 1) T.a8 T.fd8 ["told", "due"] (spF K 2 (fns T.cl (n + 1) 8)) := by
  refine fn_ok (fm := b8 T.cl (fns T.cl n)) T.F8 sc8 fun cdv A outer s H E hr => ?_
  have nd := sc8.nd
  exact (pdb_cons (pds_if (pdt_val (pd_isi rfl T.z_isinstance rfl T.z_tuple boot_tuple' (pd_var 1))) (pdb_cons (pds_if (pdt_w (pdw_or (pdt_not (pdt_val (pd_isi rfl T.z_isinstance rfl T.z_tuple boot_tuple' (pd_var 0)))) (pdw_or1 (pdt_cmp (op_neD hr.units) g_ne (pd_callB (call_len.or call_lenR) g_len rfl T.z_len PySem.boot_len (pda_cons (pd_var 0) pda_nil)) (pd_callB (call_len.or call_lenR) g_len rfl T.z_len PySem.boot_len (pda_cons (pd_var 1) pda_nil)) (nomark _))))) (pdb_cons (pds_ret pd_bl)
    pdb_nil) pdb_nil)
    (pdb_cons (pds_ret (pd_cmp (op_eqD hr.units) g_eq (pd_lc rfl nd (pdi_range1 rfl T.z_range (pda_cons (pd_callB (call_len.or call_lenR) g_len rfl T.z_len PySem.boot_len (pda_cons (pd_var 1) pda_nil)) pda_nil)) (own := [("k", 2)]) (blkOk_by (by kernel_rfl)) tg_n (by decide) (fun _ _ _ _ _ => (pg_name (i := 2) nd rfl (by first | exact Or.inl rfl | exact Or.inr rfl))) (fun _ _ _ _ _ => pts_c (pdt_not (pdt_val (pd_call O.g8 hr rfl T.m8 T.F8.kp T.b8 (pda_cons (pd_at (pd_var 0) (pd_var 2)) (pda_cons (pd_at (pd_var 1) (pd_var 2)) pda_nil)))))) (fun _ _ _ _ _ => (pd_var 2))) (pd_lst pda_nil) (nomark _)))
    pdb_nil)) pdb_nil)
    (pdb_cons (pds_if (pdt_cmp op_isN g_isN (pd_var 1) pd_non (nomark _)) (pdb_cons (pds_ret (pd_cmp op_isN g_isN (pd_var 0) pd_non (nomark _)))
    pdb_nil) pdb_nil)
    (pdb_cons (pds_if (pdt_val (pd_isi rfl T.z_isinstance rfl T.z_str boot_str' (pd_var 1))) (pdb_cons (pds_ret (pd_and (pd_isi rfl T.z_isinstance rfl T.z_str boot_str' (pd_var 0)) (pd_one (pd_cmp (op_eqD hr.units) g_eq (pd_var 0) (pd_var 1) (nomark _)))))
    pdb_nil) pdb_nil)
    (pdb_cons (pds_ret (pd_and (pd_isi rfl T.z_isinstance rfl T.z_int boot_int' (pd_var 0)) (pd_and (pd_cmp (op_eqD hr.units) g_eq (pd_isi rfl T.z_isinstance rfl T.z_bool boot_bool' (pd_var 0)) (pd_isi rfl T.z_isinstance rfl T.z_bool boot_bool' (pd_var 1)) (nomark _)) (pd_one (pd_cmp (op_eqD hr.units) g_eq (pd_var 0) (pd_var 1) (nomark _))))))
    pdb_nil))))
theorem ok9 (T : Facts K mg) {n : Nat} (O : OkAll P w base T n) : FnOk P w K mg base CX0 (n + 1) T.a9 T.fd9 ["marked", "word", "marks", "place"] (spF K 4 (fns T.cl (n + 1) 9)) := by
  refine fn_ok (fm := b9 T.cl (fns T.cl n)) T.F9 sc9 fun cdv A outer s H E hr => ?_
  have nd := sc9.nd
  exact (pdb_cons (pds_tryAs rfl rfl nd rfl rfl ⟨rfl, by decide, Or.inl T.xm_StayError⟩ takes0 T.xe0_StayError (fun W' pn xe tkt _ => (pdb_cons (pds_ret (pd_tup (pda_cons pd_str (pda_cons (pd_methX tkt _ T.cls0 T.me4 O.g4 hr T.b4 (pd_var 0) (pda_cons (pd_var 1) (pda_cons (pd_var 2) (pda_cons (pd_var 3) pda_nil)))) pda_nil))))
    pdb_nil)) (fun a oe d pn hz hf => psx_ret (pdx_if (ptx_val (pdx_isi T.xi0 hz hf rfl T.z_isinstance rfl T.xmC0)) (pdx_tup (pax_cons (pdx_of pd_str) (pax_cons (pdx_fld T.xf0 T.xno0_place hz hf) (pax_cons (pdx_fld T.xf0 T.xno0_word hz hf) pax_nil)))) (pdx_of (pd_tup (pda_cons pd_str (pda_cons pd_int (pda_cons pd_str pda_nil))))))))
    pdb_nil)
theorem ok10 (T : Facts K mg) {n : Nat} (O : OkAll P w base T n) : FnOk P w K mg base CX0 (n + 1) T.a10 T.fd10 ["ties", "word", "marks", "place"] (spF K 4 (fns T.cl (n + 1) 10)) := by
  refine fn_ok (fm := b10 T.cl (fns T.cl n)) T.F10 sc10 fun cdv A outer s H E hr => ?_
  have nd := sc10.nd
  exact (pdb_cons (pds_set 4 nd (pd_lc rfl nd (pdi_seq (pd_var 0)) (own := [("name", 7), ("own", 8), ("meaning", 9)]) (blkOk_by (by kernel_rfl)) (tg_tup (tgs_cons tg_n (tgs_cons tg_n (tgs_cons tg_n tgs_nil)))) (by decide) (fun _ _ _ _ _ => (pg_tup rfl (pgs_cons (pg_name (i := 7) nd rfl (by first | exact Or.inl rfl | exact Or.inr rfl)) (pgs_cons (pg_name (i := 8) nd rfl (by first | exact Or.inl rfl | exact Or.inr rfl)) (pgs_cons (pg_name (i := 9) nd rfl (by first | exact Or.inl rfl | exact Or.inr rfl)) pgs_nil))))) (fun _ _ _ _ _ => pts_c (pdt_w (pdw_and (pdt_cmp (op_eqD hr.units) g_eq (pd_var 7) (pd_var 1) (nomark _)) (pdw_and1 (pdt_cmp (op_eqD hr.units) g_eq (pd_lc rfl nd (pdi_seq (pd_var 8)) (own := [("mark", 10)]) (blkOk_by (by kernel_rfl)) tg_n (by decide) (fun _ _ _ _ _ => (pg_name (i := 10) nd rfl (by first | exact Or.inl rfl | exact Or.inr rfl))) (fun _ _ _ _ _ => pts_c (pdt_cmp op_notIn_seq g_inN (pd_var 10) (pd_var 2) (by rfl))) (fun _ _ _ _ _ => (pd_var 10))) (pd_lst pda_nil) (nomark _)))))) (fun _ _ _ _ _ => (pd_tup (pda_cons (pd_var 8) (pda_cons (pd_var 9) pda_nil))))))
    (pdb_cons (pds_if (pdt_cmp (op_eqD hr.units) g_eq (pd_var 4) (pd_lst pda_nil) (nomark _)) (pdb_cons (pds_ret (pd_tup (pda_cons pd_str (pda_cons (pd_if (pdt_cmp op_in_seq g_inN (pd_var 1) (pd_lst (pda_cons pd_str (pda_cons pd_str (pda_cons pd_str (pda_cons pd_str (pda_cons pd_str pda_nil)))))) (by rfl)) (pd_tup (pda_cons pd_str (pda_cons (pd_var 1) pda_nil))) (pd_tup (pda_cons pd_str (pda_cons (pd_var 1) pda_nil)))) pda_nil))))
    pdb_nil) pdb_nil)
    (pdb_cons (pds_setLc 5 rfl nd (pdi_seq (pd_var 4)) (own := [("tie", 6)]) (blkOk_by (by kernel_rfl)) tg_n (by decide) (fun _ _ _ _ _ => (pg_name (i := 6) nd rfl (by first | exact Or.inl rfl | exact Or.inr rfl))) (fun _ _ _ _ _ => pts_c (pdt_cmp (op_eqD hr.units) g_eq (pd_lc rfl nd (pdi_seq (pd_var 4)) (own := [("own", 8), ("meaning", 9)]) (blkOk_by (by kernel_rfl)) (tg_tup (tgs_cons tg_n (tgs_cons tg_n tgs_nil))) (by decide) (fun _ _ _ _ _ => (pg_tup rfl (pgs_cons (pg_name (i := 8) nd rfl (by first | exact Or.inl rfl | exact Or.inr rfl)) (pgs_cons (pg_name (i := 9) nd rfl (by first | exact Or.inl rfl | exact Or.inr rfl)) pgs_nil)))) (fun _ _ _ _ _ => pts_c (pdt_cmp (op_neD hr.units) g_ne (pd_lc rfl nd (pdi_seq (pd_var 8)) (own := [("mark", 10)]) (blkOk_by (by kernel_rfl)) tg_n (by decide) (fun _ _ _ _ _ => (pg_name (i := 10) nd rfl (by first | exact Or.inl rfl | exact Or.inr rfl))) (fun _ _ _ _ _ => pts_c (pdt_cmp op_notIn_seq g_inN (pd_var 10) (pd_at (pd_var 6) pd_int) (by rfl))) (fun _ _ _ _ _ => (pd_var 10))) (pd_lst pda_nil) (nomark _))) (fun _ _ _ _ _ => (pd_var 8))) (pd_lst pda_nil) (nomark _))) (fun _ _ _ _ _ => (pd_var 6)) (sw_true rfl rfl rfl (by kernel_rfl)))
    (pdb_cons (pds_ret (pd_if (pdt_cmp (op_eqD hr.units) g_eq (pd_callB (call_len.or call_lenR) g_len rfl T.z_len PySem.boot_len (pda_cons (pd_var 5) pda_nil)) pd_int (nomark _)) (pd_tup (pda_cons pd_str (pda_cons (pd_at (pd_at (pd_var 5) pd_int) pd_int) pda_nil))) (pd_tup (pda_cons pd_str (pda_cons (pd_var 3) (pda_cons pd_str pda_nil))))))
    pdb_nil))))
theorem ok11 (T : Facts K mg) {n : Nat} (O : OkAll P w base T n) : FnOk P w K mg base CX0 (n + 1) T.a11 T.fd11 ["script"] (spF K 1 (fns T.cl (n + 1) 11)) := by
  refine fn_ok (fm := b11 T.cl (fns T.cl n)) T.F11 sc11 fun cdv A outer s H E hr => ?_
  have nd := sc11.nd
  exact (pdb_cons (pds_set 1 nd (pd_disp (pdp_cons pd_str (pd_call O.g5 hr rfl T.m5 T.F5.kp T.b5 (pda_cons (pd_var 0) (pda_cons pd_int pda_nil))) (pdp_cons pd_str pd_int pdp_nil))))
    (pdb_cons (pds_for PassesOwn.never rfl (pdi_range1 rfl T.z_range (pda_cons pd_int pda_nil)) (pg_name (i := 2) nd rfl (by first | exact Or.inl rfl | exact Or.inr rfl)) tg_n (pdb_cons (pds_asg (pd_tup (pda_cons (pd_make T.mk0 O.h0 hr rfl T.mgC0 T.b1 (pda_cons pd_int pda_nil) (ct0 _ _)) (pda_cons (pd_new pda_nil) pda_nil))) (pg_tup rfl (pgs_cons (pg_name (i := 5) nd rfl (by first | exact Or.inl rfl | exact Or.inr rfl)) (pgs_cons (pg_name (i := 6) nd rfl (by first | exact Or.inl rfl | exact Or.inr rfl)) pgs_nil))) (tg_tup (tgs_cons tg_n (tgs_cons tg_n tgs_nil))))
    (pdb_cons (pds_set 3 nd (pd_add pd_int (pd_call O.g6 hr rfl T.m6 T.F6.kp T.b6 (pda_cons (pd_var 1) (pda_cons pd_int pda_nil)))))
    (pdb_cons (pds_if (pdt_cmp (op_neD hr.units) g_ne (pd_lc rfl nd (pdi_range1 rfl T.z_range (pda_cons (pd_var 3) pda_nil)) (own := [("k", 10)]) (blkOk_by (by kernel_rfl)) tg_n (by decide) (fun _ _ _ _ _ => (pg_name (i := 10) nd rfl (by first | exact Or.inl rfl | exact Or.inr rfl))) (fun _ _ _ _ _ => pts_yes) (fun _ _ _ _ _ => (pd_meth0 _ T.cls0 T.me2 O.g2 hr T.b2 (pd_var 5)))) (pd_lstRg rfl rfl T.z_list (pdrg_1 rfl T.z_range (pd_var 3))) (nomark _)) (pdb_cons (pds_ret pd_bl)
    pdb_nil) pdb_nil)
    (pdb_cons (pds_for PassesOwn.never rfl (pdi_range1 rfl T.z_range (pda_cons pd_int pda_nil)) (pg_name (i := 4) nd rfl (by first | exact Or.inl rfl | exact Or.inr rfl)) tg_n (pdb_cons (pds_set 7 nd (pd_call O.g7 hr rfl T.m7 T.F7.kp T.b7 (pda_cons (pd_var 1) (pda_cons (pd_lst (pda_cons pd_str (pda_cons pd_str (pda_cons pd_str (pda_cons pd_str pda_nil))))) pda_nil))))
    (pdb_cons (pds_set 8 nd (pd_callTy call_tuple_ofN g_tuple rfl T.z_tuple boot_tuple' (pda_cons (pd_lc rfl nd (pdi_range1 rfl T.z_range (pda_cons (pd_var 3) pda_nil)) (own := [("mark", 11)]) (blkOk_by (by kernel_rfl)) tg_n (by decide) (fun _ _ _ _ _ => (pg_name (i := 11) nd rfl (by first | exact Or.inl rfl | exact Or.inr rfl))) (fun _ _ _ _ _ => pts_c (pdt_cmp (op_eqD hr.units) g_eq (pd_call O.g6 hr rfl T.m6 T.F6.kp T.b6 (pda_cons (pd_var 1) (pda_cons pd_int pda_nil))) pd_int (nomark _))) (fun _ _ _ _ _ => (pd_var 11))) pda_nil)))
    (pdb_cons (pds_if (pdt_cmp (op_eqD hr.units) g_eq (pd_call O.g6 hr rfl T.m6 T.F6.kp T.b6 (pda_cons (pd_var 1) (pda_cons pd_int pda_nil))) pd_int (nomark _)) (pdb_cons (pds_set 9 nd (pd_call O.g7 hr rfl T.m7 T.F7.kp T.b7 (pda_cons (pd_var 1) (pda_cons (pd_lst (pda_cons (pd_tup (pda_cons pd_str (pda_cons (pd_var 4) pda_nil))) (pda_cons (pd_tup (pda_cons pd_str (pda_cons (pd_var 4) pda_nil))) (pda_cons (pd_tup (pda_cons pd_str (pda_cons (pd_add pd_int (pd_var 4)) pda_nil))) pda_nil)))) pda_nil))))
    (pdb_cons (pds_expr (pd_meth _ T.cls0 T.me3 O.g3 hr T.b3 (pd_var 5) (pda_cons (pd_var 7) (pda_cons (pd_var 8) (pda_cons (pd_var 9) pda_nil)))))
    (pdb_cons (pds_expr (pd_append (pd_var 6) (pd_tup (pda_cons (pd_var 7) (pda_cons (pd_var 8) (pda_cons (pd_var 9) pda_nil))))))
    pdb_nil))) (pdb_cons (pds_if (pdt_not (pdt_val (pd_call O.g8 hr rfl T.m8 T.F8.kp T.b8 (pda_cons (pd_call O.g9 hr rfl T.m9 T.F9.kp T.b9 (pda_cons (pd_var 5) (pda_cons (pd_var 7) (pda_cons (pd_var 8) (pda_cons (pd_var 4) pda_nil))))) (pda_cons (pd_call O.g10 hr rfl T.m10 T.F10.kp T.b10 (pda_cons (pd_var 6) (pda_cons (pd_var 7) (pda_cons (pd_var 8) (pda_cons (pd_var 4) pda_nil))))) pda_nil))))) (pdb_cons (pds_ret pd_bl)
    pdb_nil) pdb_nil)
    pdb_nil))
    pdb_nil))))
    pdb_nil)))))
    (pdb_cons (pds_ret pd_bl)
    pdb_nil)))
theorem okAll (T : Facts K mg) : ∀ n, OkAll P w base T n
  | 0 => ⟨fn_zero, fn_zero, fn_zero, fn_zero, fn_zeroX, fn_zero, fn_zero, fn_zero, fn_zero, fn_zero, fn_zero, fn_zero, trivial⟩
  | n + 1 => have O := okAll T n
    ⟨ok0 T O, ok1 T O, ok2 T O, ok3 T O, ok4 T O, ok5 T O, ok6 T O, ok7 T O, ok8 T O, ok9 T O, ok10 T O, ok11 T O, O.g1⟩
end
theorem all_mk {l : PySem.W.OpenLaw} {w : World} {K : PySem.W.Frag} {h : Heap} {mg : Str → Option Value} {fa : Addr} (X : K.In h) (G : h.Ns mainGlobals mg) (hfa : mg "law" = some (.ref fa)) {f0 f1 f2 f3 f4 f5 f6 f7 f8 f9 f10 f11 C0 : Addr}
    (aC0 : PySem.W.nsIn K mainGlobals "Marked" = some (some (.ref C0))) (pg0 : PySem.W.plainGet K C0 Str.empty = true) (hd0 : PySem.W.hasDictIn K C0 = true) (po0 : PySem.W.plainOver K C0 = true) (sa0 : PySem.W.findIn K (.ref C0) "__setattr__" = some (some (.builtin "object.__setattr__"))) (mk0 : PySem.W.makesIn K C0 = true) (kc0 : PySem.W.keepIn K (.ref C0) = true)
    (nA0_uses : PySem.W.findIn K (.ref C0) "uses" = some none)
    (nA0_rule_rows : PySem.W.findIn K (.ref C0) "rule_rows" = some none)
    (nA0_places : PySem.W.findIn K (.ref C0) "places" = some none)
    (nA0_marks : PySem.W.findIn K (.ref C0) "marks" = some none)
    (nA0_ties : PySem.W.findIn K (.ref C0) "ties" = some none)
    (nA0_most : PySem.W.findIn K (.ref C0) "most" = some none)
    {od0 an0 : Option Addr} {sl0 : Array (Option Value)} {oc0 kV0 dc0 pm0 cd0 ct0 : Value} (A0 : PySem.W.nsIn K mainGlobals "is_within" = some (some (.ref f0))) (l0 : K.lookup f0 = some ⟨oc0, od0, .func (PySem.W.fnOf "is_within" "is_within" (defArgs s0) (defBody s0) (defScope s0) .none kV0 dc0 pm0 an0 cd0 ct0), sl0⟩) (c0 : PySem.W.codeIn K cd0 "is_within" = true) (k0 : PySem.W.keepIn K (.ref f0) = true)
    {od1 an1 : Option Addr} {sl1 : Array (Option Value)} {oc1 kV1 dc1 pm1 cd1 ct1 : Value} (A1 : PySem.W.findIn K (.ref C0) "__init__" = some (some (.ref f1))) (i1 : PySem.W.isFn K (.ref f1) = true) (l1 : K.lookup f1 = some ⟨oc1, od1, .func (PySem.W.fnOf "__init__" "Marked.__init__" (defArgs s1) (defBody s1) (defScope s1) .none kV1 dc1 pm1 an1 cd1 ct1), sl1⟩) (c1 : PySem.W.codeIn K cd1 "Marked.__init__" = true) (k1 : PySem.W.keepIn K (.ref f1) = true)
    {od2 an2 : Option Addr} {sl2 : Array (Option Value)} {oc2 kV2 dc2 pm2 cd2 ct2 : Value} (A2 : PySem.W.findIn K (.ref C0) "new_mark" = some (some (.ref f2))) (i2 : PySem.W.isFn K (.ref f2) = true) (l2 : K.lookup f2 = some ⟨oc2, od2, .func (PySem.W.fnOf "new_mark" "Marked.new_mark" (defArgs s2) (defBody s2) (defScope s2) .none kV2 dc2 pm2 an2 cd2 ct2), sl2⟩) (c2 : PySem.W.codeIn K cd2 "Marked.new_mark" = true) (k2 : PySem.W.keepIn K (.ref f2) = true)
    {od3 an3 : Option Addr} {sl3 : Array (Option Value)} {oc3 kV3 dc3 pm3 cd3 ct3 : Value} (A3 : PySem.W.findIn K (.ref C0) "tie" = some (some (.ref f3))) (i3 : PySem.W.isFn K (.ref f3) = true) (l3 : K.lookup f3 = some ⟨oc3, od3, .func (PySem.W.fnOf "tie" "Marked.tie" (defArgs s3) (defBody s3) (defScope s3) .none kV3 dc3 pm3 an3 cd3 ct3), sl3⟩) (c3 : PySem.W.codeIn K cd3 "Marked.tie" = true) (k3 : PySem.W.keepIn K (.ref f3) = true)
    {od4 an4 : Option Addr} {sl4 : Array (Option Value)} {oc4 kV4 dc4 pm4 cd4 ct4 : Value} (A4 : PySem.W.findIn K (.ref C0) "mean" = some (some (.ref f4))) (i4 : PySem.W.isFn K (.ref f4) = true) (l4 : K.lookup f4 = some ⟨oc4, od4, .func (PySem.W.fnOf "mean" "Marked.mean" (defArgs s4) (defBody s4) (defScope s4) .none kV4 dc4 pm4 an4 cd4 ct4), sl4⟩) (c4 : PySem.W.codeIn K cd4 "Marked.mean" = true) (k4 : PySem.W.keepIn K (.ref f4) = true)
    {od5 an5 : Option Addr} {sl5 : Array (Option Value)} {oc5 kV5 dc5 pm5 cd5 ct5 : Value} (A5 : PySem.W.nsIn K mainGlobals "_law_draws" = some (some (.ref f5))) (l5 : K.lookup f5 = some ⟨oc5, od5, .func (PySem.W.fnOf "_law_draws" "_law_draws" (defArgs s5) (defBody s5) (defScope s5) .none kV5 dc5 pm5 an5 cd5 ct5), sl5⟩) (c5 : PySem.W.codeIn K cd5 "_law_draws" = true) (k5 : PySem.W.keepIn K (.ref f5) = true)
    {od6 an6 : Option Addr} {sl6 : Array (Option Value)} {oc6 kV6 dc6 pm6 cd6 ct6 : Value} (A6 : PySem.W.nsIn K mainGlobals "_law_next" = some (some (.ref f6))) (l6 : K.lookup f6 = some ⟨oc6, od6, .func (PySem.W.fnOf "_law_next" "_law_next" (defArgs s6) (defBody s6) (defScope s6) .none kV6 dc6 pm6 an6 cd6 ct6), sl6⟩) (c6 : PySem.W.codeIn K cd6 "_law_next" = true) (k6 : PySem.W.keepIn K (.ref f6) = true)
    {od7 an7 : Option Addr} {sl7 : Array (Option Value)} {oc7 kV7 dc7 pm7 cd7 ct7 : Value} (A7 : PySem.W.nsIn K mainGlobals "_law_pick" = some (some (.ref f7))) (l7 : K.lookup f7 = some ⟨oc7, od7, .func (PySem.W.fnOf "_law_pick" "_law_pick" (defArgs s7) (defBody s7) (defScope s7) .none kV7 dc7 pm7 an7 cd7 ct7), sl7⟩) (c7 : PySem.W.codeIn K cd7 "_law_pick" = true) (k7 : PySem.W.keepIn K (.ref f7) = true)
    {od8 an8 : Option Addr} {sl8 : Array (Option Value)} {oc8 kV8 dc8 pm8 cd8 ct8 : Value} (A8 : PySem.W.nsIn K mainGlobals "_law_equal" = some (some (.ref f8))) (l8 : K.lookup f8 = some ⟨oc8, od8, .func (PySem.W.fnOf "_law_equal" "_law_equal" (defArgs s8) (defBody s8) (defScope s8) .none kV8 dc8 pm8 an8 cd8 ct8), sl8⟩) (c8 : PySem.W.codeIn K cd8 "_law_equal" = true) (k8 : PySem.W.keepIn K (.ref f8) = true)
    {od9 an9 : Option Addr} {sl9 : Array (Option Value)} {oc9 kV9 dc9 pm9 cd9 ct9 : Value} (A9 : PySem.W.nsIn K mainGlobals "_law_told" = some (some (.ref f9))) (l9 : K.lookup f9 = some ⟨oc9, od9, .func (PySem.W.fnOf "_law_told" "_law_told" (defArgs s9) (defBody s9) (defScope s9) .none kV9 dc9 pm9 an9 cd9 ct9), sl9⟩) (c9 : PySem.W.codeIn K cd9 "_law_told" = true) (k9 : PySem.W.keepIn K (.ref f9) = true)
    {od10 an10 : Option Addr} {sl10 : Array (Option Value)} {oc10 kV10 dc10 pm10 cd10 ct10 : Value} (A10 : PySem.W.nsIn K mainGlobals "_law_due" = some (some (.ref f10))) (l10 : K.lookup f10 = some ⟨oc10, od10, .func (PySem.W.fnOf "_law_due" "_law_due" (defArgs s10) (defBody s10) (defScope s10) .none kV10 dc10 pm10 an10 cd10 ct10), sl10⟩) (c10 : PySem.W.codeIn K cd10 "_law_due" = true) (k10 : PySem.W.keepIn K (.ref f10) = true)
    {od11 an11 : Option Addr} {sl11 : Array (Option Value)} {oc11 kV11 dc11 pm11 cd11 ct11 : Value} (A11 : PySem.W.nsIn K mainGlobals "law" = some (some (.ref f11))) (l11 : K.lookup f11 = some ⟨oc11, od11, .func (PySem.W.fnOf "law" "law" (defArgs s11) (defBody s11) (defScope s11) .none kV11 dc11 pm11 an11 cd11 ct11), sl11⟩) (c11 : PySem.W.codeIn K cd11 "law" = true) (k11 : PySem.W.keepIn K (.ref f11) = true)
    {nm0 qq0 : Str} {N0 XC0 xa0 xS0 : Addr} {bs0 : List Value} {sn0 : List Str} {sub0 : List Value} {ab0 : Bool} {col0 : Option Bool} {dd0 : Option Addr} {m00 m10 m20 m30 m50 : Option Value} {xod0 xan0 : Option Addr} {xsl0 : Array (Option Value)} {xoc0 xkV0 xdc0 xpm0 xcd0 xct0 : Value}
    (xaC0 : PySem.W.nsIn K mainGlobals "BadForm" = some (some (.ref XC0))) (xaS0 : PySem.W.nsIn K mainGlobals "StayError" = some (some (.ref xS0)))
    (xL0 : K.lookup XC0 = some (excClassObj nm0 qq0 XC0 N0 bs0 [.ref xS0, .type "ValueError", .type "Exception", .type "BaseException", .type "object"] true sn0 sub0 ab0 col0 dd0 m00 m10 m20 m30 m50 "ValueError.__new__"))
    (xsa0 : PySem.W.findIn K (.ref XC0) "__setattr__" = some (some (.builtin "object.__setattr__"))) (xex0 : PySem.W.subIn K (.ref XC0) (.type "BaseException") = some true) (xty0 : PySem.W.typeIn K (.ref XC0) = some (.type "type")) (xkp0 : PySem.W.keepIn K (.ref XC0) = true)
    (xiC0 : PySem.W.findIn K (.ref XC0) "__init__" = some (some (.ref xa0))) (xtI0 : PySem.W.typeIn K (.ref xa0) = some (.type "function")) (xl0 : K.lookup xa0 = some ⟨xoc0, xod0, .func (PySem.W.fnOf "__init__" "BadForm.__init__" (defArgs sx0) (defBody sx0) (defScope sx0) .none xkV0 xdc0 xpm0 xan0 xcd0 xct0), xsl0⟩) (xc0 : PySem.W.codeIn K xcd0 "BadForm.__init__" = true) (xk0 : PySem.W.keepIn K (.ref xa0) = true)
    (xgt0 : PySem.W.specialIn K (.ref xS0) "__getattribute__" = some (some (.builtin "type.__getattribute__"))) (xrd0 : PySem.W.readsIn K xS0 (.type "type") = true) (xv0 : PySem.W.findCls K (.ref xS0) (.type "type") "__init__" = some (.val (.builtin "ValueError.__init__")))
    (xno0_place : PySem.W.findIn K (.ref XC0) "place" = some none)
    (xno0_word : PySem.W.findIn K (.ref XC0) "word" = some none)
    (xga0 : PySem.W.findIn K (.ref XC0) "__getattribute__" = some (some (.builtin "BaseException.__getattribute__"))) (xgg0 : PySem.W.findIn K (.ref XC0) "__getattr__" = some none) (xhd0 : PySem.W.hasDictIn K XC0 = true) (xcl0 : PySem.W.isClsIn K XC0 = true) (xha0 : PySem.W.findIn K (.ref XC0) "__class__" = some (some (.builtin "object.__class__"))) (xhn0 : PySem.W.specialIn K (.builtin "object.__class__") "__get__" = some (some (.builtin "getset_descriptor.__get__"))) (xht0 : PySem.W.takesIn K (.builtin "object.__class__") = some true) (xhm0 : PySem.W.mroIn K XC0 (.type "object") = some true) (xkit0 : PySem.W.kitOne K (.ref XC0) (.ref XC0) = some true)
    {XS_StayError : Addr} (xam_StayError : PySem.W.nsIn K mainGlobals "StayError" = some (some (.ref XS_StayError))) (xeb_StayError : PySem.W.subIn K (.ref XS_StayError) (.type "BaseException") = some true) (xec_StayError : PySem.W.isClsIn K XS_StayError = true) (xet_StayError : PySem.W.typeIn K (.ref XS_StayError) = some (.type "type"))
    (xes0_StayError : PySem.W.subIn K (.ref XC0) (.ref XS_StayError) = some true)
    (z_all : PySem.W.nsIn K mainGlobals "all" = some none)
    (z_tuple : PySem.W.nsIn K mainGlobals "tuple" = some none)
    (z_sorted : PySem.W.nsIn K mainGlobals "sorted" = some none)
    (z_len : PySem.W.nsIn K mainGlobals "len" = some none)
    (z_max : PySem.W.nsIn K mainGlobals "max" = some none)
    (z_range : PySem.W.nsIn K mainGlobals "range" = some none)
    (z_int : PySem.W.nsIn K mainGlobals "int" = some none)
    (z_abs : PySem.W.nsIn K mainGlobals "abs" = some none)
    (z_isinstance : PySem.W.nsIn K mainGlobals "isinstance" = some none)
    (z_bool : PySem.W.nsIn K mainGlobals "bool" = some none)
    (z_str : PySem.W.nsIn K mainGlobals "str" = some none)
    (z_list : PySem.W.nsIn K mainGlobals "list" = some none)
    {k_FORMS : Addr} {o_FORMS : Obj} {its_FORMS : Array Value} {n_FORMS : Nat} (c_FORMS : PySem.W.nsIn K mainGlobals "FORMS" = some (some (.ref k_FORMS))) (d_FORMS : K.lookup k_FORMS = some o_FORMS) (e_FORMS : WrTup o_FORMS its_FORMS n_FORMS [.str ("fn" : Str), .str ("let" : Str), .str ("if" : Str), .str ("quote" : Str), .str ("rules" : Str)])
    (hL : ∀ (cl : Nat → Addr) (ns : List Int), ns.length ≤ 63 → ∃ m', fns cl 230 11 [.scr ns] [] = .ok (.bl true) m')
    : ∃ (fd : FuncData) (F0 : List D → Me → Res D), (∀ ns : List Int, ns.length ≤ 63 → ∃ m', F0 [.scr ns] [] = .ok (.bl true) m') ∧ (∀ (s : Shared) (v : Value), BindsTo s fd ⟨[v], []⟩ [("script", v)]) ∧ ∀ base : Heap, K.In base → base.Ns mainGlobals mg → FnOk l.prog w K mg base CX0 230 fa fd ["script"] (spF K 1 F0) := by
  have e := hfa.symm.trans (PySem.W.mg_of X G A11)
  cases e
  have F0 := fun_mk (st := s0) l0 c0 k0
  have F1 := fun_mk (st := s1) l1 c1 k1
  have F2 := fun_mk (st := s2) l2 c2 k2
  have F3 := fun_mk (st := s3) l3 c3 k3
  have F4 := fun_mk (st := s4) l4 c4 k4
  have F5 := fun_mk (st := s5) l5 c5 k5
  have F6 := fun_mk (st := s6) l6 c6 k6
  have F7 := fun_mk (st := s7) l7 c7 k7
  have F8 := fun_mk (st := s8) l8 c8 k8
  have F9 := fun_mk (st := s9) l9 c9 k9
  have F10 := fun_mk (st := s10) l10 c10 k10
  have F11 := fun_mk (st := s11) l11 c11 k11
  have xF0 := fun_mk (st := sx0) xl0 xc0 xk0
  let T : Facts K mg := {
    a0 := f0, fd0 := _, F0 := F0, m0 := PySem.W.mg_of X G A0, b0 := F0.binds fun _ _ _ _ _ _ us hl => match us, hl with | [_, _], _ => rfl
    a1 := f1, fd1 := _, F1 := F1, b1 := F1.binds fun _ _ _ _ _ _ us hl => match us, hl with | [_, _], _ => rfl
    a2 := f2, fd2 := _, F2 := F2, b2 := F2.binds fun _ _ _ _ _ _ us hl => match us, hl with | [_], _ => rfl
    a3 := f3, fd3 := _, F3 := F3, b3 := F3.binds fun _ _ _ _ _ _ us hl => match us, hl with | [_, _, _, _], _ => rfl
    a4 := f4, fd4 := _, F4 := F4, b4 := F4.binds fun _ _ _ _ _ _ us hl => match us, hl with | [_, _, _, _], _ => rfl
    a5 := f5, fd5 := _, F5 := F5, m5 := PySem.W.mg_of X G A5, b5 := F5.binds fun _ _ _ _ _ _ us hl => match us, hl with | [_, _], _ => rfl
    a6 := f6, fd6 := _, F6 := F6, m6 := PySem.W.mg_of X G A6, b6 := F6.binds fun _ _ _ _ _ _ us hl => match us, hl with | [_, _], _ => rfl
    a7 := f7, fd7 := _, F7 := F7, m7 := PySem.W.mg_of X G A7, b7 := F7.binds fun _ _ _ _ _ _ us hl => match us, hl with | [_, _], _ => rfl
    a8 := f8, fd8 := _, F8 := F8, m8 := PySem.W.mg_of X G A8, b8 := F8.binds fun _ _ _ _ _ _ us hl => match us, hl with | [_, _], _ => rfl
    a9 := f9, fd9 := _, F9 := F9, m9 := PySem.W.mg_of X G A9, b9 := F9.binds fun _ _ _ _ _ _ us hl => match us, hl with | [_, _, _, _], _ => rfl
    a10 := f10, fd10 := _, F10 := F10, m10 := PySem.W.mg_of X G A10, b10 := F10.binds fun _ _ _ _ _ _ us hl => match us, hl with | [_, _, _, _], _ => rfl
    a11 := fa, fd11 := _, F11 := F11, m11 := PySem.W.mg_of X G A11, b11 := F11.binds fun _ _ _ _ _ _ us hl => match us, hl with | [_], _ => rfl
    C0 := C0, cls0 := ⟨pg0, hd0, po0, sa0⟩, mgC0 := PySem.W.mg_of X G aC0, mk0 := ⟨mk0, A1, i1, kc0⟩
    nA0_uses := nA0_uses
    nA0_rule_rows := nA0_rule_rows
    nA0_places := nA0_places
    nA0_marks := nA0_marks
    nA0_ties := nA0_ties
    nA0_most := nA0_most
    me2 := ⟨A2, i2, k2⟩
    me3 := ⟨A3, i3, k3⟩
    me4 := ⟨A4, i4, k4⟩
    XC0 := XC0, xmC0 := PySem.W.mg_of X G xaC0, xo0 := ⟨⟨nm0, qq0, N0, bs0, _, sn0, sub0, ab0, col0, dd0, m00, m10, m20, m30, m50, xL0, refsVE_1 _⟩, xsa0, xex0, xty0, xkp0⟩, xa0 := xa0, xiC0 := xiC0, xtI0 := xtI0, xfd0 := _, xF0 := xF0, xb0 := xF0.binds fun _ _ _ _ _ _ us hl => match us, hl with | [_, _, _], _ => rfl
    xS0 := xS0, xmS0 := PySem.W.mg_of X G xaS0, xgt0 := xgt0, xrd0 := xrd0, xv0 := xv0
    xno0_place := xno0_place
    xno0_word := xno0_word
    xf0 := ⟨xga0, xgg0, xex0, xhd0⟩, xi0 := ⟨xcl0, xga0, xgg0, xex0, xha0, xhn0, xht0, xhm0, xkit0⟩
    XS_StayError := XS_StayError, xm_StayError := PySem.W.mg_of X G xam_StayError
    xe0_StayError := exm_of xeb_StayError xec_StayError xet_StayError xes0_StayError
    z_all := PySem.W.mg_none_of X G z_all
    z_tuple := PySem.W.mg_none_of X G z_tuple
    z_sorted := PySem.W.mg_none_of X G z_sorted
    z_len := PySem.W.mg_none_of X G z_len
    z_max := PySem.W.mg_none_of X G z_max
    z_range := PySem.W.mg_none_of X G z_range
    z_int := PySem.W.mg_none_of X G z_int
    z_abs := PySem.W.mg_none_of X G z_abs
    z_isinstance := PySem.W.mg_none_of X G z_isinstance
    z_bool := PySem.W.mg_none_of X G z_bool
    z_str := PySem.W.mg_none_of X G z_str
    z_list := PySem.W.mg_none_of X G z_list
    c_FORMS := e_FORMS.mk' (PySem.W.mg_of X G c_FORMS) d_FORMS
  }
  exact ⟨T.fd11, fns T.cl 230 11, hL T.cl, fun s v => .of_eq rfl, fun base _ _ => (okAll (P := l.prog) (w := w) (base := base) T 230).g11⟩
end G

set_option maxRecDepth 100000
namespace FL
open PySem PySem.Spec PyProof.Rows L2

/-! ### the combinators, one step each -/
@[simp] theorem mVar_e (i : Nat) (ρ : En) (m : Me) : mVar i ρ m = match ρ[i]? with
  | some (some d) => .ok d m
  | _ => .no := rfl
@[simp] theorem mC_e (d : D) (ρ : En) (m : Me) : mC d ρ m = .ok d m := rfl
@[simp] theorem mNil_e (ρ : En) (m : Me) : mNil ρ m = .ok [] m := rfl
@[simp] theorem mCons_e (f : ME) (g : MA) (ρ : En) (m : Me) : mCons f g ρ m = (f ρ m).bind fun d m => (g ρ m).bind fun ds m => .ok (d :: ds) m := rfl
@[simp] theorem mTup_e (f : MA) (ρ : En) (m : Me) : mTup f ρ m = (f ρ m).bind fun ds m => .ok (.tup ds) m := rfl
@[simp] theorem mLst_e (f : MA) (ρ : En) (m : Me) : mLst f ρ m = (f ρ m).bind fun ds m => .ok (.lst ds) m := rfl
@[simp] theorem mNew_e (f : MA) (ρ : En) (m : Me) : mNew f ρ m = (f ρ m).bind fun ds m => .ok (.ref m.length) (m ++ [.lst ds]) := rfl
@[simp] theorem mNewK_e (ρ : En) (m : Me) : mNewK ρ m = .ok (.ref m.length) (m ++ [.dK []]) := rfl
@[simp] theorem m1_e (g : D → Me → Res D) (fa : ME) (ρ : En) (m : Me) : m1 g fa ρ m = (fa ρ m).bind g := rfl
@[simp] theorem m2_e (g : D → D → Me → Res D) (fa fb : ME) (ρ : En) (m : Me) : m2 g fa fb ρ m = (fa ρ m).bind fun d m => (fb ρ m).bind fun d' m => g d d' m := rfl
@[simp] theorem mB_e (f : ME) (ρ : En) (m : Me) : mB f ρ m = (f ρ m).bind asB := rfl
@[simp] theorem asB_e (b : Bool) (m : Me) : asB (.bl b) m = .ok b m := rfl
@[simp] theorem mAnd_e (f g : MT) (ρ : En) (m : Me) : mAnd f g ρ m = (f ρ m).bind fun b m => if b = true then g ρ m else .ok false m := rfl
@[simp] theorem mOr_e (f g : MT) (ρ : En) (m : Me) : mOr f g ρ m = (f ρ m).bind fun b m => if b = true then .ok true m else g ρ m := rfl
@[simp] theorem mNot_e (f : MT) (ρ : En) (m : Me) : mNot f ρ m = (f ρ m).bind fun b m => .ok (!b) m := rfl
@[simp] theorem mAndV_e (f g : ME) (ρ : En) (m : Me) : mAndV f g ρ m = (f ρ m).bind fun d m => match d with
  | .bl true => g ρ m
  | .bl false => .ok (.bl false) m
  | _ => .no := rfl
@[simp] theorem mOrV_e (f g : ME) (ρ : En) (m : Me) : mOrV f g ρ m = (f ρ m).bind fun d m => match d with
  | .bl true => .ok (.bl true) m
  | .bl false => g ρ m
  | _ => .no := rfl
@[simp] theorem mNotV_e (f : ME) (ρ : En) (m : Me) : mNotV f ρ m = (f ρ m).bind fun d m => match d with
  | .bl b => .ok (.bl (!b)) m
  | _ => .no := rfl
@[simp] theorem mIf_e (c : MT) (f g : ME) (ρ : En) (m : Me) : mIf c f g ρ m = (c ρ m).bind fun b m => if b = true then f ρ m else g ρ m := rfl
@[simp] theorem mArgs_e (g : List D → Me → Res D) (fa : MA) (ρ : En) (m : Me) : mArgs g fa ρ m = (fa ρ m).bind g := rfl
@[simp] theorem mCall_e (F : List D → Me → Res D) (fa : MA) (ρ : En) (m : Me) : mCall F fa ρ m = (fa ρ m).bind fun ds m => noX (F ds m) := rfl
@[simp] theorem mOpt_e (f : ME) (ρ : En) (m : Me) : mOpt f ρ m = (f ρ m).bind fun d m => match d with
  | .int i => .ok (some i) m
  | _ => .no := rfl
@[simp] theorem mNo_e (ρ : En) (m : Me) : mNo ρ m = .ok none m := rfl
@[simp] theorem mSl_e (fa : ME) (fl fh : En → Me → Res (Option Int)) (ρ : En) (m : Me) : mSl fa fl fh ρ m = (fa ρ m).bind fun d m => (fl ρ m).bind fun lo m => (fh ρ m).bind fun hi m => gSl d lo hi m := rfl
@[simp] theorem m3_e (g : D → D → D → Me → Res D) (fa fb fc : ME) (ρ : En) (m : Me) : m3 g fa fb fc ρ m = (fa ρ m).bind fun d m => match view m d with
  | .dct _ => (fb ρ m).bind fun d' m => (fc ρ m).bind fun d'' m => g d d' d'' m
  | _ => .no := rfl
@[simp] theorem sSeq_e (f g : MS) (ρ : En) (m : Me) : sSeq f g ρ m = match f ρ m with
  | .nx ρ m => g ρ m
  | r => r := rfl
@[simp] theorem sNext_e (ρ : En) (m : Me) : sNext ρ m = .nx ρ m := rfl
@[simp] theorem sSet_e (i : Nat) (f : ME) (ρ : En) (m : Me) : sSet i f ρ m = bindS (f ρ m) ρ fun d m => .nx (ρ.set i (some d)) m := rfl
@[simp] theorem sRet_e (f : ME) (ρ : En) (m : Me) : sRet f ρ m = bindS (f ρ m) ρ fun d m => .rt d m := rfl
@[simp] theorem sRetN_e (ρ : En) (m : Me) : sRetN ρ m = .rt .non m := rfl
@[simp] theorem sDo_e (f : ME) (ρ : En) (m : Me) : sDo f ρ m = bindS (f ρ m) ρ fun _ m => .nx ρ m := rfl
@[simp] theorem sIf_e (c : MT) (f g : MS) (ρ : En) (m : Me) : sIf c f g ρ m = bindS (c ρ m) ρ fun b m => if b = true then f ρ m else g ρ m := rfl
@[simp] theorem sBk_e (ρ : En) (m : Me) : sBk ρ m = .bk ρ m := rfl
@[simp] theorem sCt_e (ρ : En) (m : Me) : sCt ρ m = .ct ρ m := rfl
@[simp] theorem sFor_e (it : MI) (gt : D → En → Option En) (body : MS) (ρ : En) (m : Me) : sFor it gt body ρ m = bindS (it ρ m) ρ fun p m => forF gt body p.2 p.1 ρ m := rfl
@[simp] theorem sAsg_e (gt : D → En → Option En) (f : ME) (ρ : En) (m : Me) : sAsg gt f ρ m = bindS (f ρ m) ρ fun d m => match gt d ρ with
  | some ρ' => .nx ρ' m
  | none => .no := rfl
@[simp] theorem sDput_e (fo fi fv : ME) (ρ : En) (m : Me) : sDput fo fi fv ρ m = bindS (fv ρ m) ρ fun y m => bindS (fo ρ m) ρ fun d m => bindS (fi ρ m) ρ fun k m => match dput m d k y with
  | some m' => .nx ρ m'
  | none => .no := rfl
@[simp] theorem sDaug_e (fo fi fe : ME) (ρ : En) (m : Me) : sDaug fo fi fe ρ m = bindS (fo ρ m) ρ fun d m => bindS (fi ρ m) ρ fun k m => match look m d k with
  | some (some (.int i)) => bindS (fe ρ m) ρ fun y m => match y with
    | .int j => match dput m d k (.int (i + j)) with
      | some m' => .nx ρ m'
      | none => .no
    | _ => .no
  | _ => .no := rfl
@[simp] theorem sAug_e (i : Nat) (f : D → D → Me → Res D) (fe : ME) (ρ : En) (m : Me) : sAug i f fe ρ m = match ρ[i]? with
  | some (some d) => bindS (fe ρ m) ρ fun y m => bindS (f d y m) ρ fun z m => .nx (ρ.set i (some z)) m
  | _ => .no := rfl
@[simp] theorem sSetIx_e (fo fi fv : ME) (ρ : En) (m : Me) : sSetIx fo fi fv ρ m = bindS (fv ρ m) ρ fun y m => bindS (fo ρ m) ρ fun d m => bindS (fi ρ m) ρ fun k m => match d, k with
  | .ref i, .int k => match m[i]? with
    | some (.lst xs) => match ixN xs.length k with
      | some j => .nx ρ (m.set i (.lst (xs.set j y)))
      | none => .no
    | _ => .no
  | _, _ => .no := rfl
@[simp] theorem mAppend_e (fo fe : ME) (ρ : En) (m : Me) : mAppend fo fe ρ m = (fo ρ m).bind fun d m => match d with
  | .ref i => match m[i]? with
    | some (.lst _) => (fe ρ m).bind fun y m => match m[i]? with
      | some (.lst xs) => if xs.length < 1000000 then .ok .non (m.set i (.lst (xs ++ [y]))) else .no
      | _ => .no
    | _ => .no
  | _ => .no := rfl
@[simp] theorem mExtend_e (fo fe : ME) (ρ : En) (m : Me) : mExtend fo fe ρ m = (fo ρ m).bind fun d m => match d with
  | .ref i => match m[i]? with
    | some (.lst _) => (fe ρ m).bind fun y m => match m[i]?, lstV m y with
      | some (.lst xs), some ys => if xs.length + ys.length < 1000000 then .ok .non (m.set i (.lst (xs ++ ys))) else .no
      | _, _ => .no
    | _ => .no
  | _ => .no := rfl
@[simp] theorem iSeq_e (f : ME) (ρ : En) (m : Me) : iSeq f ρ m = (f ρ m).bind asIt := rfl
@[simp] theorem asIt_tup (ds : List D) (m : Me) : asIt (.tup ds) m = .ok (ds, gdY) m := rfl
@[simp] theorem asIt_lst (ds : List D) (m : Me) : asIt (.lst ds) m = .ok (ds, gdY) m := rfl
@[simp] theorem iRange1_e (f : MA) (ρ : En) (m : Me) : iRange1 f ρ m = (f ρ m).bind fun ds m => match ds with
  | [.int j] => if j ≤ 1000000 ∧ -1000000 ≤ j then .ok (rngL 0 j.toNat, gdY) m else .no
  | _ => .no := rfl
@[simp] theorem iRange2_e (f : MA) (ρ : En) (m : Me) : iRange2 f ρ m = (f ρ m).bind fun ds m => match ds with
  | [.int i, .int j] => if (j ≤ 1000000 ∧ -1000000 ≤ j) ∧ i ≤ 1000000 ∧ -1000000 ≤ i then .ok (rngL i (j - i).toNat, gdY) m else .no
  | _ => .no := rfl
@[simp] theorem mComp_e (it : MI) (vs : List Nat) (gt : D → En → Option En) (c : MT) (e : ME) (ρ : En) (m : Me) : mComp it vs gt c e ρ m = (it ρ m).bind fun p m => (noX (compF gt c e p.2 (wipeD ρ vs) p.1 m)).bind fun ys m => .ok (.lst ys) m := rfl
@[simp] theorem mDisp_e (f : En → Me → Res (List (Key × D))) (ρ : En) (m : Me) : mDisp f ρ m = (f ρ m).bind fun kvs m => if kvs.length ≤ 15 then .ok (.ref m.length) (m ++ [.dK (kvs.foldl (fun acc kv => setK acc kv.1 kv.2) [])]) else .no := rfl
@[simp] theorem pNil_e (ρ : En) (m : Me) : pNil ρ m = .ok [] m := rfl
@[simp] theorem pCons_e (fk fv : ME) (fr : En → Me → Res (List (Key × D))) (ρ : En) (m : Me) : pCons fk fv fr ρ m = (fk ρ m).bind fun k m => match keyD k with
  | none => .no
  | some k => (fv ρ m).bind fun v m => (fr ρ m).bind fun r m => .ok ((k, v) :: r) m := rfl
@[simp] theorem gdY_e (m : Me) : gdY m = true := rfl
@[simp] theorem cYes_e (ρ : En) (m : Me) : cYes ρ m = .ok true m := rfl
@[simp] theorem tgN_e (i : Nat) (d : D) (ρ : En) : tgN i d ρ = some (ρ.set i (some d)) := rfl
@[simp] theorem tgNil_e (ρ : En) : tgNil [] ρ = some ρ := rfl
@[simp] theorem tgCons_e (g : D → En → Option En) (gs : List D → En → Option En) (d : D) (r : List D) (ρ : En) : tgCons g gs (d :: r) ρ = (g d ρ).bind (gs r) := rfl
@[simp] theorem tgTup_e (n : Nat) (gs : List D → En → Option En) (ds : List D) (ρ : En) : tgTup n gs (.tup ds) ρ = if ds.length = n then gs ds ρ else none := rfl
@[simp] theorem wipeD_nil (ρ : En) : wipeD ρ [] = ρ := rfl
@[simp] theorem wipeD_cons (ρ : En) (v : Nat) (vs : List Nat) : wipeD ρ (v :: vs) = (wipeD ρ vs).set v none := rfl
@[simp] theorem view_non (m : Me) : view m .non = .non := rfl
@[simp] theorem view_bl (m : Me) (b : Bool) : view m (.bl b) = .bl b := rfl
@[simp] theorem view_int' (m : Me) (i : Int) : view m (.int i) = .int i := rfl
@[simp] theorem view_str' (m : Me) (i : Str) : view m (.str i) = .str i := rfl
@[simp] theorem view_tup' (m : Me) (i : List D) : view m (.tup i) = .tup i := rfl
@[simp] theorem view_lst' (m : Me) (i : List D) : view m (.lst i) = .lst i := rfl
@[simp] theorem view_dct' (m : Me) (i : List (Key × D)) : view m (.dct i) = .dct i := rfl
@[simp] theorem view_scr' (m : Me) (i : List Int) : view m (.scr i) = .scr i := rfl
theorem view_ref_lst {m : Me} {i : Nat} {xs : List D} (h : m[i]? = some (.lst xs)) : view m (.ref i) = .lst xs := by simp [view, h]
theorem view_ref_dK {m : Me} {i : Nat} {xs : List (Key × D)} (h : m[i]? = some (.dK xs)) : view m (.ref i) = .dct xs := by simp [view, h]
/-! numbers -/
@[simp] theorem gAdd_int (i j : Int) (m : Me) : gAdd (.int i) (.int j) m = .ok (.int (i + j)) m := rfl
@[simp] theorem gSub_int (i j : Int) (m : Me) : gSub (.int i) (.int j) m = .ok (.int (i - j)) m := by simp [gSub, gII]
theorem gMul_int {i j : Int} {m : Me} (h : (-(2 ^ 64) < i ∧ i < 2 ^ 64) ∨ (-(2 ^ 64) < j ∧ j < 2 ^ 64)) : gMul (.int i) (.int j) m = .ok (.int (i * j)) m := by simp only [gMul, gII]; rw [if_pos h]
theorem gMod_int {i j : Int} {m : Me} (h : 0 < j) : gMod (.int i) (.int j) m = .ok (.int (i % j)) m := by simp only [gMod, gII]; rw [if_pos h]
theorem gDiv_int {i j : Int} {m : Me} (h : 0 < j ∧ j.natAbs < 2 ^ 200) : gDiv (.int i) (.int j) m = .ok (.int (i / j)) m := by simp only [gDiv, gII]; rw [if_pos h]
@[simp] theorem gLt_int (i j : Int) (m : Me) : gLt (.int i) (.int j) m = .ok (.bl (decide (i < j))) m := by simp [gLt, gII]
@[simp] theorem gLe_int (i j : Int) (m : Me) : gLe (.int i) (.int j) m = .ok (.bl (decide (i ≤ j))) m := by simp [gLe, gII]
@[simp] theorem gGt_int (i j : Int) (m : Me) : gGt (.int i) (.int j) m = .ok (.bl (decide (j < i))) m := by simp [gGt, gII]
@[simp] theorem gGe_int (i j : Int) (m : Me) : gGe (.int i) (.int j) m = .ok (.bl (decide (j ≤ i))) m := by simp [gGe, gII]
@[simp] theorem gNeg_int (i : Int) (m : Me) : gNeg (.int i) m = .ok (.int (-i)) m := rfl
@[simp] theorem gIAdd_int (i j : Int) (m : Me) : gIAdd (.int i) (.int j) m = .ok (.int (i + j)) m := rfl
@[simp] theorem gInt_int (i : Int) (m : Me) : gInt [.int i] m = .ok (.int i) m := rfl
@[simp] theorem gAbs_int (i : Int) (m : Me) : gAbs [.int i] m = .ok (.int (if i < 0 then -i else i)) m := rfl
@[simp] theorem gMax2_int (i j : Int) (m : Me) : gMax2 [.int i, .int j] m = .ok (.int (if j > i then j else i)) m := rfl
@[simp] theorem gIsN_e (d : D) (m : Me) : gIsN d .non m = .ok (.bl (isN d)) m := rfl
@[simp] theorem gNotN_e (d : D) (m : Me) : gNotN d .non m = .ok (.bl (!isN d)) m := rfl
@[simp] theorem gLen_tup (xs : List D) (m : Me) : gLen [.tup xs] m = .ok (.int xs.length) m := rfl
@[simp] theorem gLen_lst (xs : List D) (m : Me) : gLen [.lst xs] m = .ok (.int xs.length) m := rfl
@[simp] theorem gLen_scr (xs : List Int) (m : Me) : gLen [.scr xs] m = .ok (.int xs.length) m := rfl
@[simp] theorem gTuple_tup (xs : List D) (m : Me) : gTuple [.tup xs] m = .ok (.tup xs) m := rfl
@[simp] theorem gTuple_lst (xs : List D) (m : Me) : gTuple [.lst xs] m = .ok (.tup xs) m := rfl
/-- equality of texts -/
theorem gEq_str (a b : Str) (m : Me) (ha : PyData.strOk a = true) (hb : PyData.strOk b = true) : gEq (.str a) (.str b) m = .ok (.bl (a == b)) m := by
  have sh : ∀ {x : Str}, PyData.strOk x = true → SeqAt.shaped (.str x) = true := fun h => by
    unfold SeqAt.shaped; simp only [PyData.canLay0, h, PyData.depth]; rfl
  simp only [gEq, view_str', py, eqRes]
  rw [if_pos ⟨sh ha, sh hb⟩]
  simp [PyData.eqv]
theorem gNe_str (a b : Str) (m : Me) (ha : PyData.strOk a = true) (hb : PyData.strOk b = true) : gNe (.str a) (.str b) m = .ok (.bl (!(a == b))) m := by
  have sh : ∀ {x : Str}, PyData.strOk x = true → SeqAt.shaped (.str x) = true := fun h => by
    unfold SeqAt.shaped; simp only [PyData.canLay0, h, PyData.depth]; rfl
  simp only [gNe, view_str', py, eqRes]
  rw [if_pos ⟨sh ha, sh hb⟩]
  simp [PyData.eqv]
@[simp] theorem gEq_int (a b : Int) (m : Me) : gEq (.int a) (.int b) m = .ok (.bl (a == b)) m := by
  have sh : ∀ {x : Int}, SeqAt.shaped (.int x) = true := by intro x; unfold SeqAt.shaped; simp [PyData.canLay0, PyData.depth]
  simp only [gEq, view_int', py, eqRes]
  rw [if_pos ⟨sh, sh⟩]
  simp [PyData.eqv]
@[simp] theorem gNe_int (a b : Int) (m : Me) : gNe (.int a) (.int b) m = .ok (.bl (!(a == b))) m := by
  have sh : ∀ {x : Int}, SeqAt.shaped (.int x) = true := by intro x; unfold SeqAt.shaped; simp [PyData.canLay0, PyData.depth]
  simp only [gNe, view_int', py, eqRes]
  rw [if_pos ⟨sh, sh⟩]
  simp [PyData.eqv]

/-! ### loops -/
theorem forF_rule {gt : D → En → Option En} {body : MS} {gd : Me → Bool} {P : Fl → Prop} (Inv : List D → En → Me → Prop)
    (step : ∀ d r ρ m, Inv (d :: r) ρ m → gd m = true ∧ ∃ ρ1, gt d ρ = some ρ1 ∧ match body ρ1 m with
      | .nx ρ2 m2 => Inv r ρ2 m2
      | .ct ρ2 m2 => Inv r ρ2 m2
      | .bk ρ2 m2 => P (.nx ρ2 m2)
      | .rt d m => P (.rt d m)
      | .exc x ρ m => P (.exc x ρ m)
      | .no => False)
    (done : ∀ ρ m, Inv [] ρ m → gd m = true ∧ P (.nx ρ m)) : ∀ (ds : List D) (ρ : En) (m : Me), Inv ds ρ m → P (forF gt body gd ds ρ m) := by
  intro ds
  induction ds with
  | nil =>
    intro ρ m h
    obtain ⟨h1, h2⟩ := done ρ m h
    unfold forF; rw [if_pos h1]; exact h2
  | cons d r ih =>
    intro ρ m h
    obtain ⟨h1, ρ1, h2, h3⟩ := step d r ρ m h
    unfold forF; rw [if_pos h1]; simp only [h2]
    cases e : body ρ1 m with
    | no => rw [e] at h3; exact h3.elim
    | exc x ρ m => rw [e] at h3; exact h3
    | nx ρ2 m2 => rw [e] at h3; exact ih ρ2 m2 h3
    | ct ρ2 m2 => rw [e] at h3; exact ih ρ2 m2 h3
    | bk ρ2 m2 => rw [e] at h3; exact h3
    | rt d m => rw [e] at h3; exact h3
/-- a comprehension whose parts leave the store as it is -/
theorem compF_pure {gt : D → En → Option En} {c : MT} {e : ME} {ρ : En} {m : Me} (p : D → Bool) (f : D → D) : ∀ (ds : List D), (∀ d ∈ ds, ∃ ρ1, gt d ρ = some ρ1 ∧ c ρ1 m = .ok (p d) m ∧ (p d = true → e ρ1 m = .ok (f d) m)) →
    compF gt c e gdY ρ ds m = .ok ((ds.filter p).map f) m := by
  intro ds
  induction ds with
  | nil => intro _; rfl
  | cons d r ih =>
    intro h
    obtain ⟨ρ1, h1, h2, h3⟩ := h d List.mem_cons_self
    have ih' := ih fun x hx => h x (List.mem_cons_of_mem _ hx)
    unfold compF
    simp only [gdY_e, if_true, h1, h2, noX_ok, Res.bind_ok]
    cases hp : p d with
    | false => simp [hp, ih']
    | true => simp [hp, ih', h3 hp]
/-- the store with one more thing -/
@[simp] theorem get_last (m : Me) (c : Cell) : (m ++ [c])[m.length]? = some c := by simp
@[simp] theorem set_last (m : Me) (c c' : Cell) : (m ++ [c]).set m.length c' = m ++ [c'] := by simp
theorem get_old {m : Me} {c x : Cell} {i : Nat} (h : m[i]? = some x) : (m ++ [c])[i]? = some x := by
  rw [List.getElem?_append_left (List.getElem?_eq_some_iff.mp h).1]; exact h
/-- what a def hands back where no thing of its own is left -/
theorem leave_same {m m' : Me} {d : D} (h : m'.length = m.length) : leave m d m' = .ok d m' := by unfold leave; rw [if_pos h]
/-- .. where one of its own is left, the rest as it was -/
theorem leave_one {m : Me} {c : Cell} {d d' : D} (h : thaw m.length (m ++ [c]) d = some d') : leave m d (m ++ [c]) = .ok d' m := by
  unfold leave
  rw [if_neg (by simp), h]
  have e : (m ++ [c]).take m.length = m := by simp
  simp only
  rw [if_pos (.inl e), e]

/-! ### the draws -/
def WS (draws : List Int) (k : Int) : Cell := .dK [(.inr "draws", .lst (draws.map .int)), (.inr "at", .int k)]
noncomputable def bNext (f : Nat → List D → Me → Res D) : MS :=
  (sSeq (sDaug (mVar 0) (mC (.str ("at" : Str))) (mC (.int 1))) (sSeq (sIf (mB (m2 gGt (m2 gDget (mVar 0) (mC (.str ("at" : Str)))) (mArgs gLen (mCons (m2 gDget (mVar 0) (mC (.str ("draws" : Str)))) mNil)))) (sSeq (sRet (mC (.int 0))) sNext) sNext) (sSeq (sRet (m2 gMod (mArgs gInt (mCons (m2 gIx (m2 gDget (mVar 0) (mC (.str ("draws" : Str)))) (m2 gSub (m2 gDget (mVar 0) (mC (.str ("at" : Str)))) (mC (.int 1)))) mNil)) (mVar 1))) sNext)))
theorem look_at {m : Me} {i : Nat} {ds : List Int} {k : Int} (h : m[i]? = some (WS ds k)) : look m (.ref i) (.str "at") = some (some (.int k)) := by
  unfold look; rw [view_ref_dK h]; rfl
theorem look_draws {m : Me} {i : Nat} {ds : List Int} {k : Int} (h : m[i]? = some (WS ds k)) : look m (.ref i) (.str "draws") = some (some (.lst (ds.map .int))) := by
  unfold look; rw [view_ref_dK h]; rfl
theorem next_ok (f : Nat → List D → Me → Res D) {m : Me} {i : Nat} {ds : List Int} {k n : Int} (h : m[i]? = some (WS ds k)) (hk : 0 ≤ k) (hn : 0 < n) :
    ∃ v : Int, 0 ≤ v ∧ v < n ∧ runDef 2 2 (bNext f) [.ref i, .int n] m = .ok (.int v) (m.set i (WS ds (k + 1))) := by
  have hi : i < m.length := (List.getElem?_eq_some_iff.mp h).1
  have hp : dput m (.ref i) (.str "at") (.int (k + 1)) = some (m.set i (WS ds (k + 1))) := by
    unfold dput; simp only [keyD, h]; rfl
  have h' : (m.set i (WS ds (k + 1)))[i]? = some (WS ds (k + 1)) := List.getElem?_set_self hi
  have hl : (m.set i (WS ds (k + 1))).length = m.length := List.length_set ..
  by_cases hc : (ds.length : Int) < k + 1
  · exact ⟨0, Int.le_refl _, hn, by simp [runDef, bNext, look_at h, hp, gDget, look_at h', look_draws h', hc, leave_same hl]⟩
  · have hlt : k.toNat < ds.length := by omega
    have e1 : atI (ds.map D.int) (k + 1 - 1) = some (.int (ds[k.toNat])) := by
      have : k + 1 - 1 = ((k.toNat : Nat) : Int) := by omega
      rw [this]
      exact atI_nat (by rw [List.getElem?_map, List.getElem?_eq_getElem hlt]; rfl)
    rw [show k + 1 - 1 = k by omega] at e1
    exact ⟨ds[k.toNat] % n, Int.emod_nonneg _ (by omega), Int.emod_lt_of_pos _ hn, by simp [runDef, bNext, look_at h, hp, gDget, look_at h', look_draws h', hc, leave_same hl, gIx, e1, gMod_int hn]⟩
def bPick (j : Nat) (f : Nat → List D → Me → Res D) : MS :=
  (sSeq (sRet (m2 gIx (mVar 1) (mCall (f j) (mCons (mVar 0) (mCons (mArgs gLen (mCons (mVar 1) mNil)) mNil))))) sNext)
theorem pick_ok {f : Nat → List D → Me → Res D} {j : Nat} {N : List D → Me → Res D} (hf : f j = N) (hN : ∀ {m : Me} {i : Nat} {ds : List Int} {k n : Int}, m[i]? = some (WS ds k) → 0 ≤ k → 0 < n → ∃ v : Int, 0 ≤ v ∧ v < n ∧ N [.ref i, .int n] m = .ok (.int v) (m.set i (WS ds (k + 1))))
    {m : Me} {i : Nat} {ds : List Int} {k : Int} (h : m[i]? = some (WS ds k)) (hk : 0 ≤ k) {xs : List D} (hx : xs ≠ []) :
    ∃ x ∈ xs, runDef 2 2 (bPick j f) [.ref i, .lst xs] m = .ok x (m.set i (WS ds (k + 1))) := by
  have hpos : 0 < xs.length := List.length_pos_iff.mpr hx
  obtain ⟨v, h0, h1, e⟩ := hN (n := (xs.length : Int)) h hk (by omega)
  have hl : (m.set i (WS ds (k + 1))).length = m.length := List.length_set ..
  have hv : v.toNat < xs.length := by omega
  have e1 : atI xs v = some xs[v.toNat] := by
    have q : atI xs ((v.toNat : Nat) : Int) = some xs[v.toNat] := atI_nat (List.getElem?_eq_getElem hv)
    rwa [show ((v.toNat : Nat) : Int) = v by omega] at q
  refine ⟨xs[v.toNat], List.getElem_mem hv, ?_⟩
  simp [runDef, bPick, hf, e, gIx, e1, leave_same hl]
end FL

set_option maxRecDepth 100000
namespace FL
open PySem PySem.Spec PyProof.Rows L2

/-- a loop that is never left -/
theorem forF_nx {gt : D → En → Option En} {body : MS} (Inv : List D → En → Me → Prop)
    (step : ∀ d r ρ m, Inv (d :: r) ρ m → ∃ ρ1 ρ2 m2, gt d ρ = some ρ1 ∧ (body ρ1 m = .nx ρ2 m2 ∨ body ρ1 m = .ct ρ2 m2) ∧ Inv r ρ2 m2) :
    ∀ (ds : List D) (ρ : En) (m : Me), Inv ds ρ m → ∃ ρ' m', forF gt body gdY ds ρ m = .nx ρ' m' ∧ Inv [] ρ' m' := by
  intro ds
  induction ds with
  | nil => intro ρ m h; exact ⟨ρ, m, rfl, h⟩
  | cons d r ih =>
    intro ρ m h
    obtain ⟨ρ1, ρ2, m2, h1, h2, h3⟩ := step d r ρ m h
    obtain ⟨ρ', m', h4, h5⟩ := ih ρ2 m2 h3
    refine ⟨ρ', m', ?_, h5⟩
    unfold forF
    simp only [gdY_e, if_true, h1]
    rcases h2 with h2 | h2 <;> (rw [h2]; exact h4)
/-- ints of a range -/
def Ints (ds : List D) : Prop := ∀ d ∈ ds, ∃ i : Int, d = .int i
theorem rng_mem {i : Int} {n : Nat} {d : D} (h : d ∈ rngL i n) : ∃ k : Nat, k < n ∧ d = .int (i + k) := by
  obtain ⟨k, hk, rfl⟩ := List.mem_map.mp h
  exact ⟨k, List.mem_range.mp hk, rfl⟩
theorem rng_length {i : Int} {n : Nat} : (rngL i n).length = n := by simp [rngL]

noncomputable def dIn : MS :=
  (sSeq (sIf (mB (m2 gGt (mVar 6) (mC (.int 0)))) (sSeq (sDo (mAppend (mVar 2) (m2 gMod (mArgs gInt (mCons (mVar 6) mNil)) (mC (.int 997))))) (sSeq (sSet 6 (m2 gDiv (mVar 6) (mC (.int 997)))) sNext)) sNext) sNext)
noncomputable def dB1 : MS :=
  (sSeq (sSet 5 (mArgs gAbs (mCons (mArgs gInt (mCons (m2 gIx (mVar 0) (mVar 4)) mNil)) mNil))) (sSeq (sSet 3 (m2 gMod (mArgs gInt (mCons (m2 gAdd (m2 gAdd (m2 gMul (mVar 3) (mC (.int 48271))) (m2 gMod (mVar 5) (mC (.int 1000003)))) (mVar 4)) mNil)) (mC (.int 65537)))) (sSeq (sSet 6 (mC (.int 0))) (sSeq (sIf (mB (m2 gGe (mVar 5) (m2 gPow (mC (.int 10)) (mC (.int 18))))) (sSeq (sSet 6 (mVar 5)) sNext) (sSeq (sDo (mAppend (mVar 2) (m2 gMod (mArgs gInt (mCons (mVar 5) mNil)) (mC (.int 997))))) (sSeq (sDo (mAppend (mVar 2) (m2 gMod (m2 gMod (mArgs gInt (mCons (m2 gAdd (m2 gMul (mVar 3) (mC (.int 69621))) (mC (.int 5))) mNil)) (mC (.int 65521))) (mC (.int 997))))) sNext))) (sSeq (sFor (iRange1 (mCons (mC (.int 60)) mNil)) (tgN 7) dIn) sNext)))))
noncomputable def dB2 : MS :=
  (sSeq (sSet 3 (m2 gMod (mArgs gInt (mCons (m2 gAdd (m2 gAdd (m2 gMul (mVar 3) (mC (.int 16807))) (mVar 4)) (mC (.int 1))) mNil)) (mC (.int 65537)))) (sSeq (sDo (mAppend (mVar 2) (m2 gMod (mArgs gInt (mCons (mVar 3) mNil)) (mC (.int 997))))) sNext))
noncomputable def bDraws (f : Nat → List D → Me → Res D) : MS :=
  (sSeq (sSet 2 (mNew mNil)) (sSeq (sSet 3 (mC (.int 7))) (sSeq (sFor (iRange1 (mCons (mArgs gLen (mCons (mVar 0) mNil)) mNil)) (tgN 4) dB1) (sSeq (sFor (iRange1 (mCons (mVar 1) mNil)) (tgN 4) dB2) (sSeq (sRet (mSl (mVar 2) mNo (mOpt (mVar 1)))) sNext)))))
theorem gPow_18 (m : Me) : gPow (.int 10) (.int 18) m = .ok (.int 1000000000000000000) m := by
  simp only [gPow, gII]
  rw [if_pos ⟨by decide, by decide, by decide⟩]
  have : (10 : Int) ^ (18 : Int).toNat = 1000000000000000000 := by decide
  rw [this]
/-- the names of _law_draws -/
def ρD (ns : List Int) (many : Int) (j : Nat) (mixed : Int) (x4 x5 x6 x7 : Option D) : En := [some (.scr ns), some (.int many), some (.ref j), some (.int mixed), x4, x5, x6, x7]
def DI (ns : List Int) (many mixed : Int) (m : Me) (x4 x5 : Option D) (B : Nat) (ds : List D) (ρ : En) (m' : Me) : Prop :=
  ∃ (r : Int) (x7 : Option D) (acc : List Int), Ints ds ∧ acc.length + ds.length ≤ B ∧ ρ = ρD ns many m.length mixed x4 x5 (some (.int r)) x7 ∧ m' = m ++ [.lst (acc.map .int)]
def D1 (ns : List Int) (many : Int) (m : Me) (ds : List D) (ρ : En) (m' : Me) : Prop :=
  ∃ (mixed : Int) (x4 x5 x6 x7 : Option D) (acc : List Int), (∀ d ∈ ds, ∃ k : Nat, k < ns.length ∧ d = .int k) ∧ acc.length + 62 * ds.length ≤ 62 * 63 ∧ 0 ≤ mixed ∧ mixed < 65537 ∧ ρ = ρD ns many m.length mixed x4 x5 x6 x7 ∧ m' = m ++ [.lst (acc.map .int)]
def D2 (ns : List Int) (many : Int) (m : Me) (x5 x6 x7 : Option D) (ds : List D) (ρ : En) (m' : Me) : Prop :=
  ∃ (mixed : Int) (x4 : Option D) (acc : List Int), Ints ds ∧ acc.length + ds.length ≤ 62 * 63 + 10000 ∧ 0 ≤ mixed ∧ mixed < 65537 ∧ ρ = ρD ns many m.length mixed x4 x5 x6 x7 ∧ m' = m ++ [.lst (acc.map .int)]
abbrev Step (gt : D → En → Option En) (body : MS) (Inv : List D → En → Me → Prop) : Prop :=
  ∀ d r ρ m, Inv (d :: r) ρ m → ∃ ρ1 ρ2 m2, gt d ρ = some ρ1 ∧ (body ρ1 m = .nx ρ2 m2 ∨ body ρ1 m = .ct ρ2 m2) ∧ Inv r ρ2 m2
theorem stepI {ns : List Int} {many mixed : Int} {m : Me} {x4 x5 : Option D} {B : Nat} (hB : B ≤ 100000) : Step (tgN 7) dIn (DI ns many mixed m x4 x5 B) := by
  rintro d rest ρ m' ⟨r, x7, acc, hi, hl, rfl, rfl⟩
  have hi' : Ints rest := fun x hx => hi x (List.mem_cons_of_mem _ hx)
  simp only [List.length_cons] at hl
  by_cases hr : 0 < r
  · refine ⟨_, _, _, rfl, .inl ?_, r / 997, some d, acc ++ [r % 997], hi', by simp; omega, rfl, rfl⟩
    simp [dIn, ρD, hr, gMod_int (show (0 : Int) < 997 by decide), gDiv_int (show (0 : Int) < 997 ∧ (997 : Int).natAbs < 2 ^ 200 by decide), show acc.length < 1000000 by omega]
  · refine ⟨_, _, _, rfl, .inl ?_, r, some d, acc, hi', by omega, rfl, rfl⟩
    simp [dIn, ρD, hr]
theorem step2 {ns : List Int} {many : Int} {m : Me} {x5 x6 x7 : Option D} : Step (tgN 4) dB2 (D2 ns many m x5 x6 x7) := by
  rintro d rest ρ m' ⟨mixed, x4, acc, hi, hl, ha, hb, rfl, rfl⟩
  obtain ⟨i, rfl⟩ := hi d List.mem_cons_self
  have hi' : Ints rest := fun x hx => hi x (List.mem_cons_of_mem _ hx)
  simp only [List.length_cons] at hl
  refine ⟨_, _, _, rfl, .inl ?_, (mixed * 16807 + i + 1) % 65537, some (.int i), acc ++ [(mixed * 16807 + i + 1) % 65537 % 997], hi', by simp; omega, by omega, by omega, rfl, rfl⟩
  simp [dB2, ρD, gMod_int (show (0 : Int) < 997 by decide), gMod_int (show (0 : Int) < 65537 by decide), gMul_int (i := mixed) (j := 16807) (.inl ⟨by omega, by omega⟩), show acc.length < 1000000 by omega]
theorem step1 {ns : List Int} {many : Int} {m : Me} : Step (tgN 4) dB1 (D1 ns many m) := by
  rintro d rest ρ m' ⟨mixed, x4, x5, x6, x7, acc, hi, hl, ha, hb, rfl, rfl⟩
  obtain ⟨k, hk, rfl⟩ := hi d List.mem_cons_self
  have hi' : ∀ d ∈ rest, ∃ k : Nat, k < ns.length ∧ d = .int k := fun x hx => hi x (List.mem_cons_of_mem _ hx)
  simp only [List.length_cons] at hl
  have hat : atI ns (k : Int) = some ns[k] := atI_nat (List.getElem?_eq_getElem hk)
  obtain ⟨c, hc⟩ : ∃ c : Int, c = if ns[k] < 0 then -ns[k] else ns[k] := ⟨_, rfl⟩
  obtain ⟨mx, hmx⟩ : ∃ x : Int, x = (mixed * 48271 + c % 1000003 + k) % 65537 := ⟨_, rfl⟩
  have g60 : (60 : Int) ≤ 1000000 ∧ (-1000000 : Int) ≤ 60 := by decide
  have g48 := gMul_int (i := mixed) (j := 48271) (m := m ++ [.lst (acc.map .int)]) (.inl ⟨by omega, by omega⟩)
  have g69 : ∀ m, gMul (.int mx) (.int 69621) m = .ok (.int (mx * 69621)) m := fun m => gMul_int (.inl ⟨by omega, by omega⟩)
  have mm : ∀ (a : Int) m, gMod (.int a) (.int 65537) m = .ok (.int (a % 65537)) m := fun a m => gMod_int (by decide)
  have mn : ∀ (a : Int) m, gMod (.int a) (.int 997) m = .ok (.int (a % 997)) m := fun a m => gMod_int (by decide)
  have mo : ∀ (a : Int) m, gMod (.int a) (.int 65521) m = .ok (.int (a % 65521)) m := fun a m => gMod_int (by decide)
  have mi : ∀ (a : Int) m, gMod (.int a) (.int 1000003) m = .ok (.int (a % 1000003)) m := fun a m => gMod_int (by decide)
  have ri : Ints (rngL 0 60) := fun d hd => by obtain ⟨k, hk, rfl⟩ := rng_mem hd; exact ⟨_, rfl⟩
  by_cases hbig : 1000000000000000000 ≤ c
  · obtain ⟨ρ', m2, f1, r, x7', acc', _, hz, f2, f3⟩ := forF_nx _ (stepI (ns := ns) (many := many) (mixed := mx) (m := m) (x4 := some (.int k)) (x5 := some (.int c)) (B := acc.length + 60) (by omega)) (rngL 0 60) (ρD ns many m.length mx (some (.int k)) (some (.int c)) (some (.int c)) x7) (m ++ [.lst (acc.map .int)])
      ⟨c, x7, acc, ri, by rw [rng_length]; omega, rfl, rfl⟩
    simp only [List.length_nil, Nat.add_zero] at hz
    refine ⟨_, ρ', m2, rfl, .inl ?_, mx, _, _, _, _, acc', hi', by omega, by omega, by omega, f2, f3⟩
    simp only [ρD] at f1
    simp [dB1, ρD, gIx, hat, g48, ← hc, mi, mm, ← hmx, gPow_18, hbig, g60, f1]
  · obtain ⟨ρ', m2, f1, r, x7', acc', _, hz, f2, f3⟩ := forF_nx _ (stepI (ns := ns) (many := many) (mixed := mx) (m := m) (x4 := some (.int k)) (x5 := some (.int c)) (B := acc.length + 62) (by omega)) (rngL 0 60) (ρD ns many m.length mx (some (.int k)) (some (.int c)) (some (.int 0)) x7) (m ++ [.lst ((acc ++ [c % 997, (mx * 69621 + 5) % 65521 % 997]).map .int)])
      ⟨0, x7, acc ++ [c % 997, (mx * 69621 + 5) % 65521 % 997], ri, by rw [rng_length]; simp, rfl, rfl⟩
    simp only [List.length_nil, Nat.add_zero] at hz
    refine ⟨_, ρ', m2, rfl, .inl ?_, mx, _, _, _, _, acc', hi', by omega, by omega, by omega, f2, f3⟩
    simp only [ρD, List.map_append, List.map_cons, List.map_nil] at f1
    simp [dB1, ρD, gIx, hat, g48, ← hc, mi, mm, mn, mo, ← hmx, gPow_18, hbig, g60, g69, f1, show acc.length < 1000000 by omega, show acc.length + 1 < 1000000 by omega]
theorem thaw_ints (n : Nat) (m : Me) : ∀ l : List Int, thawL n m (l.map D.int) = some (l.map D.int)
  | [] => rfl
  | a :: l => by simp [thawL, thaw, thaw_ints n m l]
theorem draws_ok (f : Nat → List D → Me → Res D) {ns : List Int} (hn : ns.length ≤ 63) {many : Int} (h0 : 0 ≤ many) (h1 : many ≤ 10000) (m : Me) :
    ∃ ds : List Int, runDef 8 2 (bDraws f) [.scr ns, .int many] m = .ok (.lst (ds.map .int)) m := by
  obtain ⟨ρ1, m1, e1, mixed1, x4, x5, x6, x7, acc1, _, hl1, ha1, hb1, rfl, rfl⟩ := forF_nx _ (step1 (ns := ns) (many := many) (m := m)) (rngL 0 ns.length) (ρD ns many m.length 7 none none none none) (m ++ [.lst []])
    ⟨7, none, none, none, none, [], fun d hd => by obtain ⟨k, hk, rfl⟩ := rng_mem hd; exact ⟨k, hk, by simp⟩, by rw [rng_length]; simp; omega, by decide, by decide, rfl, rfl⟩
  obtain ⟨ρ2, m2, e2, mixed2, y4, acc2, _, hl2, ha2, hb2, rfl, rfl⟩ := forF_nx _ (step2 (ns := ns) (many := many) (m := m) (x5 := x5) (x6 := x6) (x7 := x7)) (rngL 0 many.toNat) _ _
    ⟨mixed1, x4, acc1, fun d hd => by obtain ⟨k, hk, rfl⟩ := rng_mem hd; exact ⟨_, rfl⟩, by rw [rng_length]; simp at hl1; omega, ha1, hb1, rfl, rfl⟩
  refine ⟨cutD acc2 none (some many), ?_⟩
  have g1 : (ns.length : Int) ≤ 1000000 ∧ (-1000000 : Int) ≤ (ns.length : Int) := by omega
  have g2 : many ≤ 1000000 ∧ -1000000 ≤ many := by omega
  have hcut : cutD (acc2.map D.int) none (some many) = (cutD acc2 none (some many)).map D.int := by simp [cutD, List.map_take, List.map_drop]
  unfold runDef
  simp only [ρD] at e1 e2
  simp [bDraws, g1, g2, e1, e2, ρD, gSl, view_ref_lst (get_last _ _), hcut]
  refine leave_one ?_
  simp only [thaw, thaw_ints]; rfl
end FL

set_option maxRecDepth 100000
namespace FL
open PySem PySem.Spec PyProof.Rows L2

/-! ### what is wanted of a result; the wish is out of simp's reach (the result's type hangs on it) -/
abbrev Hid {α : Type} (_ : α) (β : Type) : Type := β
def RHas {α : Type} (Q : Res α → Prop) (r : Hid Q (Res α)) : Prop := match (r : Res α) with
  | .no => False
  | r => Q r
def FHas (Q : Fl → Prop) (r : Hid Q Fl) : Prop := match (r : Fl) with
  | .no => False
  | r => Q r
def kR {α β : Type} (f : α → Me → Res β) (Q : Res β → Prop) : Res α → Prop := fun
  | .ok a m => RHas Q (f a m)
  | .exc x m => Q (.exc x m)
  | .no => False
def kS {α : Type} (ρ : En) (f : α → Me → Fl) (Q : Fl → Prop) : Res α → Prop := fun
  | .ok a m => FHas Q (f a m)
  | .exc x m => Q (.exc x ρ m)
  | .no => False
def kF (g : MS) (Q : Fl → Prop) : Fl → Prop := fun
  | .nx ρ m => FHas Q (g ρ m)
  | .no => False
  | r => Q r
theorem RHas.mono {α : Type} {Q Q' : Res α → Prop} {r : Res α} (h : RHas Q r) (w : ∀ r, Q r → Q' r) : RHas Q' r := by
  cases r with
  | no => exact h
  | _ => exact w _ h
theorem FHas.mono {Q Q' : Fl → Prop} {r : Fl} (h : FHas Q r) (w : ∀ r, Q r → Q' r) : FHas Q' r := by
  cases r with
  | no => exact h
  | _ => exact w _ h
@[simp ↓, simp] theorem rhas_ok {α : Type} {Q : Res α → Prop} {a : α} {m : Me} : RHas Q (.ok a m) = Q (.ok a m) := rfl
@[simp ↓, simp] theorem rhas_bind {α β : Type} {Q : Res β → Prop} {r : Res α} {f : α → Me → Res β} : RHas Q (r.bind f) = RHas (kR f Q) r := by cases r <;> rfl
@[simp ↓, simp] theorem fhas_bindS {α : Type} {Q : Fl → Prop} {r : Res α} {ρ : En} {f : α → Me → Fl} : FHas Q (bindS r ρ f) = RHas (kS ρ f Q) r := by cases r <;> rfl
@[simp ↓, simp] theorem fhas_seq {Q : Fl → Prop} {f g : MS} {ρ : En} {m : Me} : FHas Q (sSeq f g ρ m) = FHas (kF g Q) (f ρ m) := by
  rw [sSeq_e]; cases f ρ m <;> rfl
@[simp ↓, simp] theorem fhas_nx {Q : Fl → Prop} {ρ : En} {m : Me} : FHas Q (.nx ρ m) = Q (.nx ρ m) := rfl
@[simp ↓, simp] theorem fhas_rt {Q : Fl → Prop} {d : D} {m : Me} : FHas Q (.rt d m) = Q (.rt d m) := rfl
@[simp ↓, simp] theorem fhas_bk {Q : Fl → Prop} {ρ : En} {m : Me} : FHas Q (.bk ρ m) = Q (.bk ρ m) := rfl
@[simp ↓, simp] theorem fhas_ct {Q : Fl → Prop} {ρ : En} {m : Me} : FHas Q (.ct ρ m) = Q (.ct ρ m) := rfl
@[simp ↓, simp] theorem fhas_exc {Q : Fl → Prop} {x : Exn} {ρ : En} {m : Me} : FHas Q (.exc x ρ m) = Q (.exc x ρ m) := rfl
@[simp ↓, simp] theorem rhas_exc {α : Type} {Q : Res α → Prop} {x : Exn} {m : Me} : RHas Q (.exc x m : Res α) = Q (.exc x m) := rfl
@[simp ↓, simp] theorem rhas_ite {α : Type} {Q : Res α → Prop} {c : Prop} [Decidable c] {r s : Res α} : RHas Q (if c then r else s) = if c then RHas Q r else RHas Q s := by split <;> rfl
@[simp ↓, simp] theorem fhas_ite {Q : Fl → Prop} {c : Prop} [Decidable c] {r s : Fl} : FHas Q (if c then r else s) = if c then FHas Q r else FHas Q s := by split <;> rfl
@[simp ↓, simp] theorem kR_ok {α β : Type} {f : α → Me → Res β} {Q : Res β → Prop} {a : α} {m : Me} : kR f Q (.ok a m) = RHas Q (f a m) := rfl
@[simp ↓, simp] theorem kR_exc {α β : Type} {f : α → Me → Res β} {Q : Res β → Prop} {x : Exn} {m : Me} : kR f Q (.exc x m) = Q (.exc x m) := rfl
@[simp ↓, simp] theorem kS_ok {α : Type} {ρ : En} {f : α → Me → Fl} {Q : Fl → Prop} {a : α} {m : Me} : kS ρ f Q (.ok a m) = FHas Q (f a m) := rfl
@[simp ↓, simp] theorem kS_exc {α : Type} {ρ : En} {f : α → Me → Fl} {Q : Fl → Prop} {x : Exn} {m : Me} : kS ρ f Q (.exc x m : Res α) = Q (.exc x ρ m) := rfl
@[simp ↓, simp] theorem kF_nx {g : MS} {Q : Fl → Prop} {ρ : En} {m : Me} : kF g Q (.nx ρ m) = FHas Q (g ρ m) := rfl
@[simp ↓, simp] theorem kF_rt {g : MS} {Q : Fl → Prop} {d : D} {m : Me} : kF g Q (.rt d m) = Q (.rt d m) := rfl
@[simp ↓, simp] theorem kF_bk {g : MS} {Q : Fl → Prop} {ρ : En} {m : Me} : kF g Q (.bk ρ m) = Q (.bk ρ m) := rfl
@[simp ↓, simp] theorem kF_ct {g : MS} {Q : Fl → Prop} {ρ : En} {m : Me} : kF g Q (.ct ρ m) = Q (.ct ρ m) := rfl
@[simp ↓, simp] theorem kF_exc {g : MS} {Q : Fl → Prop} {x : Exn} {ρ : En} {m : Me} : kF g Q (.exc x ρ m) = Q (.exc x ρ m) := rfl
/-- a def -/
def kD (m : Me) (Q : Res D → Prop) : Fl → Prop := fun
  | .rt d m' => RHas Q (leave m d m')
  | .nx _ m' => RHas Q (leave m .non m')
  | _ => False
@[simp ↓, simp] theorem kD_rt {m m' : Me} {Q : Res D → Prop} {d : D} : kD m Q (.rt d m') = RHas Q (leave m d m') := rfl
@[simp ↓, simp] theorem kD_nx {m m' : Me} {Q : Res D → Prop} {ρ : En} : kD m Q (.nx ρ m') = RHas Q (leave m .non m') := rfl
theorem has_def {Q : Res D → Prop} {N n : Nat} {f : MS} {ds : List D} {m : Me} (h : FHas (kD m Q) (f (ds.map some ++ List.replicate (N - n) none) m)) : RHas Q (runDef N n f ds m) := by
  unfold runDef
  cases e : f (ds.map some ++ List.replicate (N - n) none) m with
  | no => rw [e] at h; exact h
  | exc x ρ m => rw [e] at h; exact h
  | nx ρ m => rw [e] at h; exact h
  | rt d m => rw [e] at h; exact h
  | bk ρ m => rw [e] at h; exact h
  | ct ρ m => rw [e] at h; exact h
/-- .. its names written out -/
theorem has_def' {Q : Res D → Prop} {N n : Nat} {f : MS} {ds : List D} {m : Me} (ρ : En) (h : FHas (kD m Q) (f ρ m)) (e : ds.map some ++ List.replicate (N - n) none = ρ := by rfl) : RHas Q (runDef N n f ds m) := has_def (by rw [e]; exact h)
/-- what is computed just so -/
theorem has_eq {α : Type} {a : α} {m : Me} {r : Res α} (h : RHas (fun x => x = .ok a m) r) : r = .ok a m := by
  cases r with
  | no => exact h.elim
  | exc x m => exact h
  | ok a m => exact h
theorem eq_has {α : Type} {Q : Res α → Prop} {a : α} {m : Me} {r : Res α} (e : r = .ok a m) (h : Q (.ok a m)) : RHas Q r := by rw [e]; exact h
theorem feq_has {Q : Fl → Prop} {a : Fl} {r : Fl} (e : r = a) (h : FHas Q a) : FHas Q r := by rw [e]; exact h
theorem feq_of {a : Fl} {r : Fl} (h : FHas (fun x => x = a) r) : r = a := by
  cases r with
  | no => exact h.elim
  | _ => exact h
/-- it ends so -/
abbrev OkR {α : Type} (P : α → Me → Prop) : Res α → Prop := fun r => ∃ a m, r = .ok a m ∧ P a m
theorem RHas.ok {α : Type} {Q : Res α → Prop} {P : α → Me → Prop} {r : Res α} (h : RHas (OkR P) r) (w : ∀ a m, P a m → Q (.ok a m)) : RHas Q r := h.mono fun r ⟨a, m, e, p⟩ => by rw [e]; exact w a m p
theorem RHas.ex {α : Type} {P : α → Me → Prop} {r : Res α} (h : RHas (OkR P) r) : ∃ a m, r = .ok a m ∧ P a m := by
  cases r with
  | no => exact h.elim
  | exc x m => exact h
  | ok a m => exact h
/-! ### loops -/
def kL (I : En → Me → Prop) (Q : Fl → Prop) : Fl → Prop := fun
  | .nx ρ m => I ρ m
  | .ct ρ m => I ρ m
  | .bk ρ m => Q (.nx ρ m)
  | r => Q r
@[simp ↓, simp] theorem kL_nx {I : En → Me → Prop} {Q : Fl → Prop} {ρ : En} {m : Me} : kL I Q (.nx ρ m) = I ρ m := rfl
@[simp ↓, simp] theorem kL_ct {I : En → Me → Prop} {Q : Fl → Prop} {ρ : En} {m : Me} : kL I Q (.ct ρ m) = I ρ m := rfl
@[simp ↓, simp] theorem kL_bk {I : En → Me → Prop} {Q : Fl → Prop} {ρ : En} {m : Me} : kL I Q (.bk ρ m) = Q (.nx ρ m) := rfl
@[simp ↓, simp] theorem kL_rt {I : En → Me → Prop} {Q : Fl → Prop} {d : D} {m : Me} : kL I Q (.rt d m) = Q (.rt d m) := rfl
def kE (I : D → Me → Prop) : Res D → Prop := fun
  | .ok y m => I y m
  | _ => False
@[simp ↓, simp] theorem kE_ok {I : D → Me → Prop} {y : D} {m : Me} : kE I (.ok y m) = I y m := rfl
def kC (J : Me → Prop) (I : D → Me → Prop) (e : Me → Res D) : Res Bool → Prop := fun
  | .ok b m => if b = true then RHas (kE I) (e m) else J m
  | _ => False
@[simp ↓, simp] theorem kC_ok {J : Me → Prop} {I : D → Me → Prop} {e : Me → Res D} {b : Bool} {m : Me} : kC J I e (.ok b m) = if b = true then RHas (kE I) (e m) else J m := rfl
def kX {α : Type} (Q : Res α → Prop) : Res α → Prop := fun
  | .ok a m => Q (.ok a m)
  | _ => False
@[simp ↓, simp] theorem kX_ok {α : Type} {Q : Res α → Prop} {a : α} {m : Me} : kX Q (.ok a m) = Q (.ok a m) := rfl
@[simp ↓, simp] theorem rhas_noX {α : Type} {Q : Res α → Prop} {r : Res α} : RHas Q (noX r) = RHas (kX Q) r := by cases r <;> rfl
theorem for_has {gt : D → En → Option En} {body : MS} {gd : Me → Bool} {Q : Fl → Prop} (Inv : List D → En → Me → Prop)
    (step : ∀ d r ρ m, Inv (d :: r) ρ m → gd m = true ∧ ∃ ρ1, gt d ρ = some ρ1 ∧ FHas (kL (Inv r) Q) (body ρ1 m))
    (done : ∀ ρ m, Inv [] ρ m → gd m = true ∧ Q (.nx ρ m)) {ds : List D} {ρ : En} {m : Me} (h : Inv ds ρ m) : FHas Q (forF gt body gd ds ρ m) := by
  have key : ∀ (ds : List D) (ρ : En) (m : Me), Inv ds ρ m → FHas Q (forF gt body gd ds ρ m) := by
    intro ds
    induction ds with
    | nil =>
      intro ρ m h
      obtain ⟨h1, h2⟩ := done ρ m h
      unfold forF; rw [if_pos h1]; exact h2
    | cons d r ih =>
      intro ρ m h
      obtain ⟨h1, ρ1, h2, h3⟩ := step d r ρ m h
      unfold forF; rw [if_pos h1]; simp only [h2]
      cases e : body ρ1 m with
      | no => rw [e] at h3; exact h3.elim
      | exc x ρ m => rw [e] at h3; exact h3
      | nx ρ2 m2 => rw [e] at h3; exact ih ρ2 m2 h3
      | ct ρ2 m2 => rw [e] at h3; exact ih ρ2 m2 h3
      | bk ρ2 m2 => rw [e] at h3; exact h3
      | rt d m => rw [e] at h3; exact h3
  exact key ds ρ m h
/-- a comprehension, by what holds of the store and of what was made -/
theorem comp_has {gt : D → En → Option En} {c : MT} {e : ME} {gd : Me → Bool} {ρ : En} {Q : Res (List D) → Prop} (Inv : List D → List D → Me → Prop)
    (step : ∀ d r ys m, Inv (d :: r) ys m → gd m = true ∧ ∃ ρ1, gt d ρ = some ρ1 ∧ RHas (kC (Inv r ys) (fun y m2 => Inv r (ys ++ [y]) m2) (e ρ1)) (c ρ1 m))
    (done : ∀ ys m, Inv [] ys m → gd m = true ∧ Q (.ok ys m)) {ds : List D} {m : Me} (h : Inv ds [] m) : RHas Q (compF gt c e gd ρ ds m) := by
  have key : ∀ (ds ys : List D) (m : Me), Inv ds ys m → ∃ zs m', compF gt c e gd ρ ds m = .ok zs m' ∧ Q (.ok (ys ++ zs) m') := by
    intro ds
    induction ds with
    | nil =>
      intro ys m h
      obtain ⟨h1, h2⟩ := done ys m h
      exact ⟨[], m, by unfold compF; rw [if_pos h1], by simpa using h2⟩
    | cons d r ih =>
      intro ys m h
      obtain ⟨h1, ρ1, h2, h3⟩ := step d r ys m h
      cases ec : c ρ1 m with
      | no => rw [ec] at h3; exact h3.elim
      | exc x m => rw [ec] at h3; exact h3.elim
      | ok b m1 =>
        rw [ec] at h3
        simp only [rhas_ok, kC_ok] at h3
        cases b with
        | false =>
          rw [if_neg Bool.false_ne_true] at h3
          obtain ⟨zs, m', e1, e2⟩ := ih ys m1 h3
          exact ⟨zs, m', by unfold compF; simp [h1, h2, ec, e1], e2⟩
        | true =>
          rw [if_pos rfl] at h3
          cases ee : e ρ1 m1 with
          | no => rw [ee] at h3; exact h3.elim
          | exc x m => rw [ee] at h3; exact h3.elim
          | ok y m2 =>
            rw [ee] at h3
            obtain ⟨zs, m', e1, e2⟩ := ih (ys ++ [y]) m2 h3
            exact ⟨y :: zs, m', by unfold compF; simp [h1, h2, ec, ee, e1], by simpa using e2⟩
  obtain ⟨zs, m', e1, e2⟩ := key ds [] m h
  rw [e1]; exact e2
/-- a comprehension over known things whose parts leave the store as it is -/
theorem comp_map {α : Type} {gt : D → En → Option En} {c : MT} {e : ME} {ρ : En} {m : Me} {Q : Res (List D) → Prop} {xs : List α} {g : α → D} (p : α → Bool) (f : α → D)
    (h : ∀ x ∈ xs, ∃ ρ1, gt (g x) ρ = some ρ1 ∧ c ρ1 m = .ok (p x) m ∧ (p x = true → e ρ1 m = .ok (f x) m)) (q : Q (.ok ((xs.filter p).map f) m)) : RHas Q (compF gt c e gdY ρ (xs.map g) m) := by
  have key : ∀ xs : List α, (∀ x ∈ xs, ∃ ρ1, gt (g x) ρ = some ρ1 ∧ c ρ1 m = .ok (p x) m ∧ (p x = true → e ρ1 m = .ok (f x) m)) → compF gt c e gdY ρ (xs.map g) m = .ok ((xs.filter p).map f) m := by
    intro xs
    induction xs with
    | nil => intro _; rfl
    | cons x r ih =>
      intro h
      obtain ⟨ρ1, h1, h2, h3⟩ := h x List.mem_cons_self
      have ih' := ih fun y hy => h y (List.mem_cons_of_mem _ hy)
      rw [List.map_cons]
      unfold compF
      simp only [gdY_e, if_true, h1, h2, noX_ok, Res.bind_ok]
      cases hp : p x with
      | false => simp [hp, ih']
      | true => simp [hp, ih', h3 hp]
  rw [key xs h]; exact q
theorem comp_all {α : Type} {gt : D → En → Option En} {c : MT} {e : ME} {ρ : En} {m : Me} {Q : Res (List D) → Prop} {xs : List α} {g : α → D} (f : α → D)
    (h : ∀ x ∈ xs, ∃ ρ1, gt (g x) ρ = some ρ1 ∧ c ρ1 m = .ok true m ∧ e ρ1 m = .ok (f x) m) (q : Q (.ok (xs.map f) m)) : RHas Q (compF gt c e gdY ρ (xs.map g) m) := by
  refine comp_map (fun _ => true) f (fun x hx => ?_) ?_
  · obtain ⟨ρ1, h1, h2, h3⟩ := h x hx; exact ⟨ρ1, h1, h2, fun _ => h3⟩
  · rw [List.filter_eq_self.mpr fun _ _ => rfl]; exact q
@[simp] theorem isN_non : isN .non = true := rfl
@[simp] theorem isN_bl (b : Bool) : isN (.bl b) = false := rfl
@[simp] theorem isN_int (i : Int) : isN (.int i) = false := rfl
@[simp] theorem isN_str (s : Str) : isN (.str s) = false := rfl
@[simp] theorem isN_tup (xs : List D) : isN (.tup xs) = false := rfl
@[simp] theorem isN_lst (xs : List D) : isN (.lst xs) = false := rfl
@[simp] theorem isN_dct (xs : List (Key × D)) : isN (.dct xs) = false := rfl
@[simp ↓] theorem sPut2_h {Q : Fl → Prop} (fo fi fo' fi' fv : ME) (ρ : En) (m : Me) : FHas Q (sPut2 fo fi fo' fi' fv ρ m) = FHas Q (bindS (fv ρ m) ρ fun d m => match d with
  | .tup [x, y] => bindS (fo ρ m) ρ fun d m => bindS (fi ρ m) ρ fun k m => match dput m d k x with
    | none => .no
    | some m => bindS (fo' ρ m) ρ fun d m => bindS (fi' ρ m) ρ fun k m => match dput m d k y with
      | none => .no
      | some m => .nx ρ m
  | _ => .no) := rfl
@[simp ↓] theorem sPar_h {Q : Fl → Prop} (i j : Nat) (fa : MA) (ρ : En) (m : Me) : FHas Q (sPar i j fa ρ m) = FHas Q (bindS (fa ρ m) ρ fun ds m => match ds with
  | [x, y] => .nx ((ρ.set i (some x)).set j (some y)) m
  | _ => .no) := rfl
/-! ### leaving a def -/
mutual
theorem thaw_clo {n : Nat} {m : Me} : ∀ d : D, clo n d = true → thaw n m d = some d
  | .non, _ => rfl
  | .bl _, _ => rfl
  | .int _, _ => rfl
  | .str _, _ => rfl
  | .scr _, _ => rfl
  | .fn _, _ => rfl
  | .tup ds, h => by simp only [clo] at h; simp [thaw, thawL_clo ds h]
  | .lst ds, h => by simp only [clo] at h; simp [thaw, thawL_clo ds h]
  | .dct kvs, h => by simp only [clo] at h; simp [thaw, h]
  | .ref i, h => by simp only [clo, decide_eq_true_eq] at h; simp [thaw, h]
theorem thawL_clo {n : Nat} {m : Me} : ∀ ds : List D, cloL n ds = true → thawL n m ds = some ds
  | [], _ => rfl
  | d :: ds, h => by simp only [cloL, Bool.and_eq_true] at h; simp [thawL, thaw_clo d h.1, thawL_clo ds h.2]
end
/-- data without things of the store -/
abbrev Pl (d : D) : Prop := ∀ n, clo n d = true
abbrev PlL (ds : List D) : Prop := ∀ n, cloL n ds = true
theorem pll_iff {ds : List D} : PlL ds ↔ ∀ d ∈ ds, Pl d := by
  induction ds with
  | nil => exact ⟨fun _ _ h => (nomatch h), fun _ _ => rfl⟩
  | cons d ds ih =>
    constructor
    · intro h x hx n
      have := h n
      simp only [cloL, Bool.and_eq_true] at this
      rcases List.mem_cons.mp hx with e | hx
      · rw [e]; exact this.1
      · exact ih.mp (fun n => by have := h n; simp only [cloL, Bool.and_eq_true] at this; exact this.2) x hx n
    · intro h n
      simp only [cloL, Bool.and_eq_true]
      exact ⟨h d List.mem_cons_self n, ih.mpr (fun x hx => h x (List.mem_cons_of_mem _ hx)) n⟩
/-- a store of plain things -/
def FlatM (m : Me) : Prop := ∀ c ∈ m, ∀ n, cloC n c = true
theorem FlatM.nil : FlatM [] := fun _ h => nomatch h
theorem FlatM.app {a b : Me} (h : FlatM a) (h' : FlatM b) : FlatM (a ++ b) := fun c hc => by
  rcases List.mem_append.mp hc with q | q
  · exact h c q
  · exact h' c q
theorem FlatM.take {a : Me} (h : FlatM a) (n : Nat) : FlatM (a.take n) := fun c hc => h c (List.mem_of_mem_take hc)
theorem FlatM.set {a : Me} (h : FlatM a) {i : Nat} {c : Cell} (hc : ∀ n, cloC n c = true) : FlatM (a.set i c) := fun x hx => by
  rcases List.mem_or_eq_of_mem_set hx with q | q
  · exact h x q
  · rw [q]; exact hc
theorem FlatM.one {c : Cell} (hc : ∀ n, cloC n c = true) : FlatM [c] := fun x hx => by rw [List.mem_singleton.mp hx]; exact hc
theorem leave_flat {m m' : Me} {d d' : D} (hf : FlatM m') (hl : m.length ≤ m'.length) (ht : thaw m.length m' d = some d') (hs : m'.length = m.length → d' = d) : leave m d m' = .ok d' (m'.take m.length) := by
  unfold leave
  by_cases q : m'.length = m.length
  · rw [if_pos q, hs q, ← q, List.take_length]
  · rw [if_neg q, ht]
    simp only
    rw [if_pos (.inr (List.all_eq_true.mpr fun c hc => hf c (List.mem_of_mem_take hc) _))]
theorem leave_pl {m m' : Me} {d : D} (hf : FlatM m') (hl : m.length ≤ m'.length) (hd : Pl d) : leave m d m' = .ok d (m'.take m.length) :=
  leave_flat hf hl (thaw_clo d (hd _)) fun _ => rfl
theorem leave_own {m m' : Me} {xs : List D} {i : Nat} (hi : m.length ≤ i) (hf : FlatM m') (e : m'[i]? = some (.lst xs)) : leave m (.ref i) m' = .ok (.lst xs) (m'.take m.length) := by
  have hlt := (List.getElem?_eq_some_iff.mp e).1
  refine leave_flat hf (by omega) ?_ (by omega)
  have := hf _ (List.mem_of_getElem? e) m.length
  simp only [cloC] at this
  simp [thaw, show ¬ i < m.length by omega, e, this]
end FL

set_option maxRecDepth 100000
namespace FL
open PySem PySem.Spec PyProof.Rows L2

@[simp ↓] theorem mVar_h {Q : Res _ → Prop} (i : Nat) (ρ : En) (m : Me) : RHas Q (mVar i ρ m) = RHas Q (match ρ[i]? with
  | some (some d) => .ok d m
  | _ => .no) := rfl
@[simp ↓] theorem mC_h {Q : Res _ → Prop} (d : D) (ρ : En) (m : Me) : RHas Q (mC d ρ m) = RHas Q (.ok d m) := rfl
@[simp ↓] theorem mNil_h {Q : Res _ → Prop} (ρ : En) (m : Me) : RHas Q (mNil ρ m) = RHas Q (.ok [] m) := rfl
@[simp ↓] theorem mCons_h {Q : Res _ → Prop} (f : ME) (g : MA) (ρ : En) (m : Me) : RHas Q (mCons f g ρ m) = RHas Q ((f ρ m).bind fun d m => (g ρ m).bind fun ds m => .ok (d :: ds) m) := rfl
@[simp ↓] theorem mTup_h {Q : Res _ → Prop} (f : MA) (ρ : En) (m : Me) : RHas Q (mTup f ρ m) = RHas Q ((f ρ m).bind fun ds m => .ok (.tup ds) m) := rfl
@[simp ↓] theorem mLst_h {Q : Res _ → Prop} (f : MA) (ρ : En) (m : Me) : RHas Q (mLst f ρ m) = RHas Q ((f ρ m).bind fun ds m => .ok (.lst ds) m) := rfl
@[simp ↓] theorem mNew_h {Q : Res _ → Prop} (f : MA) (ρ : En) (m : Me) : RHas Q (mNew f ρ m) = RHas Q ((f ρ m).bind fun ds m => .ok (.ref m.length) (m ++ [.lst ds])) := rfl
@[simp ↓] theorem mNewK_h {Q : Res _ → Prop} (ρ : En) (m : Me) : RHas Q (mNewK ρ m) = RHas Q (.ok (.ref m.length) (m ++ [.dK []])) := rfl
@[simp ↓] theorem m1_h {Q : Res _ → Prop} (g : D → Me → Res D) (fa : ME) (ρ : En) (m : Me) : RHas Q (m1 g fa ρ m) = RHas Q ((fa ρ m).bind g) := rfl
@[simp ↓] theorem m2_h {Q : Res _ → Prop} (g : D → D → Me → Res D) (fa fb : ME) (ρ : En) (m : Me) : RHas Q (m2 g fa fb ρ m) = RHas Q ((fa ρ m).bind fun d m => (fb ρ m).bind fun d' m => g d d' m) := rfl
@[simp ↓] theorem mB_h {Q : Res _ → Prop} (f : ME) (ρ : En) (m : Me) : RHas Q (mB f ρ m) = RHas Q ((f ρ m).bind asB) := rfl
@[simp ↓] theorem mAnd_h {Q : Res _ → Prop} (f g : MT) (ρ : En) (m : Me) : RHas Q (mAnd f g ρ m) = RHas Q ((f ρ m).bind fun b m => if b = true then g ρ m else .ok false m) := rfl
@[simp ↓] theorem mOr_h {Q : Res _ → Prop} (f g : MT) (ρ : En) (m : Me) : RHas Q (mOr f g ρ m) = RHas Q ((f ρ m).bind fun b m => if b = true then .ok true m else g ρ m) := rfl
@[simp ↓] theorem mNot_h {Q : Res _ → Prop} (f : MT) (ρ : En) (m : Me) : RHas Q (mNot f ρ m) = RHas Q ((f ρ m).bind fun b m => .ok (!b) m) := rfl
@[simp ↓] theorem mAndV_h {Q : Res _ → Prop} (f g : ME) (ρ : En) (m : Me) : RHas Q (mAndV f g ρ m) = RHas Q ((f ρ m).bind fun d m => match d with
  | .bl true => g ρ m
  | .bl false => .ok (.bl false) m
  | _ => .no) := rfl
@[simp ↓] theorem mOrV_h {Q : Res _ → Prop} (f g : ME) (ρ : En) (m : Me) : RHas Q (mOrV f g ρ m) = RHas Q ((f ρ m).bind fun d m => match d with
  | .bl true => .ok (.bl true) m
  | .bl false => g ρ m
  | _ => .no) := rfl
@[simp ↓] theorem mNotV_h {Q : Res _ → Prop} (f : ME) (ρ : En) (m : Me) : RHas Q (mNotV f ρ m) = RHas Q ((f ρ m).bind fun d m => match d with
  | .bl b => .ok (.bl (!b)) m
  | _ => .no) := rfl
@[simp ↓] theorem mIf_h {Q : Res _ → Prop} (c : MT) (f g : ME) (ρ : En) (m : Me) : RHas Q (mIf c f g ρ m) = RHas Q ((c ρ m).bind fun b m => if b = true then f ρ m else g ρ m) := rfl
@[simp ↓] theorem mArgs_h {Q : Res _ → Prop} (g : List D → Me → Res D) (fa : MA) (ρ : En) (m : Me) : RHas Q (mArgs g fa ρ m) = RHas Q ((fa ρ m).bind g) := rfl
@[simp ↓] theorem mCall_h {Q : Res _ → Prop} (F : List D → Me → Res D) (fa : MA) (ρ : En) (m : Me) : RHas Q (mCall F fa ρ m) = RHas Q ((fa ρ m).bind fun ds m => noX (F ds m)) := rfl
@[simp ↓] theorem mOpt_h {Q : Res _ → Prop} (f : ME) (ρ : En) (m : Me) : RHas Q (mOpt f ρ m) = RHas Q ((f ρ m).bind fun d m => match d with
  | .int i => .ok (some i) m
  | _ => .no) := rfl
@[simp ↓] theorem mNo_h {Q : Res _ → Prop} (ρ : En) (m : Me) : RHas Q (mNo ρ m) = RHas Q (.ok none m) := rfl
@[simp ↓] theorem mSl_h {Q : Res _ → Prop} (fa : ME) (fl fh : En → Me → Res (Option Int)) (ρ : En) (m : Me) : RHas Q (mSl fa fl fh ρ m) = RHas Q ((fa ρ m).bind fun d m => (fl ρ m).bind fun lo m => (fh ρ m).bind fun hi m => gSl d lo hi m) := rfl
@[simp ↓] theorem m3_h {Q : Res _ → Prop} (g : D → D → D → Me → Res D) (fa fb fc : ME) (ρ : En) (m : Me) : RHas Q (m3 g fa fb fc ρ m) = RHas Q ((fa ρ m).bind fun d m => match view m d with
  | .dct _ => (fb ρ m).bind fun d' m => (fc ρ m).bind fun d'' m => g d d' d'' m
  | _ => .no) := rfl
@[simp ↓] theorem sNext_h {Q : Fl → Prop} (ρ : En) (m : Me) : FHas Q (sNext ρ m) = FHas Q (.nx ρ m) := rfl
@[simp ↓] theorem sSet_h {Q : Fl → Prop} (i : Nat) (f : ME) (ρ : En) (m : Me) : FHas Q (sSet i f ρ m) = FHas Q (bindS (f ρ m) ρ fun d m => .nx (ρ.set i (some d)) m) := rfl
@[simp ↓] theorem sRet_h {Q : Fl → Prop} (f : ME) (ρ : En) (m : Me) : FHas Q (sRet f ρ m) = FHas Q (bindS (f ρ m) ρ fun d m => .rt d m) := rfl
@[simp ↓] theorem sRetN_h {Q : Fl → Prop} (ρ : En) (m : Me) : FHas Q (sRetN ρ m) = FHas Q (.rt .non m) := rfl
@[simp ↓] theorem sDo_h {Q : Fl → Prop} (f : ME) (ρ : En) (m : Me) : FHas Q (sDo f ρ m) = FHas Q (bindS (f ρ m) ρ fun _ m => .nx ρ m) := rfl
@[simp ↓] theorem sIf_h {Q : Fl → Prop} (c : MT) (f g : MS) (ρ : En) (m : Me) : FHas Q (sIf c f g ρ m) = FHas Q (bindS (c ρ m) ρ fun b m => if b = true then f ρ m else g ρ m) := rfl
@[simp ↓] theorem sBk_h {Q : Fl → Prop} (ρ : En) (m : Me) : FHas Q (sBk ρ m) = FHas Q (.bk ρ m) := rfl
@[simp ↓] theorem sCt_h {Q : Fl → Prop} (ρ : En) (m : Me) : FHas Q (sCt ρ m) = FHas Q (.ct ρ m) := rfl
@[simp ↓] theorem sFor_h {Q : Fl → Prop} (it : MI) (gt : D → En → Option En) (body : MS) (ρ : En) (m : Me) : FHas Q (sFor it gt body ρ m) = FHas Q (bindS (it ρ m) ρ fun p m => forF gt body p.2 p.1 ρ m) := rfl
@[simp ↓] theorem sAsg_h {Q : Fl → Prop} (gt : D → En → Option En) (f : ME) (ρ : En) (m : Me) : FHas Q (sAsg gt f ρ m) = FHas Q (bindS (f ρ m) ρ fun d m => match gt d ρ with
  | some ρ' => .nx ρ' m
  | none => .no) := rfl
@[simp ↓] theorem sDput_h {Q : Fl → Prop} (fo fi fv : ME) (ρ : En) (m : Me) : FHas Q (sDput fo fi fv ρ m) = FHas Q (bindS (fv ρ m) ρ fun y m => bindS (fo ρ m) ρ fun d m => bindS (fi ρ m) ρ fun k m => match dput m d k y with
  | some m' => .nx ρ m'
  | none => .no) := rfl
@[simp ↓] theorem sDaug_h {Q : Fl → Prop} (fo fi fe : ME) (ρ : En) (m : Me) : FHas Q (sDaug fo fi fe ρ m) = FHas Q (bindS (fo ρ m) ρ fun d m => bindS (fi ρ m) ρ fun k m => match look m d k with
  | some (some (.int i)) => bindS (fe ρ m) ρ fun y m => match y with
    | .int j => match dput m d k (.int (i + j)) with
      | some m' => .nx ρ m'
      | none => .no
    | _ => .no
  | _ => .no) := rfl
@[simp ↓] theorem sAug_h {Q : Fl → Prop} (i : Nat) (f : D → D → Me → Res D) (fe : ME) (ρ : En) (m : Me) : FHas Q (sAug i f fe ρ m) = FHas Q (match ρ[i]? with
  | some (some d) => bindS (fe ρ m) ρ fun y m => bindS (f d y m) ρ fun z m => .nx (ρ.set i (some z)) m
  | _ => .no) := rfl
@[simp ↓] theorem sSetIx_h {Q : Fl → Prop} (fo fi fv : ME) (ρ : En) (m : Me) : FHas Q (sSetIx fo fi fv ρ m) = FHas Q (bindS (fv ρ m) ρ fun y m => bindS (fo ρ m) ρ fun d m => bindS (fi ρ m) ρ fun k m => match d, k with
  | .ref i, .int k => match m[i]? with
    | some (.lst xs) => match ixN xs.length k with
      | some j => .nx ρ (m.set i (.lst (xs.set j y)))
      | none => .no
    | _ => .no
  | _, _ => .no) := rfl
@[simp ↓] theorem mAppend_h {Q : Res _ → Prop} (fo fe : ME) (ρ : En) (m : Me) : RHas Q (mAppend fo fe ρ m) = RHas Q ((fo ρ m).bind fun d m => match d with
  | .ref i => match m[i]? with
    | some (.lst _) => (fe ρ m).bind fun y m => match m[i]? with
      | some (.lst xs) => if xs.length < 1000000 then .ok .non (m.set i (.lst (xs ++ [y]))) else .no
      | _ => .no
    | _ => .no
  | _ => .no) := rfl
@[simp ↓] theorem mExtend_h {Q : Res _ → Prop} (fo fe : ME) (ρ : En) (m : Me) : RHas Q (mExtend fo fe ρ m) = RHas Q ((fo ρ m).bind fun d m => match d with
  | .ref i => match m[i]? with
    | some (.lst _) => (fe ρ m).bind fun y m => match m[i]?, lstV m y with
      | some (.lst xs), some ys => if xs.length + ys.length < 1000000 then .ok .non (m.set i (.lst (xs ++ ys))) else .no
      | _, _ => .no
    | _ => .no
  | _ => .no) := rfl
@[simp ↓] theorem iSeq_h {Q : Res _ → Prop} (f : ME) (ρ : En) (m : Me) : RHas Q (iSeq f ρ m) = RHas Q ((f ρ m).bind asIt) := rfl
@[simp ↓] theorem iRange1_h {Q : Res _ → Prop} (f : MA) (ρ : En) (m : Me) : RHas Q (iRange1 f ρ m) = RHas Q ((f ρ m).bind fun ds m => match ds with
  | [.int j] => if j ≤ 1000000 ∧ -1000000 ≤ j then .ok (rngL 0 j.toNat, gdY) m else .no
  | _ => .no) := rfl
@[simp ↓] theorem iRange2_h {Q : Res _ → Prop} (f : MA) (ρ : En) (m : Me) : RHas Q (iRange2 f ρ m) = RHas Q ((f ρ m).bind fun ds m => match ds with
  | [.int i, .int j] => if (j ≤ 1000000 ∧ -1000000 ≤ j) ∧ i ≤ 1000000 ∧ -1000000 ≤ i then .ok (rngL i (j - i).toNat, gdY) m else .no
  | _ => .no) := rfl
@[simp ↓] theorem mComp_h {Q : Res _ → Prop} (it : MI) (vs : List Nat) (gt : D → En → Option En) (c : MT) (e : ME) (ρ : En) (m : Me) : RHas Q (mComp it vs gt c e ρ m) = RHas Q ((it ρ m).bind fun p m => (noX (compF gt c e p.2 (wipeD ρ vs) p.1 m)).bind fun ys m => .ok (.lst ys) m) := rfl
@[simp ↓] theorem mDisp_h {Q : Res _ → Prop} (f : En → Me → Res (List (Key × D))) (ρ : En) (m : Me) : RHas Q (mDisp f ρ m) = RHas Q ((f ρ m).bind fun kvs m => if kvs.length ≤ 15 then .ok (.ref m.length) (m ++ [.dK (kvs.foldl (fun acc kv => setK acc kv.1 kv.2) [])]) else .no) := rfl
@[simp ↓] theorem pNil_h {Q : Res _ → Prop} (ρ : En) (m : Me) : RHas Q (pNil ρ m) = RHas Q (.ok [] m) := rfl
@[simp ↓] theorem pCons_h {Q : Res _ → Prop} (fk fv : ME) (fr : En → Me → Res (List (Key × D))) (ρ : En) (m : Me) : RHas Q (pCons fk fv fr ρ m) = RHas Q ((fk ρ m).bind fun k m => match keyD k with
  | none => .no
  | some k => (fv ρ m).bind fun v m => (fr ρ m).bind fun r m => .ok ((k, v) :: r) m) := rfl
@[simp ↓] theorem cYes_h {Q : Res _ → Prop} (ρ : En) (m : Me) : RHas Q (cYes ρ m) = RHas Q (.ok true m) := rfl
end FL

set_option maxRecDepth 100000
namespace FL
open PySem PySem.Spec PyProof.Rows L2

/-! ### the draws: a dict of draws, at, and what else stands in it -/
def WX (draws : List Int) (k : Int) (ex : List (Key × D)) : Cell := .dK ((.inr "draws", .lst (draws.map .int)) :: (.inr "at", .int k) :: ex)
theorem look_atX {m : Me} {i : Nat} {ds : List Int} {k : Int} {ex : List (Key × D)} (h : m[i]? = some (WX ds k ex)) : look m (.ref i) (.str "at") = some (some (.int k)) := by
  unfold look; rw [view_ref_dK h]; rfl
theorem look_drawsX {m : Me} {i : Nat} {ds : List Int} {k : Int} {ex : List (Key × D)} (h : m[i]? = some (WX ds k ex)) : look m (.ref i) (.str "draws") = some (some (.lst (ds.map .int))) := by
  unfold look; rw [view_ref_dK h]; rfl
/-- keys beside draws and at -/
def ExOk (ex : List (Key × D)) : Prop := (∀ p ∈ ex, p.1 ≠ .inr "at") ∧ ex.length < 1000 ∧ ∀ n, cloK n ex = true
theorem setK_at {ds : List Int} {k k' : Int} {ex : List (Key × D)} (h : ExOk ex) : setK ((.inr "draws", .lst (ds.map .int)) :: (.inr "at", .int k) :: ex) (.inr "at") (.int k') = (.inr "draws", .lst (ds.map .int)) :: (.inr "at", .int k') :: ex := by
  have e : ex.map (fun kv => if kv.1 = (Sum.inr ("at" : Str) : Key) then (kv.1, D.int k') else kv) = ex := by
    have : ∀ l : List (Key × D), (∀ p ∈ l, p.1 ≠ .inr "at") → l.map (fun kv => if kv.1 = (Sum.inr ("at" : Str) : Key) then (kv.1, D.int k') else kv) = l := by
      intro l
      induction l with
      | nil => intro _; rfl
      | cons p l ih => intro h; rw [List.map_cons, if_neg (h p List.mem_cons_self), ih fun q hq => h q (List.mem_cons_of_mem _ hq)]
    exact this ex h.1
  have n1 : ¬ (("draws" : Str) = ("at" : Str)) := by decide +kernel
  unfold setK
  rw [if_pos (by simp), List.map_cons, List.map_cons, e]
  simp [n1]
theorem clo_ints' (n : Nat) : ∀ l : List Int, cloL n (l.map D.int) = true
  | [] => rfl
  | a :: l => by simp [cloL, clo, clo_ints' n l]
theorem clo_wx {ds : List Int} {k : Int} {ex : List (Key × D)} (h : ExOk ex) (n : Nat) : cloC n (WX ds k ex) = true := by
  simp [WX, cloC, cloK, cloP, clo, clo_ints', h.2.2 n]
structure Wt (i : Nat) (ds : List Int) (ex : List (Key × D)) (m : Me) : Prop where
  w : ∃ k : Int, 0 ≤ k ∧ m[i]? = some (WX ds k ex)
  f : FlatM m
  x : ExOk ex
def Ev (i : Nat) (ds : List Int) (ex : List (Key × D)) (m m' : Me) : Prop := ∃ k : Int, 0 ≤ k ∧ m' = m.set i (WX ds k ex)
section
variable {i : Nat} {ds : List Int} {ex : List (Key × D)} {m m' m'' c : Me}
theorem Wt.lt (h : Wt i ds ex m) : i < m.length := by obtain ⟨k, _, e⟩ := h.w; exact (List.getElem?_eq_some_iff.mp e).1
theorem Wt.ev (h : Wt i ds ex m) (e : Ev i ds ex m m') : Wt i ds ex m' := by
  obtain ⟨k, h0, rfl⟩ := e
  exact ⟨⟨k, h0, List.getElem?_set_self h.lt⟩, h.f.set (clo_wx h.x), h.x⟩
theorem Wt.app (h : Wt i ds ex m) (hc : FlatM c) : Wt i ds ex (m ++ c) := by
  obtain ⟨k, h0, e⟩ := h.w
  exact ⟨⟨k, h0, by rw [List.getElem?_append_left (List.getElem?_eq_some_iff.mp e).1]; exact e⟩, h.f.app hc, h.x⟩
theorem Ev.refl (h : Wt i ds ex m) : Ev i ds ex m m := by
  obtain ⟨k, h0, e⟩ := h.w
  refine ⟨k, h0, ?_⟩
  obtain ⟨hi, e⟩ := List.getElem?_eq_some_iff.mp e
  rw [← e, List.set_getElem_self]
theorem Ev.trans (h : Ev i ds ex m m') (h' : Ev i ds ex m' m'') : Ev i ds ex m m'' := by
  obtain ⟨k, h0, rfl⟩ := h
  obtain ⟨k', h0', rfl⟩ := h'
  exact ⟨k', h0', by rw [List.set_set]⟩
theorem Ev.len (h : Ev i ds ex m m') : m'.length = m.length := by obtain ⟨k, _, rfl⟩ := h; simp
theorem Ev.get (h : Ev i ds ex m m') {j : Nat} (hj : i ≠ j) : m'[j]? = m[j]? := by obtain ⟨k, _, rfl⟩ := h; rw [List.getElem?_set_ne hj]
theorem Ev.app (h : Wt i ds ex m) (e : Ev i ds ex (m ++ c) m') : ∃ m1, m' = m1 ++ c ∧ Ev i ds ex m m1 := by
  obtain ⟨k, h0, rfl⟩ := e
  exact ⟨_, by rw [List.set_append_left _ _ h.lt], k, h0, rfl⟩
theorem next_has {F : List D → Me → Res D} {f : Nat → List D → Me → Res D} (h : Wt i ds ex m) (hF : F = runDef 2 2 (bNext f)) {a : Int} (ha : 0 < a) :
    RHas (OkR fun d m' => ∃ v : Nat, (v : Int) < a ∧ d = .int v ∧ Ev i ds ex m m') (F [.ref i, .int a] m) := by
  subst hF
  obtain ⟨k, hk, e⟩ := h.w
  have hi := h.lt
  have hp : dput m (.ref i) (.str "at") (.int (k + 1)) = some (m.set i (WX ds (k + 1) ex)) := by
    unfold dput; simp only [keyD, e]; rw [WX]; simp only; rw [if_pos (by have := h.x.2.1; simp; omega), setK_at h.x]; rfl
  have h' : (m.set i (WX ds (k + 1) ex))[i]? = some (WX ds (k + 1) ex) := List.getElem?_set_self hi
  have hl : (m.set i (WX ds (k + 1) ex)).length = m.length := List.length_set ..
  by_cases hc : (ds.length : Int) < k + 1
  · refine eq_has (a := .int 0) (m := m.set i (WX ds (k + 1) ex)) ?_ ⟨_, _, rfl, 0, ha, rfl, k + 1, by omega, rfl⟩
    simp [runDef, bNext, look_atX e, hp, gDget, look_atX h', look_drawsX h', hc, leave_same hl]
  · have hlt : k.toNat < ds.length := by omega
    have e1 : atI (ds.map D.int) k = some (.int (ds[k.toNat])) := by
      have q : atI (ds.map D.int) ((k.toNat : Nat) : Int) = some (.int (ds[k.toNat])) := atI_nat (by rw [List.getElem?_map]; simp [hlt])
      rwa [show ((k.toNat : Nat) : Int) = k by omega] at q
    have h0 := Int.emod_nonneg ds[k.toNat] (b := a) (by omega)
    refine eq_has (a := .int (ds[k.toNat] % a)) (m := m.set i (WX ds (k + 1) ex)) ?_ ⟨_, _, rfl, (ds[k.toNat] % a).toNat, by rw [Int.toNat_of_nonneg h0]; exact Int.emod_lt_of_pos _ ha, by rw [Int.toNat_of_nonneg h0], k + 1, by omega, rfl⟩
    simp [runDef, bNext, look_atX e, hp, gDget, look_atX h', look_drawsX h', hc, leave_same hl, gIx, e1, gMod_int ha]
theorem pick_has {F : List D → Me → Res D} {f g : Nat → List D → Me → Res D} {j : Nat} (h : Wt i ds ex m) (hF : F = runDef 2 2 (bPick j f)) (hN : f j = runDef 2 2 (bNext g)) {xs : List D} (hx : xs ≠ []) :
    RHas (OkR fun d m' => d ∈ xs ∧ Ev i ds ex m m') (F [.ref i, .lst xs] m) := by
  subst hF
  have hpos : 0 < xs.length := List.length_pos_iff.mpr hx
  obtain ⟨d, m', e, v, hv, rfl, ev⟩ := (next_has h hN (a := (xs.length : Int)) (by omega)).ex
  have hv' : v < xs.length := by omega
  refine eq_has (a := xs[v]) (m := m') ?_ ⟨_, _, rfl, List.getElem_mem hv', ev⟩
  have e1 : atI xs (v : Int) = some xs[v] := atI_nat (List.getElem?_eq_getElem hv')
  simp [runDef, bPick, e, gIx, e1, leave_same ev.len]
end
/-- a comprehension that draws: so many things that are P -/
theorem comp_gen {gt : D → En → Option En} {c : MT} {e : ME} {ρ : En} {Q : Res (List D) → Prop} {i : Nat} {ds : List Int} {ex : List (Key × D)} (P : D → Prop) {xs : List D} {m : Me} (h : Wt i ds ex m)
    (step : ∀ d ∈ xs, ∀ m', Ev i ds ex m m' → Wt i ds ex m' → ∃ ρ1, gt d ρ = some ρ1 ∧ RHas (kC (fun _ => False) (fun y m2 => P y ∧ Ev i ds ex m' m2) (e ρ1)) (c ρ1 m'))
    (done : ∀ ys m', ys.length = xs.length → (∀ y ∈ ys, P y) → Ev i ds ex m m' → Q (.ok ys m')) : RHas Q (compF gt c e gdY ρ xs m) := by
  refine comp_has (fun r ys m' => ys.length + r.length = xs.length ∧ (∀ d ∈ r, d ∈ xs) ∧ (∀ y ∈ ys, P y) ∧ Ev i ds ex m m') (fun d r ys m' ⟨h1, h2, h3, h4⟩ => ⟨rfl, ?_⟩) (fun ys m' ⟨h1, _, h3, h4⟩ => ⟨rfl, done ys m' (by simpa using h1) h3 h4⟩) ⟨by simp, fun _ h => h, by simp, Ev.refl h⟩
  obtain ⟨ρ1, q1, q2⟩ := step d (h2 d List.mem_cons_self) m' h4 (h.ev h4)
  refine ⟨ρ1, q1, ?_⟩
  cases ec : c ρ1 m' with
  | no => rw [ec] at q2; exact q2.elim
  | exc x m => rw [ec] at q2; exact q2.elim
  | ok b m1 =>
    rw [ec] at q2
    simp only [rhas_ok, kC_ok] at q2 ⊢
    cases b with
    | false => rw [if_neg Bool.false_ne_true] at q2; exact q2.elim
    | true =>
      rw [if_pos rfl] at q2 ⊢
      cases ee : e ρ1 m1 with
      | no => rw [ee] at q2; exact q2.elim
      | exc x m => rw [ee] at q2; exact q2.elim
      | ok y m2 =>
        rw [ee] at q2
        obtain ⟨p1, p2⟩ := q2
        refine ⟨by simp at h1 ⊢; omega, fun z hz => h2 z (List.mem_cons_of_mem _ hz), fun z hz => ?_, h4.trans p2⟩
        rcases List.mem_append.mp hz with q | q
        · exact h3 z q
        · rw [List.mem_singleton.mp q]; exact p1
end FL

set_option maxRecDepth 100000
namespace FL
open PySem PySem.Spec PyProof.Rows L2

/-! ### texts that are written out -/
theorem ofs_inj {a b : String} : Str.ofString a = Str.ofString b ↔ a = b := by
  constructor
  · intro h
    rw [Str.ofString_eq_toList, Str.ofString_eq_toList] at h
    simp only [Str.mk.injEq, List.toArray_inj] at h
    have e : a.toList = b.toList := by
      have key : ∀ l l' : List Char, l.map Char.toNat = l'.map Char.toNat → l = l' := by
        intro l
        induction l with
        | nil => intro l' h; cases l' with
          | nil => rfl
          | cons _ _ => simp at h
        | cons c l ih => intro l' h; cases l' with
          | nil => simp at h
          | cons c' l' =>
            simp only [List.map_cons, List.cons.injEq] at h
            rw [ih l' h.2, Char.toNat_inj.mp h.1]
      exact key _ _ (by simpa using h)
    exact String.toList_inj.mp e
  · rintro rfl; rfl
@[simp ↓, simp] theorem ofs_eq (a b : String) : (Str.ofString a = Str.ofString b) = (a = b) := propext ofs_inj
@[simp ↓, simp] theorem ofs_beq (a b : String) : (Str.ofString a == Str.ofString b) = decide (a = b) := by
  rw [show (Str.ofString a == Str.ofString b) = decide (Str.ofString a = Str.ofString b) from rfl]; simp only [ofs_eq]
@[simp ↓, simp] theorem strOk_ofs (a : String) : PyData.strOk (Str.ofString a) = true := by
  rw [Str.ofString_eq_toList]
  unfold PyData.strOk
  simp only [Array.all_eq_true_iff_forall_mem, List.mem_toArray, List.mem_map, decide_eq_true_eq]
  rintro x ⟨c, _, rfl⟩
  have := c.valid
  unfold UInt32.isValidChar Nat.isValidChar at this
  have e : c.toNat = c.val.toNat := rfl
  omega
@[simp ↓, simp] theorem gEq_ofs (a b : String) (m : Me) : gEq (.str (Str.ofString a)) (.str (Str.ofString b)) m = .ok (.bl (decide (a = b))) m := by
  rw [gEq_str _ _ _ (strOk_ofs a) (strOk_ofs b), ofs_beq]
@[simp ↓, simp] theorem gNe_ofs (a b : String) (m : Me) : gNe (.str (Str.ofString a)) (.str (Str.ofString b)) m = .ok (.bl (!decide (a = b))) m := by
  rw [gNe_str _ _ _ (strOk_ofs a) (strOk_ofs b), ofs_beq]

/-! ### plain data without truths -/
mutual
def nb : D → Bool
  | .non => true
  | .int _ => true
  | .str s => PyData.strOk s
  | .tup xs => nbL xs
  | .lst xs => nbL xs
  | _ => false
def nbL : List D → Bool
  | [] => true
  | x :: xs => nb x && nbL xs
end
mutual
def dpD : D → Nat
  | .tup xs => dpL xs + 1
  | .lst xs => dpL xs + 1
  | _ => 0
def dpL : List D → Nat
  | [] => 0
  | x :: xs => max (dpD x) (dpL xs)
end
mutual
def pyT : D → PyData
  | .non => .none
  | .bl b => .bool b
  | .int i => .int i
  | .str s => .str s
  | .tup xs => .tuple (pyTs xs)
  | .lst xs => .list (pyTs xs)
  | _ => .none
def pyTs : List D → List PyData
  | [] => []
  | x :: xs => pyT x :: pyTs xs
end
theorem nbL_iff {xs : List D} : nbL xs = true ↔ ∀ x ∈ xs, nb x = true := by
  induction xs with
  | nil => simp [nbL]
  | cons a l ih => simp [nbL, ih]
theorem dpL_le {xs : List D} {n : Nat} : dpL xs ≤ n ↔ ∀ x ∈ xs, dpD x ≤ n := by
  induction xs with
  | nil => simp [dpL]
  | cons a l ih => simp only [dpL, List.mem_cons, forall_eq_or_imp, ← ih]; omega
mutual
theorem py_nb : ∀ d : D, nb d = true → py d = some (pyT d)
  | .non, _ => rfl
  | .int _, _ => rfl
  | .str _, _ => rfl
  | .tup xs, h => by simp only [py, pyT, pyL_nb xs h, Option.map_some]
  | .lst xs, h => by simp only [py, pyT, pyL_nb xs h, Option.map_some]
  | .bl _, h => by cases h
  | .dct _, h => by cases h
  | .ref _, h => by cases h
  | .scr _, h => by cases h
theorem pyL_nb : ∀ ds : List D, nbL ds = true → pyL ds = some (pyTs ds)
  | [], _ => rfl
  | d :: ds, h => by
    simp only [nbL, Bool.and_eq_true] at h
    simp only [pyL, pyTs, py_nb d h.1, pyL_nb ds h.2, Option.bind_some, Option.map_some]
end
mutual
theorem lay_nb : ∀ d : D, nb d = true → (pyT d).canLay0 = true ∧ (pyT d).depth = dpD d
  | .non, _ => ⟨rfl, rfl⟩
  | .int _, _ => ⟨rfl, rfl⟩
  | .str s, h => ⟨by simpa [pyT, PyData.canLay0, nb] using h, rfl⟩
  | .tup xs, h => by
    have := layL_nb xs h
    simp only [pyT, PyData.canLay0, PyData.depth, dpD, this, and_self]
  | .lst xs, h => by
    have := layL_nb xs h
    simp only [pyT, PyData.canLay0, PyData.depth, dpD, this, and_self]
  | .bl _, h => by cases h
  | .dct _, h => by cases h
  | .ref _, h => by cases h
  | .scr _, h => by cases h
theorem layL_nb : ∀ ds : List D, nbL ds = true → PyData.canLayAll0 (pyTs ds) = true ∧ PyData.depthAll (pyTs ds) = dpL ds
  | [], _ => ⟨rfl, rfl⟩
  | d :: ds, h => by
    simp only [nbL, Bool.and_eq_true] at h
    have h1 := lay_nb d h.1
    have h2 := layL_nb ds h.2
    simp only [pyTs, PyData.canLayAll0, PyData.depthAll, dpL, h1, h2, Bool.and_self, and_self]
end
theorem shaped_nb {d : D} (h : nb d = true) (hd : dpD d ≤ 64) : SeqAt.shaped (pyT d) = true := by
  unfold SeqAt.shaped
  obtain ⟨h1, h2⟩ := lay_nb d h
  rw [h1, h2]; simpa using hd
mutual
theorem eqv_nb : ∀ a b : D, nb a = true → nb b = true → (PyData.eqv (pyT a) (pyT b) = true ↔ a = b)
  | .non, b, _, hb => by cases b <;> simp [pyT, PyData.eqv] <;> simp [nb] at hb
  | .int i, b, _, hb => by cases b <;> simp [pyT, PyData.eqv] <;> simp [nb] at hb
  | .str i, b, _, hb => by cases b <;> simp [pyT, PyData.eqv] <;> simp [nb] at hb
  | .tup xs, b, ha, hb => by
    cases b with
    | tup ys => simp only [pyT, PyData.eqv, D.tup.injEq]; exact eqvL_nb xs ys ha hb
    | _ => simp [pyT, PyData.eqv]
  | .lst xs, b, ha, hb => by
    cases b with
    | lst ys => simp only [pyT, PyData.eqv, D.lst.injEq]; exact eqvL_nb xs ys ha hb
    | _ => simp [pyT, PyData.eqv]
  | .bl _, _, h, _ => by cases h
  | .dct _, _, h, _ => by cases h
  | .ref _, _, h, _ => by cases h
  | .scr _, _, h, _ => by cases h
theorem eqvL_nb : ∀ a b : List D, nbL a = true → nbL b = true → (PyData.eqvAll (pyTs a) (pyTs b) = true ↔ a = b)
  | [], b, _, _ => by cases b <;> simp [pyTs, PyData.eqvAll]
  | x :: xs, [], _, _ => by simp [pyTs, PyData.eqvAll]
  | x :: xs, y :: ys, ha, hb => by
    simp only [nbL, Bool.and_eq_true] at ha hb
    simp only [pyTs, PyData.eqvAll, Bool.and_eq_true, List.cons.injEq, eqv_nb x y ha.1 hb.1, eqvL_nb xs ys ha.2 hb.2]
end
open Classical in
/-- two data are one -/
noncomputable def eqc (a b : D) : Bool := decide (a = b)
theorem eqc_iff {a b : D} : eqc a b = true ↔ a = b := by simp [eqc]
theorem eqc_self (a : D) : eqc a a = true := eqc_iff.mpr rfl
theorem eqc_ne {a b : D} (h : a ≠ b) : eqc a b = false := by simpa [eqc] using h
theorem view_nb {d : D} (m : Me) (h : nb d = true) : view m d = d := by cases d <;> first | rfl | cases h
theorem gEq_nb {a b : D} (m : Me) (ha : nb a = true) (hb : nb b = true) (da : dpD a ≤ 64) (db : dpD b ≤ 64) : gEq a b m = .ok (.bl (eqc a b)) m := by
  unfold gEq
  rw [view_nb m ha, view_nb m hb, py_nb a ha, py_nb b hb]
  simp only [eqRes]
  rw [if_pos ⟨shaped_nb ha da, shaped_nb hb db⟩, Bool.eq_iff_iff.mpr ((eqv_nb a b ha hb).trans eqc_iff.symm)]
  simp
theorem gNe_nb {a b : D} (m : Me) (ha : nb a = true) (hb : nb b = true) (da : dpD a ≤ 64) (db : dpD b ≤ 64) : gNe a b m = .ok (.bl (!eqc a b)) m := by
  unfold gNe
  rw [view_nb m ha, view_nb m hb, py_nb a ha, py_nb b hb]
  simp only [eqRes]
  rw [if_pos ⟨shaped_nb ha da, shaped_nb hb db⟩, Bool.eq_iff_iff.mpr ((eqv_nb a b ha hb).trans eqc_iff.symm)]
  simp
@[simp ↓, simp] theorem gEq_bl (a b : Bool) (m : Me) : gEq (.bl a) (.bl b) m = .ok (.bl (a == b)) m := by
  have sh : ∀ {x : Bool}, SeqAt.shaped (.bool x) = true := by intro x; cases x <;> decide +kernel
  have v : ∀ b : Bool, view m (.bl b) = .bl b := fun _ => rfl
  simp only [gEq, v, py, eqRes]
  rw [if_pos ⟨sh, sh⟩]
  simp [PyData.eqv]
@[simp ↓, simp] theorem gNe_bl (a b : Bool) (m : Me) : gNe (.bl a) (.bl b) m = .ok (.bl (!(a == b))) m := by
  have sh : ∀ {x : Bool}, SeqAt.shaped (.bool x) = true := by intro x; cases x <;> decide +kernel
  have v : ∀ b : Bool, view m (.bl b) = .bl b := fun _ => rfl
  simp only [gNe, v, py, eqRes]
  rw [if_pos ⟨sh, sh⟩]
  simp [PyData.eqv]
/-- == with the empty list -/
theorem gEq_lnil {xs : List D} (m : Me) (h : nbL xs = true) (hd : dpL xs ≤ 63) : gEq (.lst xs) (.lst []) m = .ok (.bl xs.isEmpty) m := by
  rw [gEq_nb m (by simpa [nb] using h) rfl (by simp only [dpD]; omega) (by simp [dpD, dpL])]
  cases xs with
  | nil => rw [eqc_self]; rfl
  | cons x xs => rw [eqc_ne (by simp)]; rfl
theorem gNe_lnil {xs : List D} (m : Me) (h : nbL xs = true) (hd : dpL xs ≤ 63) : gNe (.lst xs) (.lst []) m = .ok (.bl (!xs.isEmpty)) m := by
  rw [gNe_nb m (by simpa [nb] using h) rfl (by simp only [dpD]; omega) (by simp [dpD, dpL])]
  cases xs with
  | nil => rw [eqc_self]; rfl
  | cons x xs => rw [eqc_ne (by simp)]; rfl
mutual
theorem clo_nb (n : Nat) : ∀ d : D, nb d = true → clo n d = true
  | .non, _ => rfl
  | .int _, _ => rfl
  | .str _, _ => rfl
  | .tup xs, h => by simp only [clo]; exact cloL_nb n xs h
  | .lst xs, h => by simp only [clo]; exact cloL_nb n xs h
  | .bl _, h => by cases h
  | .dct _, h => by cases h
  | .ref _, h => by cases h
  | .scr _, h => by cases h
theorem cloL_nb (n : Nat) : ∀ ds : List D, nbL ds = true → cloL n ds = true
  | [], _ => rfl
  | d :: ds, h => by
    simp only [nbL, Bool.and_eq_true] at h
    simp only [cloL, clo_nb n d h.1, cloL_nb n ds h.2, Bool.and_self]
end
theorem pl_nb {d : D} (h : nb d = true) : Pl d := fun n => clo_nb n d h
/-! ### in -/
theorem gInN_nb {neg : Bool} {d s : D} {xs : List D} (m : Me) (hs : seqV m s = some xs) (hd : nb d = true ∧ flatD d = true) (hx : ∀ x ∈ xs, nb x = true ∧ flatD x = true) : gInN neg d s m = .ok (.bl (if neg then !(xs.any fun x => eqc x d) else xs.any fun x => eqc x d)) m := by
  have e : ∀ x ∈ xs, eqF x d = eqc x d := fun x h => by
    have h1 := hx x h
    rw [Bool.eq_iff_iff, eqc_iff]
    cases x <;> cases d <;> simp [nb, flatD] at h1 hd <;> simp [eqF]
  have e2 : (xs.any fun e => eqF e d) = xs.any fun x => eqc x d := by
    rw [Bool.eq_iff_iff, List.any_eq_true, List.any_eq_true]
    exact ⟨fun ⟨x, q1, q2⟩ => ⟨x, q1, by rw [← e x q1]; exact q2⟩, fun ⟨x, q1, q2⟩ => ⟨x, q1, by rw [e x q1]; exact q2⟩⟩
  unfold gInN
  rw [hs]
  simp only
  rw [if_pos ⟨hd.2, List.all_eq_true.mpr fun x h => (hx x h).2⟩, e2]
/-- a text among texts that are written out -/
theorem gIn_ofs {neg : Bool} (a : String) (l : List String) (m : Me) : gInN neg (.str (Str.ofString a)) (.tup (l.map fun s => .str (Str.ofString s))) m = .ok (.bl (if neg then !(decide (a ∈ l)) else decide (a ∈ l))) m := by
  rw [gInN_nb (xs := l.map fun s => .str (Str.ofString s)) m rfl ⟨by simp [nb], rfl⟩ (fun x h => by obtain ⟨s, _, rfl⟩ := List.mem_map.mp h; exact ⟨by simp [nb], rfl⟩)]
  have e : ((l.map fun s => D.str (Str.ofString s)).any fun x => eqc x (.str (Str.ofString a))) = decide (a ∈ l) := by
    rw [Bool.eq_iff_iff, List.any_eq_true]
    simp only [decide_eq_true_eq]
    constructor
    · rintro ⟨x, hx, h⟩
      obtain ⟨s, hs, rfl⟩ := List.mem_map.mp hx
      have := eqc_iff.mp h
      simp at this; subst this; exact hs
    · intro h
      exact ⟨_, List.mem_map_of_mem h, eqc_self _⟩
  rw [e]
theorem gIn_2 (neg : Bool) (a b c : String) (m : Me) : gInN neg (.str (Str.ofString a)) (.tup [.str (Str.ofString b), .str (Str.ofString c)]) m = .ok (.bl (if neg then !(decide (a = b ∨ a = c)) else decide (a = b ∨ a = c))) m := by
  have := gIn_ofs (neg := neg) a [b, c] m
  simpa using this
theorem gIn_3 (neg : Bool) (a b c d : String) (m : Me) : gInN neg (.str (Str.ofString a)) (.tup [.str (Str.ofString b), .str (Str.ofString c), .str (Str.ofString d)]) m = .ok (.bl (if neg then !(decide (a = b ∨ a = c ∨ a = d)) else decide (a = b ∨ a = c ∨ a = d))) m := by
  have := gIn_ofs (neg := neg) a [b, c, d] m
  simpa using this
theorem gIn_4 (neg : Bool) (a b c d e : String) (m : Me) : gInN neg (.str (Str.ofString a)) (.tup [.str (Str.ofString b), .str (Str.ofString c), .str (Str.ofString d), .str (Str.ofString e)]) m = .ok (.bl (if neg then !(decide (a = b ∨ a = c ∨ a = d ∨ a = e)) else decide (a = b ∨ a = c ∨ a = d ∨ a = e))) m := by
  have := gIn_ofs (neg := neg) a [b, c, d, e] m
  simpa using this
/-- a number among numbers -/
theorem gIn_ints {neg : Bool} {s : D} {l : List Int} (i : Int) (m : Me) (hs : seqV m s = some (l.map .int)) : gInN neg (.int i) s m = .ok (.bl (if neg then !(decide (i ∈ l)) else decide (i ∈ l))) m := by
  rw [gInN_nb m hs ⟨rfl, rfl⟩ (fun x h => by obtain ⟨s, _, rfl⟩ := List.mem_map.mp h; exact ⟨rfl, rfl⟩)]
  have e : ((l.map D.int).any fun x => eqc x (.int i)) = decide (i ∈ l) := by
    rw [Bool.eq_iff_iff, List.any_eq_true]
    simp only [decide_eq_true_eq]
    constructor
    · rintro ⟨x, hx, h⟩
      obtain ⟨s, hs, rfl⟩ := List.mem_map.mp hx
      have := eqc_iff.mp h
      simp at this; subst this; exact hs
    · intro h
      exact ⟨_, List.mem_map_of_mem h, eqc_self _⟩
  rw [e]

/-! ### a thing is alike itself -/
noncomputable def bAlike (F : List D → Me → Res D) : MS :=
  (sSeq (sIf (mB (m1 (gIsi "tuple") (mVar 1))) (sSeq (sIf (mOr (mNot (mB (m1 (gIsi "tuple") (mVar 0)))) (mB (m2 gNe (mArgs gLen (mCons (mVar 0) mNil)) (mArgs gLen (mCons (mVar 1) mNil))))) (sSeq (sRet (mC (.bl false))) sNext) sNext) (sSeq (sRet (m2 gEq (mComp (iRange1 (mCons (mArgs gLen (mCons (mVar 1) mNil)) mNil)) [2] (tgN 2) (mNot (mB (mCall F (mCons (m2 gIx (mVar 0) (mVar 2)) (mCons (m2 gIx (mVar 1) (mVar 2)) mNil))))) (mVar 2)) (mLst mNil))) sNext)) sNext) (sSeq (sIf (mB (m2 gIsN (mVar 1) (mC .non))) (sSeq (sRet (m2 gIsN (mVar 0) (mC .non))) sNext) sNext) (sSeq (sIf (mB (m1 (gIsi "bool") (mVar 1))) (sSeq (sRet (mAndV (m1 (gIsi "bool") (mVar 0)) (m2 gEq (mVar 0) (mVar 1)))) sNext) sNext) (sSeq (sIf (mB (m1 (gIsi "int") (mVar 1))) (sSeq (sRet (mAndV (m1 (gIsi "int") (mVar 0)) (mAndV (mNotV (m1 (gIsi "bool") (mVar 0))) (m2 gEq (mVar 0) (mVar 1))))) sNext) sNext) (sSeq (sRet (mAndV (m1 (gIsi "str") (mVar 0)) (m2 gEq (mVar 0) (mVar 1)))) sNext)))))
mutual
/-- what alike knows: None, truths, numbers, texts, tuples -/
def al : D → Bool
  | .non => true
  | .bl _ => true
  | .int _ => true
  | .str s => PyData.strOk s
  | .tup xs => alL xs && decide (xs.length ≤ 1000000)
  | _ => false
def alL : List D → Bool
  | [] => true
  | x :: xs => al x && alL xs
end
theorem alL_iff {xs : List D} : alL xs = true ↔ ∀ x ∈ xs, al x = true := by
  induction xs with
  | nil => simp [alL]
  | cons a l ih => simp [alL, ih]
theorem isi_non (T : String) (m : Me) : gIsi T .non m = match kitB "NoneType" T with | some b => .ok (.bl b) m | none => .no := rfl
theorem isi_str (T : String) (s : Str) (m : Me) : gIsi T (.str s) m = match kitB "str" T with | some b => .ok (.bl b) m | none => .no := rfl
theorem isi_int (T : String) (i : Int) (m : Me) : gIsi T (.int i) m = match kitB "int" T with | some b => .ok (.bl b) m | none => .no := rfl
theorem isi_bl (T : String) (i : Bool) (m : Me) : gIsi T (.bl i) m = match kitB "bool" T with | some b => .ok (.bl b) m | none => .no := rfl
theorem isi_tup (T : String) (xs : List D) (m : Me) : gIsi T (.tup xs) m = match kitB "tuple" T with | some b => .ok (.bl b) m | none => .no := rfl
theorem ki1 : kitB "NoneType" "tuple" = some false := by decide +kernel
theorem ki2 : kitB "str" "tuple" = some false := by decide +kernel
theorem ki3 : kitB "str" "bool" = some false := by decide +kernel
theorem ki4 : kitB "str" "int" = some false := by decide +kernel
theorem ki5 : kitB "str" "str" = some true := by decide +kernel
theorem ki6 : kitB "int" "tuple" = some false := by decide +kernel
theorem ki7 : kitB "int" "bool" = some false := by decide +kernel
theorem ki8 : kitB "int" "int" = some true := by decide +kernel
theorem ki9 : kitB "tuple" "tuple" = some true := by decide +kernel
theorem ki10 : kitB "bool" "tuple" = some false := by decide +kernel
theorem ki11 : kitB "bool" "bool" = some true := by decide +kernel
theorem ki12 : kitB "tuple" "int" = some false := by decide +kernel
theorem ki13 : kitB "tuple" "str" = some false := by decide +kernel
theorem ki14 : kitB "tuple" "bool" = some false := by decide +kernel
theorem ki15 : kitB "int" "str" = some false := by decide +kernel
theorem ki16 : kitB "NoneType" "str" = some false := by decide +kernel
theorem ki17 : kitB "NoneType" "int" = some false := by decide +kernel
theorem ki18 : kitB "NoneType" "bool" = some false := by decide +kernel
theorem ki19 : kitB "bool" "int" = some true := by decide +kernel
theorem ki20 : kitB "bool" "str" = some false := by decide +kernel
theorem alike_has {A : Nat → List D → Me → Res D} (hA : ∀ n, A (n + 1) = runDef 3 2 (bAlike (A n))) : ∀ (n : Nat) (d : D), al d = true → dpD d < n → ∀ m : Me, A n [d, d] m = .ok (.bl true) m := by
  intro n
  induction n with
  | zero => intro d _ h; omega
  | succ n ih =>
    intro d ha hd m
    rw [hA]
    cases d with
    | non => simp [runDef, bAlike, isi_non, ki1, isN, leave_same]
    | bl b => simp [runDef, bAlike, isi_bl, ki10, ki11, isN, leave_same]
    | int i => simp [runDef, bAlike, isi_int, ki6, ki7, ki8, isN, leave_same]
    | str s =>
      have hs : PyData.strOk s = true := by simpa [al] using ha
      simp [runDef, bAlike, isi_str, ki2, ki3, ki4, ki5, isN, gEq_str _ _ _ hs hs, leave_same]
    | tup xs =>
      simp only [al, Bool.and_eq_true, decide_eq_true_eq] at ha
      obtain ⟨ha, hz⟩ := ha
      rw [alL_iff] at ha
      simp only [dpD] at hd
      have h : ∀ x ∈ xs, A n [x, x] m = .ok (.bl true) m := fun x hx => ih x (ha x hx) (by have := dpL_le.mp (Nat.le_refl _) x hx; omega) m
      have hc := compF_pure (gt := tgN 2) (c := (mNot (mB (mCall (A n) (mCons (m2 gIx (mVar 0) (mVar 2)) (mCons (m2 gIx (mVar 1) (mVar 2)) mNil)))))) (e := mVar 2) (ρ := [some (.tup xs), some (.tup xs), none]) (m := m) (fun _ => false) id (rngL 0 xs.length) fun d hd => by
        obtain ⟨k, hk, rfl⟩ := rng_mem hd
        have hx : gIx (.tup xs) (.int ((0 : Int) + k)) m = .ok xs[k] m := by
          unfold gIx; simp only [view_tup', Int.zero_add]
          rw [atI_nat (List.getElem?_eq_getElem hk)]
        refine ⟨_, rfl, ?_, fun z => by cases z⟩
        have hh := h _ (List.getElem_mem hk)
        simp at hx
        simp [hx, hh]
      have hf : ((rngL 0 xs.length).filter fun _ => false) = [] := List.filter_eq_nil_iff.mpr fun _ _ => by simp
      rw [hf] at hc
      have en : gEq (.lst []) (.lst []) m = .ok (.bl true) m := gEq_lnil m rfl (by simp [dpL])
      simp [runDef, bAlike, isi_tup, ki9, show (xs.length : Int) ≤ 1000000 ∧ (-1000000 : Int) ≤ xs.length by omega, hc, en, leave_same]
    | _ => cases ha
/-! ### loops over what is known -/
theorem for_cons {Q : Fl → Prop} {i : Nat} {body : MS} {d : D} {r : List D} {ρ : En} {m : Me} (h : FHas (kL (fun ρ m => FHas Q (forF (tgN i) body gdY r ρ m)) Q) (body (ρ.set i (some d)) m)) : FHas Q (forF (tgN i) body gdY (d :: r) ρ m) := by
  unfold forF
  simp only [gdY_e, if_true, tgN_e]
  cases e : body (ρ.set i (some d)) m with
  | no => rw [e] at h; exact h.elim
  | exc x ρ m => rw [e] at h; exact h
  | nx ρ2 m2 => rw [e] at h; exact h
  | ct ρ2 m2 => rw [e] at h; exact h
  | bk ρ2 m2 => rw [e] at h; exact h
  | rt d m => rw [e] at h; exact h
theorem for_nil {Q : Fl → Prop} {gt : D → En → Option En} {body : MS} {ρ : En} {m : Me} (h : Q (.nx ρ m)) : FHas Q (forF gt body gdY [] ρ m) := h
theorem rngL_succ (k j : Nat) : rngL k (j + 1) = .int k :: rngL ((k + 1 : Nat) : Int) j := by
  unfold rngL
  rw [List.range_succ_eq_map, List.map_cons, List.map_map]
  simp
  intro a _; omega
theorem rngL_map (n : Nat) : rngL 0 n = (List.range n).map fun (k : Nat) => D.int (k : Int) := by
  unfold rngL; simp
theorem rngL_ints (i : Int) (n : Nat) : rngL i n = ((List.range n).map fun (k : Nat) => i + (k : Int)).map D.int := by
  unfold rngL; rw [List.map_map]; rfl
/-! ### one step more -/
@[simp ↓] theorem mIndex_h {Q : Res _ → Prop} (fo fe : ME) (ρ : En) (m : Me) : RHas Q (mIndex fo fe ρ m) = RHas Q ((fo ρ m).bind fun d m => if isSeq m d = true then (fe ρ m).bind fun y m => gIndex d y m else .no) := rfl
@[simp ↓] theorem mTupRg_h {Q : Res _ → Prop} (g : En → Me → Res (Int × Int)) (ρ : En) (m : Me) : RHas Q (mTupRg g ρ m) = RHas Q ((g ρ m).bind fun p m => if (p.1 ≤ 1000000 ∧ -1000000 ≤ p.1) ∧ p.2 ≤ 1000000 ∧ -1000000 ≤ p.2 then .ok (.tup (rngL p.1 (p.2 - p.1).toNat)) m else .no) := rfl
@[simp ↓] theorem mLstRg_h {Q : Res _ → Prop} (g : En → Me → Res (Int × Int)) (ρ : En) (m : Me) : RHas Q (mLstRg g ρ m) = RHas Q ((g ρ m).bind fun p m => if (p.1 ≤ 1000000 ∧ -1000000 ≤ p.1) ∧ p.2 ≤ 1000000 ∧ -1000000 ≤ p.2 then .ok (.lst (rngL p.1 (p.2 - p.1).toNat)) m else .no) := rfl
@[simp ↓] theorem mRg1_h {Q : Res _ → Prop} (fa : ME) (ρ : En) (m : Me) : RHas Q (mRg1 fa ρ m) = RHas Q ((fa ρ m).bind fun d m => match d with
  | .int j => .ok (0, j) m
  | _ => .no) := rfl
@[simp ↓] theorem mRg2_h {Q : Res _ → Prop} (fa fb : ME) (ρ : En) (m : Me) : RHas Q (mRg2 fa fb ρ m) = RHas Q ((fa ρ m).bind fun d m => (fb ρ m).bind fun d' m => match d, d' with
  | .int i, .int j => .ok (i, j) m
  | _, _ => .no) := rfl
/-- where a number stands among numbers -/
theorem gIndex_ints {s : D} {l : List Int} {i : Int} {j : Nat} (m : Me) (hs : seqV m s = some (l.map .int)) (h : l[j]? = some i) (hn : ∀ k < j, l[k]? ≠ some i) : gIndex s (.int i) m = .ok (.int (j : Int)) m := by
  have key : ∀ (l : List Int) (j : Nat), l[j]? = some i → (∀ k < j, l[k]? ≠ some i) → idxD (.int i) (l.map .int) = some j := by
    intro l
    induction l with
    | nil => intro j h _; simp at h
    | cons a l ih =>
      intro j h hn
      cases j with
      | zero => simp at h; subst h; simp [idxD, eqF]
      | succ j =>
        have h0 := hn 0 (by omega)
        simp at h h0
        rw [List.map_cons, idxD, if_neg (by simp [eqF, h0]), ih j h (fun k hk => by have := hn (k + 1) (by omega); simpa using this)]
        rfl
  unfold gIndex
  rw [hs]
  simp only
  rw [if_pos ⟨rfl, by simp [flatD]⟩, key l j h hn]
/-! ### items and slices that are written out -/
section
variable (a b c d y : D) (xs ys : List D) (m : Me)
@[simp ↓, simp] theorem gIx_t0 : gIx (.tup (a :: xs)) (.int 0) m = .ok a m := by
  unfold gIx; simp only [view_tup']; rw [show (0 : Int) = ((0 : Nat) : Int) from rfl, atI_nat rfl]
@[simp ↓, simp] theorem gIx_t1 : gIx (.tup (a :: b :: xs)) (.int 1) m = .ok b m := by
  unfold gIx; simp only [view_tup']; rw [show (1 : Int) = ((1 : Nat) : Int) from rfl, atI_nat rfl]
@[simp ↓, simp] theorem gIx_t2 : gIx (.tup (a :: b :: c :: xs)) (.int 2) m = .ok c m := by
  unfold gIx; simp only [view_tup']; rw [show (2 : Int) = ((2 : Nat) : Int) from rfl, atI_nat rfl]
@[simp ↓, simp] theorem gIx_t3 : gIx (.tup (a :: b :: c :: d :: xs)) (.int 3) m = .ok d m := by
  unfold gIx; simp only [view_tup']; rw [show (3 : Int) = ((3 : Nat) : Int) from rfl, atI_nat rfl]
@[simp ↓, simp] theorem gIx_l0 : gIx (.lst (a :: xs)) (.int 0) m = .ok a m := by
  unfold gIx; simp only [view_lst']; rw [show (0 : Int) = ((0 : Nat) : Int) from rfl, atI_nat rfl]
@[simp ↓, simp] theorem gIx_l1 : gIx (.lst (a :: b :: xs)) (.int 1) m = .ok b m := by
  unfold gIx; simp only [view_lst']; rw [show (1 : Int) = ((1 : Nat) : Int) from rfl, atI_nat rfl]
@[simp ↓, simp] theorem gIx_l2 : gIx (.lst (a :: b :: c :: xs)) (.int 2) m = .ok c m := by
  unfold gIx; simp only [view_lst']; rw [show (2 : Int) = ((2 : Nat) : Int) from rfl, atI_nat rfl]
theorem atI_last {α : Type} {xs : List α} {y : α} : atI (xs ++ [y]) (-1) = some y := by
  have e : ixN (xs ++ [y]).length (-1) = some xs.length := by
    unfold ixN
    rw [if_neg (by decide), if_pos (by simp; omega)]
    simp; omega
  unfold atI
  rw [e]; simp
theorem gIx_tlast : gIx (.tup (xs ++ [y])) (.int (-1)) m = .ok y m := by
  unfold gIx; simp only [view_tup']; rw [atI_last]
theorem gIx_llast : gIx (.lst (xs ++ [y])) (.int (-1)) m = .ok y m := by
  unfold gIx; simp only [view_lst']; rw [atI_last]
@[simp ↓, simp] theorem gIx_m1 : gIx (.tup [a]) (.int (-1)) m = .ok a m := gIx_tlast a [] m
@[simp ↓, simp] theorem gIx_m2 : gIx (.tup [a, b]) (.int (-1)) m = .ok b m := gIx_tlast b [a] m
@[simp ↓, simp] theorem gIx_m3 : gIx (.tup [a, b, c]) (.int (-1)) m = .ok c m := gIx_tlast c [a, b] m
@[simp ↓, simp] theorem gIx_m4 : gIx (.tup [a, b, c, d]) (.int (-1)) m = .ok d m := gIx_tlast d [a, b, c] m
theorem cut_1 {α : Type} {a : α} {xs : List α} : FL.cutD (a :: xs) (some 1) none = xs := by
  unfold FL.cutD
  rw [HT.sIx_none, show (some (1 : Int)) = some ((1 : Nat) : Int) from rfl, HT.sIx_nat]
  simp
theorem cut_2 {α : Type} {a b : α} {xs : List α} : FL.cutD (a :: b :: xs) (some 2) none = xs := by
  unfold FL.cutD
  rw [HT.sIx_none, show (some (2 : Int)) = some ((2 : Nat) : Int) from rfl, HT.sIx_nat]
  simp
theorem cut_to {α : Type} {xs ys : List α} {k : Nat} (h : xs.length = k) : FL.cutD (xs ++ ys) none (some (k : Int)) = xs := by
  unfold FL.cutD
  rw [HT.sIx_none, HT.sIx_nat]
  simp; subst h; simp
theorem cut_last {α : Type} {xs : List α} {y : α} : FL.cutD (xs ++ [y]) none (some (-1)) = xs := by
  unfold FL.cutD
  rw [HT.sIx_none]
  unfold HT.sIx
  simp
  rw [show (-1 + ((xs.length : Int) + 1)).toNat = xs.length by omega]; simp
@[simp ↓, simp] theorem gSl_t1 : gSl (.tup (a :: xs)) (some 1) none m = .ok (.tup xs) m := by unfold gSl; simp only [view_tup', cut_1]
@[simp ↓, simp] theorem gSl_l1 : gSl (.lst (a :: xs)) (some 1) none m = .ok (.lst xs) m := by unfold gSl; simp only [view_lst', cut_1]
@[simp ↓, simp] theorem gSl_t2 : gSl (.tup (a :: b :: xs)) (some 2) none m = .ok (.tup xs) m := by unfold gSl; simp only [view_tup', cut_2]
@[simp ↓, simp] theorem gSl_to2 : gSl (.tup (a :: b :: xs)) none (some 2) m = .ok (.tup [a, b]) m := by
  unfold gSl; simp only [view_tup']; rw [show a :: b :: xs = [a, b] ++ xs from rfl, show (2 : Int) = ((2 : Nat) : Int) from rfl, cut_to (k := 2) rfl]
@[simp ↓, simp] theorem gSl_to3 : gSl (.tup (a :: b :: c :: xs)) none (some 3) m = .ok (.tup [a, b, c]) m := by
  unfold gSl; simp only [view_tup']; rw [show a :: b :: c :: xs = [a, b, c] ++ xs from rfl, show (3 : Int) = ((3 : Nat) : Int) from rfl, cut_to (k := 3) rfl]
@[simp ↓, simp] theorem gSl_llast : gSl (.lst (xs ++ [y])) none (some (-1)) m = .ok (.lst xs) m := by unfold gSl; simp only [view_lst', cut_last]
@[simp ↓, simp] theorem gList_tup : gList [.tup xs] m = .ok (.lst xs) m := rfl
@[simp ↓, simp] theorem gList_lst : gList [.lst xs] m = .ok (.lst xs) m := rfl
@[simp ↓, simp] theorem gAdd_lst : gAdd (.lst xs) (.lst ys) m = if xs.length + ys.length ≤ 16777216 then .ok (.lst (xs ++ ys)) m else .no := by unfold gAdd; simp only [view_lst', sizeLine_eq]
@[simp ↓, simp] theorem gAdd_tup : gAdd (.tup xs) (.tup ys) m = if xs.length + ys.length ≤ 16777216 then .ok (.tup (xs ++ ys)) m else .no := by unfold gAdd; simp only [view_tup', sizeLine_eq]
end
end FL

set_option maxRecDepth 100000
namespace FL
open PySem PySem.Spec PyProof.Rows L2

/-! ### one step: instances, tuple keys, chains -/
@[simp ↓] theorem mFld_h {Q : Res _ → Prop} (C : Addr) (x : Str) (fo : ME) (ρ : En) (m : Me) : RHas Q (mFld C x fo ρ m) = RHas Q ((fo ρ m).bind fun d m => match d with
  | .ref i => match m[i]? with
    | some (.ins C' fs) => if C' = C then match fs.lookup x with
      | some d => .ok d m
      | none => .no
      else .no
    | _ => .no
  | _ => .no) := rfl
@[simp ↓] theorem sFldD_h {Q : Fl → Prop} (C : Addr) (x : Str) (fo fv : ME) (ρ : En) (m : Me) : FHas Q (sFldD C x fo fv ρ m) = FHas Q (bindS (fv ρ m) ρ fun y m => bindS (fo ρ m) ρ fun d m => match d with
  | .ref i => match m[i]? with
    | some (.ins C' fs) => if C' = C ∧ fs.length < 1000 then .nx ρ (m.set i (.ins C (putA x y fs))) else .no
    | _ => .no
  | _ => .no) := rfl
@[simp ↓] theorem mMeth_h {Q : Res _ → Prop} (C : Addr) (x : Str) (F : List D → Me → Res D) (fo : ME) (fa : MA) (ρ : En) (m : Me) : RHas Q (mMeth C x F fo fa ρ m) = RHas Q ((fo ρ m).bind fun d m => match d with
  | .ref i => match m[i]? with
    | some (.ins C' fs) => if C' = C ∧ fs.lookup x = none then (fa ρ m).bind fun ds m => noX (F (.ref i :: ds) m) else .no
    | _ => .no
  | _ => .no) := rfl
@[simp ↓] theorem mDgetT_h {Q : Res _ → Prop} (fo : ME) (fa : MA) (ρ : En) (m : Me) : RHas Q (mDgetT fo fa ρ m) = RHas Q ((fo ρ m).bind fun d m => (fa ρ m).bind fun ks m => match lookT m d ks with
  | some (some y) => .ok y m
  | _ => .no) := rfl
@[simp ↓] theorem mDinT_h {Q : Res _ → Prop} (neg : Bool) (fa : MA) (fo : ME) (ρ : En) (m : Me) : RHas Q (mDinT neg fa fo ρ m) = RHas Q ((fa ρ m).bind fun ks m => (fo ρ m).bind fun d m => match lookT m d ks with
  | some o => .ok (.bl (if neg then !o.isSome else o.isSome)) m
  | none => .no) := rfl
@[simp ↓] theorem sDputT_h {Q : Fl → Prop} (fo : ME) (fa : MA) (fv : ME) (ρ : En) (m : Me) : FHas Q (sDputT fo fa fv ρ m) = FHas Q (bindS (fv ρ m) ρ fun y m => bindS (fo ρ m) ρ fun d m => bindS (fa ρ m) ρ fun ks m => match dputT m d ks y with
  | some m' => .nx ρ m'
  | none => .no) := rfl
@[simp ↓] theorem mNewT_h {Q : Res _ → Prop} (ρ : En) (m : Me) : RHas Q (mNewT ρ m) = RHas Q (.ok (.ref m.length) (m ++ [.dT []])) := rfl
@[simp ↓] theorem mChain_h {Q : Res _ → Prop} (g g' : D → D → Me → Res D) (fa fb fc : ME) (ρ : En) (m : Me) : RHas Q (mChain g g' fa fb fc ρ m) = RHas Q ((fa ρ m).bind fun d m => (fb ρ m).bind fun d' m => (g d d' m).bind fun z m => match z with
  | .bl true => (fc ρ m).bind fun d'' m => g' d' d'' m
  | .bl false => .ok (.bl false) m
  | _ => .no) := rfl
@[simp ↓] theorem mPop_h {Q : Res _ → Prop} (fo : ME) (ρ : En) (m : Me) : RHas Q (mPop fo ρ m) = RHas Q ((fo ρ m).bind fun d m => match d with
  | .ref i => match m[i]? with
    | some (.lst xs) => match xs[xs.length - 1]? with
      | some y => .ok y (m.set i (.lst xs.dropLast))
      | none => .no
    | _ => .no
  | _ => .no) := rfl
@[simp ↓] theorem mRemove_h {Q : Res _ → Prop} (fo fe : ME) (ρ : En) (m : Me) : RHas Q (mRemove fo fe ρ m) = RHas Q ((fo ρ m).bind fun d m => match d with
  | .ref i => match m[i]? with
    | some (.lst _) => (fe ρ m).bind fun y m => match y with
      | .int k => match m[i]? with
        | some (.lst xs) => match intsD xs with
          | some ns => match idxI k ns with
            | some j => .ok .non (m.set i (.lst ((ns.eraseIdx j).map .int)))
            | none => .no
          | none => .no
        | _ => .no
      | _ => .no
    | _ => .no
  | _ => .no) := rfl
@[simp ↓] theorem mCount_h {Q : Res _ → Prop} (fo fe : ME) (ρ : En) (m : Me) : RHas Q (mCount fo fe ρ m) = RHas Q ((fo ρ m).bind fun d m => match lstV m d with
  | some _ => (fe ρ m).bind fun y m => match y, (lstV m d).bind intsD with
    | .int k, some ns => .ok (.int (ns.count k : Nat)) m
    | _, _ => .no
  | none => .no) := rfl
@[simp ↓] theorem mkC_h {Q : Res _ → Prop} (C : Addr) (F : List D → Me → Res D) (ds : List D) (m : Me) : RHas Q (mkC C F ds m) = RHas Q ((F (.ref m.length :: ds) (m ++ [.ins C []])).bind fun d m' => match d with
  | .non => .ok (.ref m.length) m'
  | _ => .no) := rfl
/-- .. a def that keeps what it made -/
def kK (Q : Res D → Prop) : Fl → Prop := fun
  | .nx _ m' => Q (.ok .non m')
  | .rt d m' => Q (.ok d m')
  | _ => False
@[simp ↓, simp] theorem kK_nx {Q : Res D → Prop} {ρ : En} {m : Me} : kK Q (.nx ρ m) = Q (.ok .non m) := rfl
@[simp ↓, simp] theorem kK_rt {Q : Res D → Prop} {d : D} {m : Me} : kK Q (.rt d m) = Q (.ok d m) := rfl
theorem has_defK {Q : Res D → Prop} {N n : Nat} {f : MS} {ds : List D} {m : Me} (ρ : En) (h : FHas (kK Q) (f ρ m)) (e : ds.map some ++ List.replicate (N - n) none = ρ := by rfl) : RHas Q (runDefK N n f ds m) := by
  unfold runDefK
  rw [e]
  cases q : f ρ m with
  | no => rw [q] at h; exact h.elim
  | exc x ρ m => rw [q] at h; exact h.elim
  | bk ρ m => rw [q] at h; exact h.elim
  | ct ρ m => rw [q] at h; exact h.elim
  | nx ρ m => rw [q] at h; exact h
  | rt d m => rw [q] at h; exact h
end FL

set_option maxRecDepth 100000
namespace FL
open PySem PySem.Spec PyProof.Rows L2

/-! ### one step: exceptions -/
@[simp ↓] theorem mCallX_h {Q : Res _ → Prop} (F : List D → Me → Res D) (fa : MA) (ρ : En) (m : Me) : RHas Q (mCallX F fa ρ m) = RHas Q ((fa ρ m).bind F) := rfl
@[simp ↓] theorem mMethX_h {Q : Res _ → Prop} (C : Addr) (x : Str) (F : List D → Me → Res D) (fo : ME) (fa : MA) (ρ : En) (m : Me) : RHas Q (mMethX C x F fo fa ρ m) = RHas Q ((fo ρ m).bind fun d m => match d with
  | .ref i => match m[i]? with
    | some (.ins C' fs) => if C' = C ∧ fs.lookup x = none then (fa ρ m).bind fun ds m => F (.ref i :: ds) m else .no
    | _ => .no
  | _ => .no) := rfl
@[simp ↓] theorem sRaise_h {Q : Fl → Prop} (F : List D → Me → Res D) (fa : MA) (ρ : En) (m : Me) : FHas Q (sRaise F fa ρ m) = FHas Q (match F [] m with
  | .ok _ _ => bindS ((fa ρ m).bind F) ρ fun _ _ => .no
  | _ => .no) := rfl
@[simp ↓] theorem mXF_h {Q : Res _ → Prop} (n : Str) (x : Exn) (ρ : En) (m : Me) : RHas Q (mXF n x ρ m) = RHas Q (match x.fs.lookup n with
  | some y => .ok y m
  | none => .no) := rfl
@[simp ↓] theorem mXI_h {Q : Res _ → Prop} (x : Exn) (ρ : En) (m : Me) : RHas Q (mXI x ρ m) = RHas Q (if x.fs.isEmpty = true then .no else .ok (.bl true) m) := rfl
@[simp] theorem rsF_nil (C : Addr) (np : Nat) (okD : List D → Bool) (flD : List D → List (Str × D)) (n : Nat) (m : Me) : rsF C np okD flD (n + 3) [] m = .ok .non m := rfl
theorem rsF_cons (C : Addr) (np : Nat) (okD : List D → Bool) (flD : List D → List (Str × D)) (n : Nat) (d : D) (ds : List D) (m : Me) (h : (d :: ds).length = np) (ho : okD (d :: ds) = true) : rsF C np okD flD (n + 3) (d :: ds) m = .exc ⟨.ref C, flD (d :: ds)⟩ m := by
  have e : rsF C np okD flD (n + 3) (d :: ds) m = if (d :: ds).isEmpty = true then .ok .non m else if (d :: ds).length = np ∧ okD (d :: ds) = true then .exc ⟨.ref C, flD (d :: ds)⟩ m else .no := rfl
  rw [e, if_neg (by simp), if_pos ⟨h, ho⟩]
theorem leaveX_same {m m' : Me} {x : Exn} (h : m'.length = m.length) : leaveX m x m' = .exc x m' := by unfold leaveX; rw [if_pos h]
/-- a def that may raise -/
def kDX (m : Me) (Q : Res D → Prop) : Fl → Prop := fun
  | .rt d m' => RHas Q (leave m d m')
  | .nx _ m' => RHas Q (leave m .non m')
  | .exc x _ m' => RHas Q (leaveX m x m')
  | _ => False
@[simp ↓, simp] theorem kDX_rt {m m' : Me} {Q : Res D → Prop} {d : D} : kDX m Q (.rt d m') = RHas Q (leave m d m') := rfl
@[simp ↓, simp] theorem kDX_nx {m m' : Me} {Q : Res D → Prop} {ρ : En} : kDX m Q (.nx ρ m') = RHas Q (leave m .non m') := rfl
@[simp ↓, simp] theorem kDX_exc {m m' : Me} {Q : Res D → Prop} {ρ : En} {x : Exn} : kDX m Q (.exc x ρ m') = RHas Q (leaveX m x m') := rfl
theorem has_defX {Q : Res D → Prop} {N n : Nat} {f : MS} {ds : List D} {m : Me} (ρ : En) (h : FHas (kDX m Q) (f ρ m)) (e : ds.map some ++ List.replicate (N - n) none = ρ := by rfl) : RHas Q (runDefX N n f ds m) := by
  unfold runDefX
  rw [e]
  cases q : f ρ m with
  | no => rw [q] at h; exact h.elim
  | exc x ρ m => rw [q] at h; exact h
  | bk ρ m => rw [q] at h; exact h.elim
  | ct ρ m => rw [q] at h; exact h.elim
  | nx ρ m => rw [q] at h; exact h
  | rt d m => rw [q] at h; exact h
/-- just this result -/
theorem has_is {α : Type} {r0 r : Res α} (h : RHas (fun x => x = r0) r) : r = r0 := by
  cases r with
  | no => exact h.elim
  | exc x m => exact h
  | ok a m => exact h
theorem is_has {α : Type} {Q : Res α → Prop} {r0 r : Res α} (e : r = r0) (h : RHas Q r0) : RHas Q r := by rw [e]; exact h
/-- try: the suite hands something back -/
def kTr (i : Nat) (C : Addr) (hnd : Exn → MS) (Q : Fl → Prop) : Fl → Prop := fun
  | .exc x ρ' m' => (x.cls = .ref C ∧ i < ρ'.length) ∧ ∃ d m, hnd x (ρ'.set i none) m' = .rt d m ∧ Q (.rt d m)
  | .no => False
  | r => Q r
theorem try_has {i : Nat} {C : Addr} {body : MS} {hnd : Exn → MS} {Q : Fl → Prop} {ρ : En} {m : Me} (h : FHas (kTr i C hnd Q) (body ρ m)) : FHas Q (sTryAs i C body hnd ρ m) := by
  unfold sTryAs
  cases e : body ρ m with
  | no => rw [e] at h; exact h.elim
  | nx ρ m => rw [e] at h; exact h
  | rt d m => rw [e] at h; exact h
  | bk ρ m => rw [e] at h; exact h
  | ct ρ m => rw [e] at h; exact h
  | exc x ρ' m' =>
    rw [e] at h
    obtain ⟨h1, d, m2, h2, h3⟩ := h
    simp only
    rw [if_pos h1, h2]
    exact h3
/-! ### a thing is equal to itself -/
noncomputable def bEqual (F : List D → Me → Res D) : MS :=
  (sSeq (sIf (mB (m1 (gIsi "tuple") (mVar 1))) (sSeq (sIf (mOr (mNot (mB (m1 (gIsi "tuple") (mVar 0)))) (mB (m2 gNe (mArgs gLen (mCons (mVar 0) mNil)) (mArgs gLen (mCons (mVar 1) mNil))))) (sSeq (sRet (mC (.bl false))) sNext) sNext) (sSeq (sRet (m2 gEq (mComp (iRange1 (mCons (mArgs gLen (mCons (mVar 1) mNil)) mNil)) [2] (tgN 2) (mNot (mB (mCall F (mCons (m2 gIx (mVar 0) (mVar 2)) (mCons (m2 gIx (mVar 1) (mVar 2)) mNil))))) (mVar 2)) (mLst mNil))) sNext)) sNext) (sSeq (sIf (mB (m2 gIsN (mVar 1) (mC .non))) (sSeq (sRet (m2 gIsN (mVar 0) (mC .non))) sNext) sNext) (sSeq (sIf (mB (m1 (gIsi "str") (mVar 1))) (sSeq (sRet (mAndV (m1 (gIsi "str") (mVar 0)) (m2 gEq (mVar 0) (mVar 1)))) sNext) sNext) (sSeq (sRet (mAndV (m1 (gIsi "int") (mVar 0)) (mAndV (m2 gEq (m1 (gIsi "bool") (mVar 0)) (m1 (gIsi "bool") (mVar 1))) (m2 gEq (mVar 0) (mVar 1))))) sNext))))
theorem equal_has {A : Nat → List D → Me → Res D} (hA : ∀ n, A (n + 1) = runDef 3 2 (bEqual (A n))) : ∀ (n : Nat) (d : D), al d = true → dpD d < n → ∀ m : Me, A n [d, d] m = .ok (.bl true) m := by
  intro n
  induction n with
  | zero => intro d _ h; omega
  | succ n ih =>
    intro d ha hd m
    rw [hA]
    cases d with
    | non => simp [runDef, bEqual, isi_non, ki1, isN, leave_same]
    | bl b =>
      have h1 : gIsi "int" (.bl b) m = .ok (.bl true) m := by rw [isi_bl, ki19]
      have h2 : gIsi "str" (.bl b) m = .ok (.bl false) m := by rw [isi_bl, ki20]
      simp [runDef, bEqual, isi_bl, ki10, ki11, h1, h2, isN, leave_same]
    | int i => simp [runDef, bEqual, isi_int, ki6, ki7, ki8, ki15, isN, leave_same]
    | str s =>
      have hs : PyData.strOk s = true := by simpa [al] using ha
      simp [runDef, bEqual, isi_str, ki2, ki3, ki4, ki5, isN, gEq_str _ _ _ hs hs, leave_same]
    | tup xs =>
      simp only [al, Bool.and_eq_true, decide_eq_true_eq] at ha
      obtain ⟨ha, hz⟩ := ha
      rw [alL_iff] at ha
      simp only [dpD] at hd
      have h : ∀ x ∈ xs, A n [x, x] m = .ok (.bl true) m := fun x hx => ih x (ha x hx) (by have := dpL_le.mp (Nat.le_refl _) x hx; omega) m
      have hc := compF_pure (gt := tgN 2) (c := (mNot (mB (mCall (A n) (mCons (m2 gIx (mVar 0) (mVar 2)) (mCons (m2 gIx (mVar 1) (mVar 2)) mNil)))))) (e := mVar 2) (ρ := [some (.tup xs), some (.tup xs), none]) (m := m) (fun _ => false) id (rngL 0 xs.length) fun d hd => by
        obtain ⟨k, hk, rfl⟩ := rng_mem hd
        have hx : gIx (.tup xs) (.int ((0 : Int) + k)) m = .ok xs[k] m := by
          unfold gIx; simp only [view_tup', Int.zero_add]
          rw [atI_nat (List.getElem?_eq_getElem hk)]
        refine ⟨_, rfl, ?_, fun z => by cases z⟩
        have hh := h _ (List.getElem_mem hk)
        simp at hx
        simp [hx, hh]
      have hf : ((rngL 0 xs.length).filter fun _ => false) = [] := List.filter_eq_nil_iff.mpr fun _ _ => by simp
      rw [hf] at hc
      have en : gEq (.lst []) (.lst []) m = .ok (.bl true) m := gEq_lnil m rfl (by simp [dpL])
      simp [runDef, bEqual, isi_tup, ki9, show (xs.length : Int) ≤ 1000000 ∧ (-1000000 : Int) ≤ xs.length by omega, hc, en, leave_same]
    | _ => cases ha
/-! ### draws beside things that refer to one another -/
structure Wn (i : Nat) (ds : List Int) (m : Me) : Prop where
  w : ∃ k : Int, 0 ≤ k ∧ m[i]? = some (WX ds k [])
def Dn (i : Nat) (ds : List Int) (m m' : Me) : Prop := ∃ k : Int, 0 ≤ k ∧ m' = m.set i (WX ds k [])
theorem ex0' : ExOk [] := ⟨by simp, by simp, fun _ => rfl⟩
section
variable {i : Nat} {ds : List Int} {m m' m'' c : Me}
theorem Wn.lt (h : Wn i ds m) : i < m.length := by obtain ⟨k, _, e⟩ := h.w; exact (List.getElem?_eq_some_iff.mp e).1
theorem Wn.ev (h : Wn i ds m) (e : Dn i ds m m') : Wn i ds m' := by
  obtain ⟨k, h0, rfl⟩ := e
  exact ⟨⟨k, h0, List.getElem?_set_self h.lt⟩⟩
theorem Wn.app (h : Wn i ds m) : Wn i ds (m ++ c) := by
  obtain ⟨k, h0, e⟩ := h.w
  exact ⟨⟨k, h0, by rw [List.getElem?_append_left (List.getElem?_eq_some_iff.mp e).1]; exact e⟩⟩
theorem Dn.refl (h : Wn i ds m) : Dn i ds m m := by
  obtain ⟨k, h0, e⟩ := h.w
  refine ⟨k, h0, ?_⟩
  obtain ⟨hi, e⟩ := List.getElem?_eq_some_iff.mp e
  rw [← e, List.set_getElem_self]
theorem Dn.trans (h : Dn i ds m m') (h' : Dn i ds m' m'') : Dn i ds m m'' := by
  obtain ⟨k, h0, rfl⟩ := h
  obtain ⟨k', h0', rfl⟩ := h'
  exact ⟨k', h0', by rw [List.set_set]⟩
theorem Dn.len (h : Dn i ds m m') : m'.length = m.length := by obtain ⟨k, _, rfl⟩ := h; simp
theorem Dn.get (h : Dn i ds m m') {j : Nat} (hj : i ≠ j) : m'[j]? = m[j]? := by obtain ⟨k, _, rfl⟩ := h; rw [List.getElem?_set_ne hj]
theorem nextN_has {F : List D → Me → Res D} {f : Nat → List D → Me → Res D} (h : Wn i ds m) (hF : F = runDef 2 2 (bNext f)) {a : Int} (ha : 0 < a) :
    RHas (OkR fun d m' => ∃ v : Nat, (v : Int) < a ∧ d = .int v ∧ Dn i ds m m') (F [.ref i, .int a] m) := by
  subst hF
  obtain ⟨k, hk, e⟩ := h.w
  have hi := h.lt
  have hp : dput m (.ref i) (.str "at") (.int (k + 1)) = some (m.set i (WX ds (k + 1) [])) := by
    unfold dput; simp only [keyD, e]; rw [WX]; simp only; rw [if_pos (by simp), setK_at ex0']; rfl
  have h' : (m.set i (WX ds (k + 1) []))[i]? = some (WX ds (k + 1) []) := List.getElem?_set_self hi
  have hl : (m.set i (WX ds (k + 1) [])).length = m.length := List.length_set ..
  by_cases hc : (ds.length : Int) < k + 1
  · refine eq_has (a := .int 0) (m := m.set i (WX ds (k + 1) [])) ?_ ⟨_, _, rfl, 0, ha, rfl, k + 1, by omega, rfl⟩
    simp [runDef, bNext, look_atX e, hp, gDget, look_atX h', look_drawsX h', hc, leave_same hl]
  · have hlt : k.toNat < ds.length := by omega
    have e1 : atI (ds.map D.int) k = some (.int (ds[k.toNat])) := by
      have q : atI (ds.map D.int) ((k.toNat : Nat) : Int) = some (.int (ds[k.toNat])) := atI_nat (by rw [List.getElem?_map]; simp [hlt])
      rwa [show ((k.toNat : Nat) : Int) = k by omega] at q
    have h0 := Int.emod_nonneg ds[k.toNat] (b := a) (by omega)
    refine eq_has (a := .int (ds[k.toNat] % a)) (m := m.set i (WX ds (k + 1) [])) ?_ ⟨_, _, rfl, (ds[k.toNat] % a).toNat, by rw [Int.toNat_of_nonneg h0]; exact Int.emod_lt_of_pos _ ha, by rw [Int.toNat_of_nonneg h0], k + 1, by omega, rfl⟩
    simp [runDef, bNext, look_atX e, hp, gDget, look_atX h', look_drawsX h', hc, leave_same hl, gIx, e1, gMod_int ha]
theorem pickN_has {F : List D → Me → Res D} {f g : Nat → List D → Me → Res D} {j : Nat} (h : Wn i ds m) (hF : F = runDef 2 2 (bPick j f)) (hN : f j = runDef 2 2 (bNext g)) {xs : List D} (hx : xs ≠ []) :
    RHas (OkR fun d m' => d ∈ xs ∧ Dn i ds m m') (F [.ref i, .lst xs] m) := by
  subst hF
  have hpos : 0 < xs.length := List.length_pos_iff.mpr hx
  obtain ⟨d, m', e, v, hv, rfl, ev⟩ := (nextN_has h hN (a := (xs.length : Int)) (by omega)).ex
  have hv' : v < xs.length := by omega
  refine eq_has (a := xs[v]) (m := m') ?_ ⟨_, _, rfl, List.getElem_mem hv', ev⟩
  have e1 : atI xs (v : Int) = some xs[v] := atI_nat (List.getElem?_eq_getElem hv')
  simp [runDef, bPick, e, gIx, e1, leave_same ev.len]
end
/-! ### comprehensions -/
theorem comp_mapG {α : Type} {gt : D → En → Option En} {c : MT} {e : ME} {gd : Me → Bool} {ρ : En} {m : Me} {Q : Res (List D) → Prop} {xs : List α} {g : α → D} (p : α → Bool) (f : α → D) (hg : gd m = true)
    (h : ∀ x ∈ xs, ∃ ρ1, gt (g x) ρ = some ρ1 ∧ c ρ1 m = .ok (p x) m ∧ (p x = true → e ρ1 m = .ok (f x) m)) (q : Q (.ok ((xs.filter p).map f) m)) : RHas Q (compF gt c e gd ρ (xs.map g) m) := by
  refine comp_has (fun rest ys m' => ∃ us rs : List α, xs = us ++ rs ∧ rest = rs.map g ∧ ys = (us.filter p).map f ∧ m' = m) ?_ ?_ ⟨[], xs, rfl, rfl, rfl, rfl⟩
  · rintro d r ys m' ⟨us, rs, e1, e2, rfl, rfl⟩
    cases rs with
    | nil => simp at e2
    | cons x rs =>
      simp only [List.map_cons, List.cons.injEq] at e2
      obtain ⟨rfl, rfl⟩ := e2
      obtain ⟨ρ1, h1, h2, h3⟩ := h x (by rw [e1]; simp)
      refine ⟨hg, ρ1, h1, ?_⟩
      rw [h2]
      cases hp : p x with
      | true =>
        have h3 := h3 hp
        simp only [rhas_ok, kC_ok, if_true]
        rw [h3]
        simp only [noX_ok, rhas_ok, kE_ok]
        exact ⟨us ++ [x], rs, by rw [e1]; simp, rfl, by rw [List.filter_append, List.map_append]; simp [hp], by simp⟩
      | false =>
        simp only [rhas_ok, kC_ok, Bool.false_eq_true, if_false]
        exact ⟨us ++ [x], rs, by rw [e1]; simp, rfl, by rw [List.filter_append, List.map_append]; simp [hp], by simp⟩
  · rintro ys m' ⟨us, rs, e1, e2, rfl, rfl⟩
    have : rs = [] := by simpa using e2.symm
    subst this
    rw [List.append_nil] at e1
    subst e1
    exact ⟨hg, q⟩
theorem maxI_of {l : List Int} {k : Int} (h1 : k ∈ l) (h2 : ∀ x ∈ l, x ≤ k) : maxI l = some k := by
  have key : ∀ (r : List Int) (a : Int), r.foldl max a ∈ a :: r ∧ ∀ x ∈ a :: r, x ≤ r.foldl max a := by
    intro r
    induction r with
    | nil => intro a; simp
    | cons b r ih =>
      intro a
      obtain ⟨i1, i2⟩ := ih (max a b)
      simp only [List.foldl_cons]
      refine ⟨?_, fun x hx => ?_⟩
      · rcases List.mem_cons.mp i1 with h | h
        · rw [h]
          rcases Int.le_total a b with q | q
          · rw [Int.max_eq_right q]; simp
          · rw [Int.max_eq_left q]; simp
        · simp [h]
      · have hm := i2 (max a b) (by simp)
        rcases List.mem_cons.mp hx with rfl | hx
        · have := Int.le_max_left x b; omega
        · rcases List.mem_cons.mp hx with rfl | hx
          · have := Int.le_max_right a x; omega
          · exact i2 x (by simp [hx])
  cases l with
  | nil => cases h1
  | cons a r =>
    obtain ⟨i1, i2⟩ := key r a
    have e : r.foldl max a = k := by
      have := h2 _ i1
      have := i2 k h1
      omega
    have ef : (fun x y : Int => if y > x then y else x) = max := by
      funext x y
      rw [Int.max_def]
      split <;> split <;> omega
    unfold maxI
    simp only [ef, e]
theorem gdL_ok {i : Nat} {ds : List D} {m : Me} (h : m[i]? = some (.lst ds)) : gdL i ds m = true := by unfold gdL; simp [h]
theorem asIt_ref {i : Nat} {ds : List D} {m : Me} (h : m[i]? = some (.lst ds)) : asIt (.ref i) m = .ok (ds, gdL i ds) m := by simp only [asIt, h]
/-! ### setdefault, a field counted up, sorted whole numbers -/
@[simp ↓] theorem mSetd_h {Q : Res _ → Prop} (fo fk fv : ME) (ρ : En) (m : Me) : RHas Q (mSetd fo fk fv ρ m) = RHas Q ((fo ρ m).bind fun d m => match d with
  | .ref i => match m[i]? with
    | some (.dK _) => (fk ρ m).bind fun k m => (fv ρ m).bind fun y m => match m[i]?, keyD k with
      | some (.dK kvs), some k => if kvs.length < 1000000 then match getK kvs k with
        | some v => .ok v m
        | none => .ok y (m.set i (.dK (setK kvs k y)))
        else .no
      | _, _ => .no
    | _ => .no
  | _ => .no) := rfl
@[simp ↓] theorem sFldAug_h {Q : Fl → Prop} (C : Addr) (x : Str) (g : Int → Int → Int) (fo fe : ME) (ρ : En) (m : Me) : FHas Q (sFldAug C x g fo fe ρ m) = FHas Q (bindS (fo ρ m) ρ fun d m => match d with
  | .ref i => match m[i]? with
    | some (.ins C' fs) => if C' = C then match fs.lookup x with
      | some (.int a) => bindS (fe ρ m) ρ fun y m => match y with
        | .int b => match m[i]? with
          | some (.ins C2 fs2) => if C2 = C ∧ fs2.length < 1000 then .nx ρ (m.set i (.ins C (putA x (.int (g a b)) fs2))) else .no
          | _ => .no
        | _ => .no
      | _ => .no
      else .no
    | _ => .no
  | _ => .no) := rfl
theorem leD_int (a b : Int) : leD (.int a) (.int b) = decide (a ≤ b) := by
  have e1 : ∀ x : Int, enc (.int x) = .int x := fun x => by simp [enc, py]
  have e2 : leD (.int a) (.int b) = PySem.W.dataLe false (fun x : Int => PyData.int x) a b := by
    simp only [leD, PySem.W.dataLe_eq, e1]
  rw [e2, PySem.W.dataLe_int]
theorem okSort_ints (l : List Int) (hl : l.length ≤ 1000000) : OkSort (l.map D.int) := by
  have he : (l.map D.int).map enc = l.map PyData.int := by
    rw [List.map_map]; exact List.map_congr_left fun x _ => by simp [enc, py]
  refine ⟨fun x hx => ?_, ?_, ?_, by simpa using hl⟩
  · obtain ⟨k, _, rfl⟩ := List.mem_map.mp hx
    exact ⟨by simp [py], by simp [enc, py, PyData.depth]⟩
  · rw [he]; exact PySem.W.AllAlike.of fun b b' => by simp [PySem.W.alike]
  · rw [he]; exact PySem.W.Sortable.others fun b => ⟨by simp, by simp⟩
theorem sortT_asc {l : List Int} (h : l.Pairwise (· ≤ ·)) (hl : l.length ≤ 1000000) (m : Me) : gSortT [.tup (l.map D.int)] m = .ok (.lst (l.map D.int)) m := by
  unfold gSortT
  simp only
  rw [if_pos (okSort_ints l hl), List.mergeSort_of_pairwise]
  rw [List.pairwise_map]
  exact h.imp fun {a b} hab => by rw [leD_int]; simpa using hab
/-- a choice out of known things, while something is kept -/
theorem comp_selP {α : Type} {gt : D → En → Option En} {c : MT} {e : ME} {ρ : En} {Q : Res (List D) → Prop} (P : Me → Prop) (f : α → D) {xs : List α} {g : α → D} {m : Me} (h : P m)
    (step : ∀ x ∈ xs, ∀ m', P m' → ∃ ρ1, gt (g x) ρ = some ρ1 ∧ RHas (OkR fun (_ : Bool) m2 => P m2) (c ρ1 m') ∧ ∀ m2, P m2 → e ρ1 m2 = .ok (f x) m2)
    (done : ∀ (ys : List α) (m' : Me), ys.Sublist xs → P m' → Q (.ok (ys.map f) m')) : RHas Q (compF gt c e gdY ρ (xs.map g) m) := by
  refine comp_has (fun r ys m' => ∃ us rs zs : List α, xs = us ++ rs ∧ r = rs.map g ∧ zs.Sublist us ∧ ys = zs.map f ∧ P m') ?_ ?_ ⟨[], xs, [], rfl, rfl, .slnil, rfl, h⟩
  · rintro d r ys m' ⟨us, rs, zs, e1, e2, hz, rfl, hP⟩
    cases rs with
    | nil => simp at e2
    | cons x rs =>
      simp only [List.map_cons, List.cons.injEq] at e2
      obtain ⟨rfl, rfl⟩ := e2
      obtain ⟨ρ1, h1, h2, h3⟩ := step x (by rw [e1]; simp) m' hP
      refine ⟨rfl, ρ1, h1, ?_⟩
      obtain ⟨b, m2, e4, hP2⟩ := h2.ex
      rw [e4]
      simp only [rhas_ok, kC_ok]
      cases b with
      | true =>
        rw [if_pos rfl, h3 m2 hP2]
        simp only [rhas_ok, kE_ok]
        exact ⟨us ++ [x], rs, zs ++ [x], by rw [e1]; simp, rfl, hz.append (.refl _), by simp, hP2⟩
      | false =>
        rw [if_neg Bool.false_ne_true]
        exact ⟨us ++ [x], rs, zs, by rw [e1]; simp, rfl, hz.trans (List.sublist_append_left _ _), rfl, hP2⟩
  · rintro ys m' ⟨us, rs, zs, e1, e2, hz, rfl, hP⟩
    have : rs = [] := by simpa using e2.symm
    subst this
    rw [List.append_nil] at e1
    subst e1
    exact ⟨rfl, done zs m' hz hP⟩
/-- a thing made at each turn, by how many there were -/
theorem comp_count {gt : D → En → Option En} {c : MT} {e : ME} {ρ : En} {Q : Res (List D) → Prop} (P : Nat → Me → Prop) (f : Nat → D) {ds : List D} {m : Me} (h : P 0 m)
    (step : ∀ d ∈ ds, ∀ k m', k < ds.length → P k m' → ∃ ρ1, gt d ρ = some ρ1 ∧ c ρ1 m' = .ok true m' ∧ RHas (OkR fun y m2 => y = f k ∧ P (k + 1) m2) (e ρ1 m'))
    (done : ∀ m', P ds.length m' → Q (.ok ((List.range ds.length).map f) m')) : RHas Q (compF gt c e gdY ρ ds m) := by
  refine comp_has (fun r ys m' => (∀ d ∈ r, d ∈ ds) ∧ ∃ k, k + r.length = ds.length ∧ ys = (List.range k).map f ∧ P k m') ?_ ?_ ⟨fun _ h => h, 0, by simp, rfl, h⟩
  · rintro d r ys m' ⟨hr, k, hk, rfl, hP⟩
    simp only [List.length_cons] at hk
    obtain ⟨ρ1, h1, h2, h3⟩ := step d (hr d (by simp)) k m' (by omega) hP
    refine ⟨rfl, ρ1, h1, ?_⟩
    obtain ⟨y, m2, e4, rfl, hP2⟩ := h3.ex
    rw [h2]
    simp only [rhas_ok, kC_ok, if_true]
    rw [e4]
    simp only [rhas_ok, kE_ok]
    exact ⟨fun d hd => hr d (by simp [hd]), k + 1, by omega, by rw [List.range_succ]; simp, hP2⟩
  · rintro ys m' ⟨_, k, hk, rfl, hP⟩
    simp only [List.length_nil, Nat.add_zero] at hk
    subst hk
    exact ⟨rfl, done m' hP⟩
theorem leaveN {m c : Me} {d : D} (h : Pl d) : leave m d (m ++ c) = .ok d m := by
  unfold leave
  by_cases q : (m ++ c).length = m.length
  · have : c = [] := by rw [List.length_append] at q; exact List.length_eq_zero_iff.mp (by omega)
    subst this
    rw [if_pos q, List.append_nil]
  · rw [if_neg q, thaw_clo d (h _)]
    simp only [List.take_left]
    rw [if_pos (.inl trivial)]
theorem leave0 {c : Me} {d : D} (h : Pl d) : leave [] d c = .ok d [] := by
  have := leaveN (m := []) (c := c) h
  rwa [List.nil_append] at this
end FL

set_option maxRecDepth 100000
namespace K18
open PySem PySem.Spec PyProof.Rows L2 FL

/-! ### marks, ties -/
def mkD (l : List Nat) : D := .tup (l.map fun k : Nat => D.int (k : Int))
abbrev Mn := String × Int
def mnD (x : Mn) : D := .tup [.str (Str.ofString x.1), .int x.2]
abbrev Tie := List Nat × Mn
def tieD (t : Tie) : D := .tup [mkD t.1, mnD t.2]
def sub (a b : List Nat) : Bool := a.all fun x => decide (x ∈ b)
theorem mk_map (l : List Nat) : mkD l = .tup ((l.map fun k : Nat => (k : Int)).map D.int) := by simp [mkD, List.map_map]
theorem gIn_mk (neg : Bool) (x : Nat) (b : List Nat) (m : Me) : gInN neg (.int (x : Int)) (mkD b) m = .ok (.bl (if neg then !decide (x ∈ b) else decide (x ∈ b))) m := by
  have := gIn_ints (neg := neg) (s := mkD b) (l := b.map fun k : Nat => (k : Int)) (x : Int) m (by rw [mk_map]; rfl)
  rw [this]
  have e : (x : Int) ∈ b.map (fun k : Nat => (k : Int)) ↔ x ∈ b := by
    constructor
    · intro h
      obtain ⟨k, hk, e⟩ := List.mem_map.mp h
      rwa [show x = k by omega]
    · intro h; exact List.mem_map.mpr ⟨x, h, rfl⟩
  simp [e]
theorem mk_nb (l : List Nat) : nb (mkD l) = true ∧ dpD (mkD l) ≤ 2 := by
  refine ⟨?_, ?_⟩
  · simp only [mkD, nb]; exact nbL_iff.mpr fun x hx => by obtain ⟨k, _, rfl⟩ := List.mem_map.mp hx; rfl
  · have : dpL (l.map fun k : Nat => D.int (k : Int)) ≤ 1 := dpL_le.mpr fun x hx => by obtain ⟨k, _, rfl⟩ := List.mem_map.mp hx; simp [dpD]
    simp only [mkD, dpD]; omega
theorem mn_nb (x : Mn) : nb (mnD x) = true ∧ dpD (mnD x) ≤ 2 ∧ al (mnD x) = true := by
  refine ⟨by simp [mnD, nb, nbL], by simp [mnD, dpD, dpL], by simp [mnD, al, alL, strOk_ofs]⟩
theorem tie_nb (t : Tie) : nb (tieD t) = true ∧ dpD (tieD t) ≤ 3 := by
  have h1 := mk_nb t.1
  have h2 := mn_nb t.2
  refine ⟨by simp [tieD, nb, nbL, h1, h2], by simp only [tieD, dpD, dpL]; omega⟩
theorem ties_nil (L : List Tie) (m : Me) : gEq (.lst (L.map tieD)) (.lst []) m = .ok (.bl L.isEmpty) m := by
  rw [gEq_lnil m (nbL_iff.mpr fun x hx => by obtain ⟨t, _, rfl⟩ := List.mem_map.mp hx; exact (tie_nb t).1) (dpL_le.mpr fun x hx => by obtain ⟨t, _, rfl⟩ := List.mem_map.mp hx; have := (tie_nb t).2; omega), List.isEmpty_map]
theorem ints_nil (L : List Nat) (m : Me) : gEq (.lst (L.map fun k : Nat => D.int (k : Int))) (.lst []) m = .ok (.bl L.isEmpty) m := by
  rw [gEq_lnil m (nbL_iff.mpr fun x hx => by obtain ⟨t, _, rfl⟩ := List.mem_map.mp hx; rfl) (dpL_le.mpr fun x hx => by obtain ⟨t, _, rfl⟩ := List.mem_map.mp hx; simp [dpD]), List.isEmpty_map]
theorem ints_nnil (L : List Nat) (m : Me) : gNe (.lst (L.map fun k : Nat => D.int (k : Int))) (.lst []) m = .ok (.bl (!L.isEmpty)) m := by
  rw [gNe_lnil m (nbL_iff.mpr fun x hx => by obtain ⟨t, _, rfl⟩ := List.mem_map.mp hx; rfl) (dpL_le.mpr fun x hx => by obtain ⟨t, _, rfl⟩ := List.mem_map.mp hx; simp [dpD]), List.isEmpty_map]
theorem mks_nil (L : List (List Nat)) (m : Me) : gEq (.lst (L.map mkD)) (.lst []) m = .ok (.bl L.isEmpty) m := by
  rw [gEq_lnil m (nbL_iff.mpr fun x hx => by obtain ⟨t, _, rfl⟩ := List.mem_map.mp hx; exact (mk_nb t).1) (dpL_le.mpr fun x hx => by obtain ⟨t, _, rfl⟩ := List.mem_map.mp hx; have := (mk_nb t).2; omega), List.isEmpty_map]
/-! ### all of some truths, the greatest of some numbers -/
theorem bls_f {α : Type} (l : List α) (p : α → Bool) : blsD (l.map fun x => D.bl (p x)) = some (l.map p) := by
  induction l with
  | nil => rfl
  | cons a l ih => simp [blsD, ih]
theorem all_f {α : Type} (l : List α) (p : α → Bool) (m : Me) : gAll [.lst (l.map fun x => D.bl (p x))] m = .ok (.bl (l.all p)) m := by
  unfold gAll
  have e : lstV m (.lst (l.map fun x => D.bl (p x))) = some (l.map fun x => D.bl (p x)) := rfl
  simp only [e, Option.bind_some, bls_f]
  simp [List.all_map]
  try rfl
theorem max_f {l : List Nat} {k : Nat} (h : k ∈ l) (h2 : ∀ x ∈ l, x ≤ k) (m : Me) : gMaxL [.lst (l.map fun x : Nat => D.int (x : Int))] m = .ok (.int (k : Int)) m := by
  unfold gMaxL
  have e : lstV m (.lst (l.map fun x : Nat => D.int (x : Int))) = some (l.map fun x : Nat => D.int (x : Int)) := rfl
  have e2 : intsD (l.map fun x : Nat => D.int (x : Int)) = some (l.map fun x : Nat => (x : Int)) := by
    clear e h h2
    induction l with
    | nil => rfl
    | cons a l ih => simp [intsD, ih]
  have e3 : maxI (l.map fun x : Nat => (x : Int)) = some (k : Int) := maxI_of (List.mem_map.mpr ⟨k, h, rfl⟩) fun x hx => by
    obtain ⟨y, hy, rfl⟩ := List.mem_map.mp hx
    have := h2 y hy; omega
  simp only [e, Option.bind_some, e2, e3]
/-! ### is_within -/
variable {cl : Nat → Addr}
theorem fns0 (n : Nat) : G.fns cl (n + 1) 0 = runDef 3 2 (G.b0 cl (G.fns cl n)) := rfl
theorem within_ok (n : Nat) (a b : List Nat) (m : Me) : G.fns cl (n + 1) 0 [mkD a, mkD b] m = .ok (.bl (sub a b)) m := by
  rw [fns0]
  refine has_eq (has_def' [some (mkD a), some (mkD b), none] ?_)
  unfold G.b0
  have hall := all_f a (fun x => decide (x ∈ b)) m
  have lv : ∀ c : Bool, leave m (.bl c) m = .ok (.bl c) m := fun c => leave_same rfl
  have hin := fun x : Nat => gIn_mk false x b m
  have e : mkD a = .tup (a.map fun k : Nat => D.int (k : Int)) := rfl
  rw [e]
  generalize hB : mkD b = B at *
  simp -dsimp -implicitDefEqProofs
  refine comp_all (fun x : Nat => D.bl (decide (x ∈ b))) (fun x hx => ⟨_, rfl, rfl, ?_⟩) ?_
  · have := hin x
    simp -dsimp -implicitDefEqProofs [this]
  · simp -dsimp -implicitDefEqProofs [hall, lv]
    rfl
/-! ### mean -/
def formD (w : String) : D := if w ∈ ["fn", "let", "if", "quote", "rules"] then .tup [.str (Str.ofString "form"), .str (Str.ofString w)] else .tup [.str (Str.ofString "open"), .str (Str.ofString w)]
def mx (l : List Tie) : Nat := l.foldl (fun k t => max k t.1.length) 0
theorem mx_le : ∀ (l : List Tie) (k : Nat), (∀ t ∈ l, t.1.length ≤ l.foldl (fun k t => max k t.1.length) k) ∧ k ≤ l.foldl (fun k t => max k t.1.length) k
  | [], k => ⟨by simp, Nat.le_refl _⟩
  | a :: l, k => by
    obtain ⟨h1, h2⟩ := mx_le l (max k a.1.length)
    simp only [List.foldl_cons]
    refine ⟨fun t ht => ?_, by omega⟩
    rcases List.mem_cons.mp ht with rfl | ht
    · omega
    · exact h1 t ht
theorem mx_mem : ∀ (l : List Tie) (k : Nat), l.foldl (fun k t => max k t.1.length) k = k ∨ ∃ t ∈ l, t.1.length = l.foldl (fun k t => max k t.1.length) k
  | [], k => .inl rfl
  | a :: l, k => by
    simp only [List.foldl_cons]
    rcases mx_mem l (max k a.1.length) with h | ⟨t, ht, h⟩
    · rw [h]
      by_cases c : a.1.length ≤ k
      · exact .inl (by omega)
      · exact .inr ⟨a, by simp, by omega⟩
    · exact .inr ⟨t, by simp [ht], h⟩
theorem mx_ok {l : List Tie} (h : l ≠ []) : mx l ∈ l.map (·.1.length) ∧ ∀ x ∈ l.map (·.1.length), x ≤ mx l := by
  refine ⟨?_, fun x hx => ?_⟩
  · rcases mx_mem l 0 with e | ⟨t, ht, e⟩
    · cases l with
      | nil => exact absurd rfl h
      | cons a l =>
        have := (mx_le (a :: l) 0).1 a (by simp)
        rw [e] at this
        exact List.mem_map.mpr ⟨a, by simp, by unfold mx; rw [e]; omega⟩
    · exact List.mem_map.mpr ⟨t, ht, e⟩
  · obtain ⟨t, ht, rfl⟩ := List.mem_map.mp hx
    exact (mx_le l 0).1 t ht
def best (l : List Tie) : List Tie := l.filter fun t => decide (t.1.length = mx l)
theorem best_ne {l : List Tie} (h : l ≠ []) : ∃ b r, best l = b :: r := by
  obtain ⟨t, ht, e⟩ := List.mem_map.mp (mx_ok h).1
  have : t ∈ best l := List.mem_filter.mpr ⟨ht, by simpa using e⟩
  cases q : best l with
  | nil => rw [q] at this; cases this
  | cons b r => exact ⟨b, r, rfl⟩
def uncl (cl : Nat → Addr) (place : Int) : Exn := ⟨.ref (cl 100), [("word", .str "unclear"), ("place", .int place)]⟩
/-- what a word means by the ties that are able -/
def meanR (cl : Nat → Addr) (w : String) (place : Int) (m : Me) (able : List Tie) : Res D :=
  match able with
  | [] => .ok (formD w) m
  | a :: l => match best (a :: l) with
    | [b] => if ((a :: l).all fun t => sub t.1 b.1) = true then .ok (mnD b.2) m else .exc (uncl cl place) m
    | _ => .exc (uncl cl place) m
theorem fns4 (n : Nat) : G.fns cl (n + 1) 4 = runDefX 10 4 (G.b4 cl (G.fns cl n)) := rfl
theorem rt0 (n : Nat) : G.fns cl n 13 = rsF (cl 100) 2 G.okD0 G.flD0 n := G.rt0 cl n
theorem mean_ok {n j q : Nat} {m : Me} {fs : List (Str × D)} {K : List (Key × D)} {w : String} {marks : List Nat} {place : Int} {L : List Tie} {v : D} {gd : Me → Bool} (hins : m[j]? = some (.ins (cl 0) fs)) (hties : fs.lookup ("ties" : Str) = some (.ref q)) (hview : view m (.ref q) = .dct K)
    (hget : gDget2 (.ref q) (.str (Str.ofString w)) (.lst []) m = .ok v m) (hit : asIt v m = .ok (L.map tieD, gd) m) (hgd : gd m = true) : G.fns cl (n + 4) 4 [.ref j, .str (Str.ofString w), mkD marks, .int place] m = meanR cl w place m (L.filter fun t => sub t.1 marks) := by
  rw [fns4]
  refine has_is (has_defX [some (.ref j), some (.str (Str.ofString w)), some (mkD marks), some (.int place), none, none, none, none, none, none] ?_)
  unfold G.b4
  have hw := fun (t : Tie) => within_ok (cl := cl) (n + 2) t.1 marks m
  have hi0 : ∀ t : Tie, gIx (tieD t) (.int 0) m = .ok (mkD t.1) m := fun t => by simp [tieD]
  have hi1 : ∀ t : Tie, gIx (tieD t) (.int 1) m = .ok (mnD t.2) m := fun t => by simp [tieD]
  have lv : ∀ d, leave m d m = .ok d m := fun d => leave_same rfl
  have lvx : ∀ x, leaveX m x m = .exc x m := fun x => leaveX_same rfl
  generalize hQ0 : (kDX _ _ : Fl → Prop) = Q0
  simp -dsimp -implicitDefEqProofs [hins, hties, hview, hget, hit]
  refine comp_mapG (fun t : Tie => sub t.1 marks) tieD hgd (fun t ht => ?_) ?_
  · have h1 := hw t
    have h2 := hi0 t
    generalize tieD t = td at *
    generalize mkD t.1 = md at *
    refine ⟨_, rfl, ?_, fun _ => ?_⟩
    · simp -dsimp -implicitDefEqProofs [h1, h2]
    · simp -dsimp -implicitDefEqProofs
  · generalize hA : (L.filter fun t => sub t.1 marks) = A at *
    have hn := ties_nil A m
    cases A with
    | nil =>
      simp only [List.map_nil, List.isEmpty_nil] at hn ⊢
      have hin := gIn_ofs (neg := false) w ["fn", "let", "if", "quote", "rules"] m
      simp only [List.map_cons, List.map_nil] at hin
      by_cases hf : w ∈ ["fn", "let", "if", "quote", "rules"]
      · have hin : gInN false (.str (Str.ofString w)) (.tup [.str (Str.ofString "fn"), .str (Str.ofString "let"), .str (Str.ofString "if"), .str (Str.ofString "quote"), .str (Str.ofString "rules")]) m = .ok (.bl true) m := by rw [hin]; simp only [hf, Bool.false_eq_true, if_false, decide_true]
        simp -dsimp -implicitDefEqProofs [hn, hin]
        subst Q0
        simp -dsimp -implicitDefEqProofs [lv, meanR, formD]
        first | (simpa using hf) | (intro h1 h2 h3 h4; simpa [h1, h2, h3, h4] using hf)
      · have hin : gInN false (.str (Str.ofString w)) (.tup [.str (Str.ofString "fn"), .str (Str.ofString "let"), .str (Str.ofString "if"), .str (Str.ofString "quote"), .str (Str.ofString "rules")]) m = .ok (.bl false) m := by rw [hin]; simp only [hf, Bool.false_eq_true, if_false, decide_false]
        simp -dsimp -implicitDefEqProofs [hn, hin]
        subst Q0
        simp -dsimp -implicitDefEqProofs [lv, meanR, formD]
        first | (simpa using hf) | (intro h1 h2 h3 h4; simpa [h1, h2, h3, h4] using hf)
    | cons a l =>
      have hne : a :: l ≠ [] := by simp
      generalize hAL : a :: l = AL at *
      have hmr : meanR cl w place m AL = match best AL with
          | [b] => if (AL.all fun t => sub t.1 b.1) = true then .ok (mnD b.2) m else .exc (uncl cl place) m
          | _ => .exc (uncl cl place) m := by subst hAL; rfl
      have hen : AL.isEmpty = false := by subst hAL; rfl
      rw [hen] at hn
      obtain ⟨hm1, hm2⟩ := mx_ok hne
      have hmax := max_f hm1 hm2 m
      rw [List.map_map] at hmax
      have hcomp : ((fun x : Nat => D.int (x : Int)) ∘ fun t : Tie => t.1.length) = fun t : Tie => D.int (t.1.length : Int) := rfl
      rw [hcomp] at hmax
      simp -dsimp -implicitDefEqProofs [hn]
      refine comp_all (fun t : Tie => D.int (t.1.length : Int)) (fun t ht => ⟨_, rfl, rfl, ?_⟩) ?_
      · simp -dsimp -implicitDefEqProofs [mkD]
      simp -dsimp -implicitDefEqProofs [hmax]
      refine comp_map (fun t : Tie => decide (t.1.length = mx AL)) tieD (fun t ht => ?_) ?_
      · have h2 := hi0 t
        have h3 : gLen [mkD t.1] m = .ok (.int (t.1.length : Int)) m := by simp [mkD]
        generalize tieD t = td at *
        generalize mkD t.1 = md at *
        refine ⟨_, rfl, ?_, fun _ => ?_⟩
        · simp -dsimp -implicitDefEqProofs [h2, h3]
          try (exact decide_eq_decide.mpr (by omega))
        · simp -dsimp -implicitDefEqProofs
      have hbest : (AL.filter fun t => decide (t.1.length = mx AL)) = best AL := rfl
      rw [hbest]
      obtain ⟨b, r, hb⟩ := best_ne hne
      rw [hb]
      have hg0 : gIx (.lst (tieD b :: r.map tieD)) (.int 0) m = .ok (tieD b) m := by simp
      cases r with
      | nil =>
        simp only [List.map_cons, List.map_nil] at hg0 ⊢
        have hi0b := hi0 b
        have hi1b := hi1 b
        have hall := all_f AL (fun t => sub t.1 b.1) m
        have hwb := fun t : Tie => within_ok (cl := cl) (n + 2) t.1 b.1 m
        generalize tieD b = bd at *
        simp -dsimp -implicitDefEqProofs
        refine comp_all (fun t : Tie => D.bl (sub t.1 b.1)) (fun t ht => ⟨_, rfl, rfl, ?_⟩) ?_
        · have h4 := hwb t
          generalize mkD t.1 = md at *
          simp -dsimp -implicitDefEqProofs [hg0, hi0b, h4]
        cases hc : AL.all fun t => sub t.1 b.1 with
        | true =>
          rw [hc] at hall
          simp -dsimp -implicitDefEqProofs [hall, hg0, hi1b]
          subst Q0
          simp -dsimp -implicitDefEqProofs [lv, hmr, hb, hc]
        | false =>
          rw [hc] at hall
          have hx := rsF_cons (cl 100) 2 G.okD0 G.flD0 n (.int place) [.str "unclear"] m rfl (by show decide ((Str.ofString "unclear").length ≤ 1000) = true; decide +kernel)
          simp -dsimp -implicitDefEqProofs [hall, rt0, hx]
          subst Q0
          simp -dsimp -implicitDefEqProofs [lvx, hmr, hb, hc]
          rfl
      | cons b2 r =>
        have hx := rsF_cons (cl 100) 2 G.okD0 G.flD0 n (.int place) [.str "unclear"] m rfl (by show decide ((Str.ofString "unclear").length ≤ 1000) = true; decide +kernel)
        simp -dsimp -implicitDefEqProofs [rt0, hx, show (1 : Int) < ((r.length : Nat) : Int) + 1 + 1 by omega]
        subst Q0
        simp -dsimp -implicitDefEqProofs [lvx, hmr, hb]
        rfl
end K18

set_option maxRecDepth 100000
namespace K18
open PySem PySem.Spec PyProof.Rows L2 FL
variable {cl : Nat → Addr}

/-! ### the law's due -/
abbrev Row := String × Tie
def rowD (r : Row) : D := .tup [.str (Str.ofString r.1), mkD r.2.1, mnD r.2.2]
def ableL (w : String) (marks : List Nat) (T : List Row) : List Tie := (T.filter fun r => decide (r.1 = w) && sub r.2.1 marks).map (·.2)
def lbest (A : List Tie) : List Tie := A.filter fun t => (A.filter fun u => !sub u.1 t.1).isEmpty
def noD (place : Int) : D := .tup [.str (Str.ofString "no"), .int place, .str (Str.ofString "unclear")]
def yesD (d : D) : D := .tup [.str (Str.ofString "yes"), d]
def dueR (w : String) (place : Int) (A : List Tie) : D := match A with
  | [] => yesD (formD w)
  | a :: l => match lbest (a :: l) with
    | [b] => yesD (mnD b.2)
    | _ => noD place
theorem sub_fil (a b : List Nat) : (a.filter fun x => !decide (x ∈ b)).isEmpty = sub a b := by
  unfold sub
  induction a with
  | nil => rfl
  | cons x a ih =>
    by_cases h : x ∈ b
    · simp only [List.all_cons, List.filter_cons, h, decide_true, Bool.not_true, Bool.true_and]; simpa using ih
    · simp [List.filter_cons, h]
theorem fns10 (n : Nat) : G.fns cl (n + 1) 10 = runDef 11 4 (G.b10 cl (G.fns cl n)) := rfl
theorem due_ok {n t : Nat} {m : Me} {w : String} {marks : List Nat} {place : Int} {T : List Row} (ht : m[t]? = some (.lst (T.map rowD))) : G.fns cl (n + 1) 10 [.ref t, .str (Str.ofString w), mkD marks, .int place] m = .ok (dueR w place (ableL w marks T)) m := by
  rw [fns10]
  refine has_eq (has_def' [some (.ref t), some (.str (Str.ofString w)), some (mkD marks), some (.int place), none, none, none, none, none, none, none] ?_)
  unfold G.b10
  have hit := asIt_ref ht
  have hgd := gdL_ok ht
  have lv : ∀ d, leave m d m = .ok d m := fun d => leave_same rfl
  have hi0 : ∀ t : Tie, gIx (tieD t) (.int 0) m = .ok (mkD t.1) m := fun t => by simp [tieD]
  have hi1 : ∀ t : Tie, gIx (tieD t) (.int 1) m = .ok (mnD t.2) m := fun t => by simp [tieD]
  have hmk : ∀ l : List Nat, mkD l = .tup (l.map fun k : Nat => D.int (k : Int)) := fun _ => rfl
  generalize hQ0 : (kD _ _ : Fl → Prop) = Q0
  simp -dsimp -implicitDefEqProofs [hit]
  refine comp_mapG (fun r : Row => decide (r.1 = w) && sub r.2.1 marks) (fun r => tieD r.2) hgd (fun r hr => ?_) ?_
  · refine ⟨_, rfl, has_eq ?_, fun _ => ?_⟩
    · by_cases hrw : r.1 = w
      · simp -dsimp -implicitDefEqProofs [hrw, hmk r.2.1]
        refine comp_map (fun x => !decide (x ∈ marks)) (fun k : Nat => D.int (k : Int)) (fun x hx => ?_) ?_
        · have := gIn_mk true x marks m
          refine ⟨_, rfl, ?_, fun _ => ?_⟩
          · simp -dsimp -implicitDefEqProofs [this]
          · simp -dsimp -implicitDefEqProofs
        · have := ints_nil (r.2.1.filter fun x => !decide (x ∈ marks)) m
          rw [sub_fil] at this
          generalize (List.map (fun k : Nat => D.int (k : Int)) (r.2.1.filter fun x => !decide (x ∈ marks))) = LL at *
          simp -dsimp -implicitDefEqProofs [this]
          try exact fun _ => hrw
      · simp -dsimp -implicitDefEqProofs [hrw]
    · simp -dsimp -implicitDefEqProofs
      rfl
  · have hAe : ((T.filter fun r : Row => decide (r.1 = w) && sub r.2.1 marks).map fun r => tieD r.2) = (ableL w marks T).map tieD := by unfold ableL; rw [List.map_map]; rfl
    rw [hAe]
    generalize ableL w marks T = A at *
    have hn := ties_nil A m
    cases A with
    | nil =>
      simp only [List.map_nil, List.isEmpty_nil] at hn ⊢
      have hin : gInN false (.str (Str.ofString w)) (.lst [.str (Str.ofString "fn"), .str (Str.ofString "let"), .str (Str.ofString "if"), .str (Str.ofString "quote"), .str (Str.ofString "rules")]) m = .ok (.bl (decide (w ∈ ["fn", "let", "if", "quote", "rules"]))) m := by
        have h1 := gIn_ofs (neg := false) w ["fn", "let", "if", "quote", "rules"] m
        simp only [Bool.false_eq_true, if_false] at h1
        rw [← h1]
        rfl
      by_cases hf : w ∈ ["fn", "let", "if", "quote", "rules"]
      · rw [decide_eq_true hf] at hin
        simp -dsimp -implicitDefEqProofs [hn, hin]
        subst Q0
        simp -dsimp -implicitDefEqProofs [lv, dueR, yesD, formD]
        first | (simpa using hf) | (intro h1 h2 h3 h4; simpa [h1, h2, h3, h4] using hf)
      · rw [decide_eq_false hf] at hin
        simp -dsimp -implicitDefEqProofs [hn, hin]
        subst Q0
        simp -dsimp -implicitDefEqProofs [lv, dueR, yesD, formD]
        first | (simpa using hf) | (intro h1 h2 h3 h4; simpa [h1, h2, h3, h4] using hf)
    | cons a l =>
      have hdr : dueR w place (a :: l) = match lbest (a :: l) with
        | [b] => yesD (mnD b.2)
        | _ => noD place := rfl
      have hen : (a :: l).isEmpty = false := rfl
      rw [hen] at hn
      generalize a :: l = AL at *
      simp -dsimp -implicitDefEqProofs [hn]
      refine comp_map (fun t : Tie => (AL.filter fun u => !sub u.1 t.1).isEmpty) tieD (fun t ht => ?_) ?_
      · refine ⟨_, rfl, has_eq ?_, fun _ => ?_⟩
        · have h0 := hi0 t
          generalize tieD t = td at *
          simp -dsimp -implicitDefEqProofs
          refine comp_map (fun u : Tie => !sub u.1 t.1) (fun u => mkD u.1) (fun u hu => ?_) ?_
          · refine ⟨_, rfl, has_eq ?_, fun _ => ?_⟩
            · simp -dsimp -implicitDefEqProofs [hmk u.1]
              refine comp_map (fun x => !decide (x ∈ t.1)) (fun k : Nat => D.int (k : Int)) (fun x hx => ?_) ?_
              · have := gIn_mk true x t.1 m
                generalize mkD t.1 = tm at *
                refine ⟨_, rfl, ?_, fun _ => ?_⟩
                · simp -dsimp -implicitDefEqProofs [h0, this]
                · simp -dsimp -implicitDefEqProofs
              · have := ints_nnil (u.1.filter fun x => !decide (x ∈ t.1)) m
                rw [sub_fil] at this
                generalize (List.map (fun k : Nat => D.int (k : Int)) (u.1.filter fun x => !decide (x ∈ t.1))) = LL at *
                simp -dsimp -implicitDefEqProofs [this]
            · simp -dsimp -implicitDefEqProofs
          · have := mks_nil ((AL.filter fun u => !sub u.1 t.1).map (·.1)) m
            rw [List.map_map, List.isEmpty_map] at this
            have hc : (mkD ∘ fun x : Tie => x.1) = fun u : Tie => mkD u.1 := rfl
            rw [hc] at this
            generalize (List.map (fun u : Tie => mkD u.1) (AL.filter fun u => !sub u.1 t.1)) = LL at *
            simp -dsimp -implicitDefEqProofs [this]
        · simp -dsimp -implicitDefEqProofs
      · have hlb : (AL.filter fun t : Tie => (AL.filter fun u => !sub u.1 t.1).isEmpty) = lbest AL := rfl
        rw [hlb]
        generalize lbest AL = LB at *
        have hl : ((LB.map tieD).length : Int) = LB.length := by simp
        match LB, hl, hdr with
        | [], _, hdr =>
          simp -dsimp -implicitDefEqProofs
          subst Q0
          simp -dsimp -implicitDefEqProofs [lv, hdr, noD]
        | [b], _, hdr =>
          have h1 := hi1 b
          simp only [List.map_cons, List.map_nil]
          generalize tieD b = bd at *
          simp -dsimp -implicitDefEqProofs [h1]
          subst Q0
          simp -dsimp -implicitDefEqProofs [lv, hdr, yesD]
        | b :: c :: r, _, hdr =>
          simp -dsimp -implicitDefEqProofs [show ¬ ((r.length : Int) + 1 + 1 = 1) by omega]
          subst Q0
          simp -dsimp -implicitDefEqProofs [lv, hdr, noD]
/-! ### both tell the same -/
theorem nd_len : ∀ (a b : List Nat), a.Nodup → (∀ x ∈ a, x ∈ b) → a.length ≤ b.length
  | [], b, _, _ => by simp
  | x :: a, b, hn, h => by
    rw [List.nodup_cons] at hn
    have hx := h x (by simp)
    have := nd_len a (b.erase x) hn.2 fun y hy => (List.mem_erase_of_ne (fun e => hn.1 (by rw [← e]; exact hy))).mpr (h y (by simp [hy]))
    rw [List.length_erase_of_mem hx] at this
    have := List.length_pos_of_mem hx
    simp only [List.length_cons]; omega
theorem nd_sup {a b : List Nat} (hn : a.Nodup) (h : ∀ x ∈ a, x ∈ b) (hl : b.length ≤ a.length) : ∀ y ∈ b, y ∈ a := fun y hy => by
  apply Classical.byContradiction
  intro hc
  have := nd_len (y :: a) b (List.nodup_cons.mpr ⟨hc, hn⟩) fun x hx => by
    rcases List.mem_cons.mp hx with rfl | hx
    · exact hy
    · exact h x hx
  simp at this; omega
theorem sub_iff {a b : List Nat} : sub a b = true ↔ ∀ x ∈ a, x ∈ b := by simp [sub]
theorem lbest_iff {A : List Tie} {t : Tie} : t ∈ lbest A ↔ t ∈ A ∧ ∀ u ∈ A, ∀ x ∈ u.1, x ∈ t.1 := by
  unfold lbest
  rw [List.mem_filter, List.isEmpty_iff, List.filter_eq_nil_iff]
  refine and_congr Iff.rfl ⟨fun h u hu => ?_, fun h u hu => ?_⟩
  · have := h u hu
    simp only [Bool.not_eq_true', Bool.not_eq_false] at this
    exact sub_iff.mp this
  · have := sub_iff.mpr (h u hu)
    simp [this]
theorem lbest_best {A : List Tie} (hn : ∀ t ∈ A, t.1.Nodup) {t : Tie} (ht : t ∈ lbest A) : lbest A = best A := by
  obtain ⟨hA, hu⟩ := lbest_iff.mp ht
  have hne : A ≠ [] := fun e => by rw [e] at hA; cases hA
  obtain ⟨h1, h2⟩ := mx_ok hne
  have hle : ∀ u ∈ A, u.1.length ≤ t.1.length := fun u h => nd_len _ _ (hn u h) (hu u h)
  have hmx : mx A = t.1.length := by
    obtain ⟨u, hu1, hu2⟩ := List.mem_map.mp h1
    have a1 := hle u hu1
    have a2 := h2 _ (List.mem_map.mpr ⟨t, hA, rfl⟩)
    have hu2' : u.1.length = mx A := hu2
    have a2' : t.1.length ≤ mx A := a2
    omega
  unfold lbest best
  refine List.filter_congr fun v hv => ?_
  rw [hmx]
  have e : (A.filter fun u => !sub u.1 v.1).isEmpty = true ↔ v.1.length = t.1.length := by
    have hm : v ∈ lbest A ↔ (A.filter fun u => !sub u.1 v.1).isEmpty = true := by
      unfold lbest; rw [List.mem_filter]; simp [hv]
    rw [← hm, lbest_iff]
    constructor
    · rintro ⟨_, h⟩
      have := nd_len _ _ (hn t hA) (h t hA)
      have := hle v hv
      omega
    · intro h
      have hs := nd_sup (hn v hv) (hu v hv) (by omega)
      exact ⟨hv, fun u hu2 x hx => hs x (hu u hu2 x hx)⟩
  exact Bool.eq_iff_iff.mpr (e.trans (by simp))
def toldR (w : String) (place : Int) (A : List Tie) : D := match A with
  | [] => yesD (formD w)
  | a :: l => match best (a :: l) with
    | [b] => if ((a :: l).all fun t => sub t.1 b.1) = true then yesD (mnD b.2) else noD place
    | _ => noD place
theorem told_due {w : String} {place : Int} {A : List Tie} (hn : ∀ t ∈ A, t.1.Nodup) : toldR w place A = dueR w place A := by
  cases A with
  | nil => rfl
  | cons a l =>
    have e1 : toldR w place (a :: l) = match best (a :: l) with
      | [b] => if ((a :: l).all fun t => sub t.1 b.1) = true then yesD (mnD b.2) else noD place
      | _ => noD place := rfl
    have e2 : dueR w place (a :: l) = match lbest (a :: l) with
        | [b] => yesD (mnD b.2)
        | _ => noD place := rfl
    generalize a :: l = A at *
    rw [e1, e2]
    cases hl : lbest A with
    | nil =>
      have key : ∀ b ∈ A, ¬ (A.all fun t => sub t.1 b.1) = true := fun b hb h => by
        have : b ∈ lbest A := lbest_iff.mpr ⟨hb, fun u hu => sub_iff.mp (List.all_eq_true.mp h u hu)⟩
        rw [hl] at this; cases this
      cases hb : best A with
      | nil => rfl
      | cons b r =>
        cases r with
        | nil =>
          have hm : b ∈ A := (List.mem_filter.mp (show b ∈ best A by rw [hb]; simp)).1
          simp only
          rw [if_neg (key b hm)]
        | cons _ _ => rfl
    | cons t r =>
      have ht : t ∈ lbest A := by rw [hl]; simp
      have := lbest_best hn ht
      rw [← this, hl]
      cases r with
      | nil =>
        simp only
        rw [if_pos]
        exact List.all_eq_true.mpr fun u hu => sub_iff.mpr ((lbest_iff.mp ht).2 u hu)
      | cons _ _ => rfl
end K18

set_option maxRecDepth 100000
namespace K18
open PySem PySem.Spec PyProof.Rows L2 FL
variable {cl : Nat → Addr}

/-! ### what the law keeps: a Marked and the list of its ties -/
def fsM (q : Nat) (c : Int) : List (Str × D) := [(("most" : Str), .int 10), (("ties" : Str), .ref q), (("marks" : Str), .int c), (("places" : Str), .int 0), (("rule_rows" : Str), .lst []), (("uses" : Str), .int 0)]
def encE (e : String × Nat) : Key × D := (.inr (Str.ofString e.1), .ref e.2)
def onesL (w : String) (T : List Row) : List Tie := (T.filter fun r => decide (r.1 = w)).map (·.2)
structure SS (cl : Nat → Addr) (ds : List Int) (j : Nat) (c : Nat) (E : List (String × Nat)) (T U : List Row) (m : Me) : Prop where
  w : Wn 0 ds m
  j0 : 0 < j
  hj : m[j]? = some (.ins (cl 0) (fsM (j + 1) c))
  hq : m[j + 1]? = some (.dK (E.map encE))
  ht : m[j + 2]? = some (.lst (U.map rowD))
  cells : ∀ e ∈ E, j + 2 < e.2 ∧ m[e.2]? = some (.lst ((onesL e.1 T).map tieD))
  nk : (E.map (·.1)).Nodup
  np : (E.map (·.2)).Nodup
  al : ∀ r ∈ T, r.1 ∈ E.map (·.1)
  few : E.length ≤ T.length
variable {ds : List Int} {j c : Nat} {E : List (String × Nat)} {T U : List Row} {m m' : Me}
theorem SS.ev (S : SS cl ds j c E T U m) (e : Dn 0 ds m m') : SS cl ds j c E T U m' := by
  have g : ∀ {k : Nat} {x : Cell}, 0 < k → m[k]? = some x → m'[k]? = some x := fun h0 h => by rw [e.get (by omega)]; exact h
  exact ⟨S.w.ev e, S.j0, g S.j0 S.hj, g (by omega) S.hq, g (by omega) S.ht, fun x hx => ⟨(S.cells x hx).1, g (by have := (S.cells x hx).1; omega) (S.cells x hx).2⟩, S.nk, S.np, S.al, S.few⟩
theorem get_E (w : String) : getK (E.map encE) (.inr (Str.ofString w)) = (E.lookup w).map .ref := by
  unfold getK
  induction E with
  | nil => rfl
  | cons a l ih =>
    rw [List.map_cons, List.find?_cons, List.lookup_cons]
    by_cases h : w = a.1
    · have h1 : decide ((encE a).1 = (.inr (Str.ofString w) : Key)) = true := by subst h; simp [encE]
      have h2 : (w == a.1) = true := by simpa using h
      rw [h1, h2]; rfl
    · have h1 : decide ((encE a).1 = (.inr (Str.ofString w) : Key)) = false := by
        apply decide_eq_false
        intro e
        have := Sum.inr.inj e
        exact h (ofs_inj.mp this).symm
      have h2 : (w == a.1) = false := by simpa using h
      rw [h1, h2]
      exact ih
theorem lookup_none {w : String} : E.lookup w = none → w ∉ E.map (·.1) := by
  induction E with
  | nil => simp
  | cons a l ih =>
    rw [List.lookup_cons]
    intro h
    by_cases e : w = a.1
    · have h2 : (w == a.1) = true := by simpa using e
      rw [h2] at h; cases h
    · have h2 : (w == a.1) = false := by simpa using e
      rw [h2] at h
      simp only [List.map_cons, List.mem_cons, not_or]
      exact ⟨e, ih h⟩
theorem lookup_some {w : String} {p : Nat} : E.lookup w = some p → (w, p) ∈ E := by
  induction E with
  | nil => intro h; cases h
  | cons a l ih =>
    rw [List.lookup_cons]
    intro h
    by_cases e : w = a.1
    · have h2 : (w == a.1) = true := by simpa using e
      rw [h2] at h
      injection h with h
      subst h; subst e
      exact List.mem_cons_self
    · have h2 : (w == a.1) = false := by simpa using e
      rw [h2] at h
      exact List.mem_cons_of_mem _ (ih h)
theorem set_E {w : String} {p : Nat} (h : w ∉ E.map (·.1)) : setK (E.map encE) (.inr (Str.ofString w)) (.ref p) = (E ++ [(w, p)]).map encE := by
  unfold setK
  rw [if_neg, List.map_append]
  · rfl
  · rw [List.any_eq_true]
    rintro ⟨kv, h1, h2⟩
    obtain ⟨e, he, rfl⟩ := List.mem_map.mp h1
    have := Sum.inr.inj (of_decide_eq_true h2)
    exact h (List.mem_map.mpr ⟨e, he, ofs_inj.mp this⟩)
theorem ones_none {w : String} (h : ∀ r ∈ T, r.1 ∈ E.map (·.1)) (hw : w ∉ E.map (·.1)) : onesL w T = [] := by
  unfold onesL
  rw [List.map_eq_nil_iff, List.filter_eq_nil_iff]
  intro r hr e
  have : r.1 = w := by simpa using e
  exact hw (this ▸ h r hr)
theorem able_eq (w : String) (marks : List Nat) (T : List Row) : (onesL w T).filter (fun t => sub t.1 marks) = ableL w marks T := by
  unfold onesL ableL
  rw [List.filter_map, List.filter_filter]
  congr 1
  apply List.filter_congr
  intro x hx
  simp only [Function.comp]
  exact Bool.and_comm _ _
theorem fns9 (n : Nat) : G.fns cl (n + 1) 9 = runDef 5 4 (G.b9 cl (G.fns cl n)) := rfl
theorem told_ok (S : SS cl ds j c E T U m) (n : Nat) (w : String) (marks : List Nat) (place : Int) : G.fns cl (n + 5) 9 [.ref j, .str (Str.ofString w), mkD marks, .int place] m = .ok (toldR w place (ableL w marks T)) m := by
  have hm : G.fns cl (n + 4) 4 [.ref j, .str (Str.ofString w), mkD marks, .int place] m = meanR cl w place m (ableL w marks T) := by
    rw [← able_eq]
    have hv : view m (.ref (j + 1)) = .dct (E.map encE) := by simp [view, S.hq]
    cases hl : E.lookup w with
    | none =>
      have h0 := ones_none S.al (lookup_none hl)
      exact mean_ok (v := .lst []) (gd := gdY) S.hj rfl hv (by simp [gDget2, look, keyD, hv, S.hq, get_E, hl]) (by rw [h0]; rfl) rfl
    | some p =>
      obtain ⟨h1, h2⟩ := S.cells _ (lookup_some hl)
      exact mean_ok (v := .ref p) (gd := gdL p ((onesL w T).map tieD)) S.hj rfl hv (by simp [gDget2, look, keyD, hv, S.hq, get_E, hl]) (asIt_ref h2) (gdL_ok h2)
  rw [fns9]
  refine has_is (has_def' [some (.ref j), some (.str (Str.ofString w)), some (mkD marks), some (.int place), none] ?_)
  unfold G.b9
  have lv : ∀ d, leave m d m = .ok d m := fun d => leave_same rfl
  have hj := S.hj
  have hlk : (fsM (j + 1) c).lookup ("mean" : Str) = none := by simp [fsM, List.lookup, ofs_eq]
  generalize hQ0 : (kD _ _ : Fl → Prop) = Q0
  simp -dsimp -implicitDefEqProofs
  refine try_has ?_
  generalize fsM (j + 1) c = FS at *
  generalize ableL w marks T = A at *
  generalize mkD marks = md at *
  have noexc : ∀ d, meanR cl w place m A = .ok d m → toldR w place A = yesD d → FHas Q0 (.rt (yesD d) m) → True := fun _ _ _ _ => trivial
  have key : (∃ d, meanR cl w place m A = .ok d m ∧ toldR w place A = yesD d) ∨ (meanR cl w place m A = .exc (uncl cl place) m ∧ toldR w place A = noD place) := by
    cases A with
    | nil => exact .inl ⟨_, rfl, rfl⟩
    | cons a l =>
      unfold meanR toldR
      simp only
      cases best (a :: l) with
      | nil => exact .inr ⟨rfl, rfl⟩
      | cons b r =>
        cases r with
        | nil =>
          simp only
          by_cases hc : ((a :: l).all fun t => sub t.1 b.1) = true
          · rw [if_pos hc, if_pos hc]; exact .inl ⟨_, rfl, rfl⟩
          · rw [if_neg hc, if_neg hc]; exact .inr ⟨rfl, rfl⟩
        | cons _ _ => exact .inr ⟨rfl, rfl⟩
  rcases key with ⟨d, e1, e2⟩ | ⟨e1, e2⟩
  · rw [e1] at hm
    rw [e2] at hQ0
    simp -dsimp -implicitDefEqProofs [hj, hlk, hm]
    subst Q0
    simp -dsimp -implicitDefEqProofs [kTr, lv, yesD]
  · rw [e1] at hm
    rw [e2] at hQ0
    simp -dsimp -implicitDefEqProofs [hj, hlk, hm]
    subst Q0
    refine ⟨⟨rfl, by simp⟩, noD place, m, ?_, ?_⟩
    · rfl
    · simp -dsimp -implicitDefEqProofs [lv]
end K18

set_option maxRecDepth 100000
namespace K18
open PySem PySem.Spec PyProof.Rows L2 FL
variable {cl : Nat → Addr} {ds : List Int} {j c : Nat} {E : List (String × Nat)} {T U : List Row} {m m' : Me}

theorem inj_on {α β : Type} {f : α → β} : ∀ {l : List α}, (l.map f).Nodup → ∀ {a b : α}, a ∈ l → b ∈ l → f a = f b → a = b
  | [], _, _, _, h, _, _ => by cases h
  | x :: l, hn, a, b, ha, hb, e => by
    rw [List.map_cons, List.nodup_cons] at hn
    rcases List.mem_cons.mp ha with h1 | ha
    · rcases List.mem_cons.mp hb with h2 | hb
      · rw [h1, h2]
      · exact absurd (List.mem_map.mpr ⟨b, hb, by rw [← e, h1]⟩) hn.1
    · rcases List.mem_cons.mp hb with h2 | hb
      · exact absurd (List.mem_map.mpr ⟨a, ha, by rw [e, h2]⟩) hn.1
      · exact inj_on hn.2 ha hb e
theorem ones_app (w : String) (T : List Row) (r : Row) : onesL w (T ++ [r]) = onesL w T ++ (if r.1 = w then [r.2] else []) := by
  unfold onesL
  rw [List.filter_append, List.map_append]
  congr 1
  by_cases h : r.1 = w <;> simp [h]
theorem fns3 (n : Nat) : G.fns cl (n + 1) 3 = runDefK 4 4 (G.b3 cl (G.fns cl n)) := rfl
theorem tie_ok (S : SS cl ds j c E T U m) (n : Nat) (r : Row) (hs : (r.2.1.map fun k : Nat => (k : Int)).Pairwise (· ≤ ·)) (hl : r.2.1.length ≤ 1000) (ht : T.length < 1000) :
    RHas (OkR fun (d : D) m' => d = D.non ∧ ∃ E', SS cl ds j c E' (T ++ [r]) U m') (G.fns cl (n + 1) 3 [.ref j, .str (Str.ofString r.1), mkD r.2.1, mnD r.2.2] m) := by
  rw [fns3]
  refine has_defK [some (.ref j), some (.str (Str.ofString r.1)), some (mkD r.2.1), some (mnD r.2.2)] ?_
  unfold G.b3
  have hj := S.hj
  have hlk : (fsM (j + 1) c).lookup ("ties" : Str) = some (.ref (j + 1)) := by simp [fsM, List.lookup, ofs_eq]
  have hq := S.hq
  have lt1 : j + 2 < m.length := by obtain ⟨h, _⟩ := List.getElem?_eq_some_iff.mp S.ht; exact h
  have old : ∀ {k : Nat} {x y : Cell}, m[k]? = some x → (m ++ [y])[k]? = some x := fun h => by rw [List.getElem?_append_left (List.getElem?_eq_some_iff.mp h).1]; exact h
  have hq1 : (m ++ [Cell.lst []])[j + 1]? = some (.dK (E.map encE)) := old hq
  have hes : (E.map encE).length < 1000000 := by have := S.few; simp; omega
  have hsort := fun m => sortT_asc hs (by simp; omega) m
  rw [← mk_map] at hsort
  have hgt : ∀ m, gTuple [.lst ((r.2.1.map fun k : Nat => (k : Int)).map D.int)] m = .ok (mkD r.2.1) m := fun m => by rw [mk_map]; rfl
  generalize hSL : (r.2.1.map fun k : Nat => (k : Int)).map D.int = SL at *
  have htd : D.tup [mkD r.2.1, mnD r.2.2] = tieD r.2 := rfl
  have hget := get_E (E := E) r.1
  have hon := fun w => ones_app w T r
  generalize hKV : E.map encE = KV at *
  generalize fsM (j + 1) c = FS at *
  cases hlu : E.lookup r.1 with
  | some p =>
    rw [hlu] at hget
    obtain ⟨hp, hc⟩ := S.cells _ (lookup_some hlu)
    have hc1 : (m ++ [Cell.lst []])[p]? = some (.lst ((onesL r.1 T).map tieD)) := old hc
    have hfew : ((onesL r.1 T).map tieD).length < 1000000 := by
      have := List.length_filter_le (fun r' : Row => decide (r'.1 = r.1)) T
      simp [onesL]; omega
    have hlt : p < m.length := (List.getElem?_eq_some_iff.mp hc).1
    have goal : OkR (fun (d : D) m' => d = D.non ∧ ∃ E', SS cl ds j c E' (T ++ [r]) U m') (.ok D.non ((m ++ [Cell.lst []]).set p (.lst ((onesL r.1 T).map tieD ++ [tieD r.2])))) := by
      refine ⟨_, _, rfl, rfl, E, ?_⟩
      have g : ∀ {k : Nat} {x : Cell}, k ≠ p → m[k]? = some x → ((m ++ [Cell.lst []]).set p (.lst ((onesL r.1 T).map tieD ++ [tieD r.2])))[k]? = some x := fun hk h => by
        rw [List.getElem?_set_ne (Ne.symm hk)]; exact old h
      refine ⟨?_, S.j0, ?_, ?_, g (by omega) S.ht, fun e he => ?_, S.nk, S.np, fun r' hr' => ?_, by have := S.few; simp; omega⟩
      · obtain ⟨k, h0, e⟩ := S.w.w
        exact ⟨k, h0, g (by omega) e⟩
      · exact g (by omega) S.hj
      · rw [hKV]; exact g (by omega) hq
      · obtain ⟨q1, q2⟩ := S.cells e he
        refine ⟨q1, ?_⟩
        by_cases hep : e.2 = p
        · have : e = (r.1, p) := by
            have h1 := S.np
            have h2 := lookup_some hlu
            exact inj_on h1 he h2 hep
          subst this
          rw [List.getElem?_set_self (by simp; omega), hon, if_pos rfl, List.map_append]
          rfl
        · rw [g hep q2, hon, if_neg, List.append_nil]
          intro h
          exact hep (by have := inj_on S.nk he (lookup_some hlu) h.symm; rw [this])
      · rcases List.mem_append.mp hr' with h | h
        · exact S.al r' h
        · rw [List.mem_singleton.mp h]
          exact List.mem_map.mpr ⟨_, lookup_some hlu, rfl⟩
    generalize hM1 : m ++ [Cell.lst []] = M1 at *
    generalize (onesL r.1 T).map tieD = LL at *
    generalize tieD r.2 = TD at *
    generalize mkD r.2.1 = md at *
    generalize mnD r.2.2 = nd at *
    simp -dsimp -implicitDefEqProofs [hj, hlk, hq, hq1, hes, hget, keyD, hc1, hsort, hgt, hfew, htd, hM1]
    exact goal
  | none =>
    rw [hlu] at hget
    have hno := lookup_none hlu
    have hset := set_E (p := m.length) hno
    rw [hKV] at hset
    have h0 := ones_none S.al hno
    have hm2 : ((m ++ [Cell.lst []]).set (j + 1) (.dK ((E ++ [(r.1, m.length)]).map encE)))[m.length]? = some (.lst []) := by
      rw [List.getElem?_set_ne (by omega)]; simp
    have goal : OkR (fun (d : D) m' => d = D.non ∧ ∃ E', SS cl ds j c E' (T ++ [r]) U m') (.ok D.non (((m ++ [Cell.lst []]).set (j + 1) (.dK ((E ++ [(r.1, m.length)]).map encE))).set m.length (.lst ([] ++ [tieD r.2])))) := by
      refine ⟨_, _, rfl, rfl, E ++ [(r.1, m.length)], ?_⟩
      have g : ∀ {k : Nat} {x : Cell}, k ≠ j + 1 → m[k]? = some x → (((m ++ [Cell.lst []]).set (j + 1) (.dK ((E ++ [(r.1, m.length)]).map encE))).set m.length (.lst ([] ++ [tieD r.2])))[k]? = some x := fun hk h => by
        have := (List.getElem?_eq_some_iff.mp h).1
        rw [List.getElem?_set_ne (by omega), List.getElem?_set_ne (Ne.symm hk)]; exact old h
      refine ⟨?_, S.j0, ?_, ?_, g (by omega) S.ht, fun e he => ?_, ?_, ?_, fun r' hr' => ?_, by have := S.few; simp; omega⟩
      · obtain ⟨k, h0, e⟩ := S.w.w
        exact ⟨k, h0, g (by omega) e⟩
      · exact g (by omega) S.hj
      · rw [List.getElem?_set_ne (by omega), List.getElem?_set_self (by simp; omega)]
      · rcases List.mem_append.mp he with h | h
        · obtain ⟨q1, q2⟩ := S.cells e h
          refine ⟨q1, ?_⟩
          rw [g (by omega) q2, hon, if_neg, List.append_nil]
          intro h'
          exact hno (h' ▸ List.mem_map.mpr ⟨e, h, rfl⟩)
        · rw [List.mem_singleton.mp h]
          refine ⟨by simpa using lt1, ?_⟩
          rw [List.getElem?_set_self (by simp), hon, if_pos rfl, h0]
          rfl
      · rw [List.map_append, List.nodup_append]
        refine ⟨S.nk, by simp, fun a ha b hb => ?_⟩
        rw [List.mem_singleton.mp (show b ∈ [r.1] from hb)]
        rintro rfl
        exact hno ha
      · rw [List.map_append, List.nodup_append]
        refine ⟨S.np, by simp, fun a ha b hb => ?_⟩
        rw [List.mem_singleton.mp (show b ∈ [m.length] from hb)]
        obtain ⟨e, he, rfl⟩ := List.mem_map.mp ha
        have := (List.getElem?_eq_some_iff.mp (S.cells e he).2).1
        omega
      · rw [List.map_append]
        rcases List.mem_append.mp hr' with h | h
        · exact List.mem_append_left _ (S.al r' h)
        · rw [List.mem_singleton.mp h]; simp
    generalize (E ++ [(r.1, m.length)]).map encE = KV2 at *
    generalize hM1 : m ++ [Cell.lst []] = M1 at *
    generalize hM2 : M1.set (j + 1) (Cell.dK KV2) = M2 at *
    generalize tieD r.2 = TD at *
    generalize mkD r.2.1 = md at *
    generalize mnD r.2.2 = nd at *
    simp -dsimp -implicitDefEqProofs [hj, hlk, hq, hq1, hes, hget, hset, keyD, hm2, hsort, hgt, htd, hM1, hM2]
    exact goal
end K18

set_option maxRecDepth 100000
namespace K18
open PySem PySem.Spec PyProof.Rows L2 FL
variable {cl : Nat → Addr} {ds : List Int} {j c : Nat} {E : List (String × Nat)} {T U : List Row} {m m' : Me}

theorem fns2 (n : Nat) : G.fns cl (n + 1) 2 = runDef 1 1 (G.b2 cl (G.fns cl n)) := rfl
theorem fns1 (n : Nat) : G.fns cl (n + 1) 1 = runDefK 2 2 (G.b1 cl (G.fns cl n)) := rfl
theorem fns12 (n : Nat) : G.fns cl (n + 1) 12 = mkC (cl 0) (G.fns cl n 1) := rfl
theorem SS.setj (S : SS cl ds j c E T U m) (c' : Nat) : SS cl ds j c' E T U (m.set j (.ins (cl 0) (fsM (j + 1) c'))) := by
  have lt1 : j + 2 < m.length := by obtain ⟨h, _⟩ := List.getElem?_eq_some_iff.mp S.ht; exact h
  have j0 := S.j0
  have g : ∀ {k : Nat} {x : Cell}, k ≠ j → m[k]? = some x → (m.set j (.ins (cl 0) (fsM (j + 1) c')))[k]? = some x := fun hk h => by rw [List.getElem?_set_ne (Ne.symm hk)]; exact h
  refine ⟨?_, S.j0, by rw [List.getElem?_set_self (by omega)], g (by omega) S.hq, g (by omega) S.ht, fun e he => ⟨(S.cells e he).1, g (by have := (S.cells e he).1; omega) (S.cells e he).2⟩, S.nk, S.np, S.al, S.few⟩
  obtain ⟨k, h0, e⟩ := S.w.w
  exact ⟨k, h0, g (by omega) e⟩
theorem mark_ok (S : SS cl ds j c E T U m) (n : Nat) : RHas (OkR fun (d : D) m' => d = .int (c : Int) ∧ SS cl ds j (c + 1) E T U m') (G.fns cl (n + 1) 2 [.ref j] m) := by
  rw [fns2]
  refine has_def' [some (.ref j)] ?_
  unfold G.b2
  have S' := S.setj (c + 1)
  have hj := S.hj
  have hl : (m.set j (.ins (cl 0) (fsM (j + 1) ((c + 1 : Nat) : Int)))).length = m.length := by simp
  have hj' := S'.hj
  have l1 : (fsM (j + 1) (c : Int)).lookup ("marks" : Str) = some (.int (c : Int)) := by simp [fsM, List.lookup, ofs_eq]
  have l2 : (fsM (j + 1) ((c + 1 : Nat) : Int)).lookup ("marks" : Str) = some (.int ((c : Int) + 1)) := by simp [fsM, List.lookup, ofs_eq]
  have l3 : putA ("marks" : Str) (.int ((c : Int) + 1)) (fsM (j + 1) (c : Int)) = fsM (j + 1) ((c + 1 : Nat) : Int) := by simp [fsM, putA, ofs_eq]
  have l4 : (fsM (j + 1) (c : Int)).length < 1000 := by simp [fsM]
  generalize fsM (j + 1) (c : Int) = F1 at *
  generalize fsM (j + 1) ((c + 1 : Nat) : Int) = F2 at *
  generalize hM2 : m.set j (.ins (cl 0) F2) = M2 at *
  simp -dsimp -implicitDefEqProofs [hj, l1, l3, l4, hM2, hj', l2, leave_same hl]
  exact ⟨_, _, rfl, rfl, S'⟩
theorem new_ok (n : Nat) (m : Me) : G.fns cl (n + 2) 12 [.int 10] m = .ok (.ref m.length) (m ++ [.ins (cl 0) (fsM (m.length + 1) 0), .dK []]) := by
  rw [fns12]
  have h1 : G.fns cl (n + 1) 1 [.ref m.length, .int 10] (m ++ [.ins (cl 0) []]) = .ok .non (m ++ [.ins (cl 0) (fsM (m.length + 1) 0), .dK []]) := by
    rw [fns1]
    refine has_eq (has_defK [some (.ref m.length), some (.int 10)] ?_)
    unfold G.b1
    simp -dsimp -implicitDefEqProofs [putA, fsM, ofs_eq]
  refine has_eq ?_
  simp -dsimp -implicitDefEqProofs [h1]
theorem new_ss (h : Wn 0 ds m) : SS cl ds m.length 0 [] [] [] (m ++ [.ins (cl 0) (fsM (m.length + 1) 0), .dK [], .lst []]) := by
  have := h.lt
  refine ⟨h.app, this, by simp, by simp, by simp, by simp, by simp, by simp, by simp, by simp⟩
/-! ### the law -/
theorem fns5 (n : Nat) : G.fns cl (n + 1) 5 = runDef 8 2 (bDraws (G.fns cl n)) := rfl
theorem fns6 (n : Nat) : G.fns cl (n + 1) 6 = runDef 2 2 (bNext (G.fns cl n)) := rfl
theorem fns7 (n : Nat) : G.fns cl (n + 1) 7 = runDef 2 2 (bPick 6 (G.fns cl n)) := rfl
theorem fns8 (n : Nat) : G.fns cl (n + 1) 8 = runDef 3 2 (bEqual (G.fns cl n 8)) := rfl
theorem fns11 (n : Nat) : G.fns cl (n + 1) 11 = runDef 12 1 (G.b11 cl (G.fns cl n)) := rfl
theorem nxt {m : Me} (h : Wn 0 ds m) {a : Int} (ha : 0 < a) : RHas (OkR fun d m' => ∃ v : Nat, (v : Int) < a ∧ d = .int v ∧ Dn 0 ds m m') (G.fns cl 229 6 [.ref 0, .int a] m) := nextN_has h (fns6 228) ha
theorem pik {m : Me} (h : Wn 0 ds m) {xs : List D} (hx : xs ≠ []) : RHas (OkR fun d m' => d ∈ xs ∧ Dn 0 ds m m') (G.fns cl 229 7 [.ref 0, .lst xs] m) := pickN_has h (fns7 228) (fns6 227) hx
theorem dueR_al (w : String) (place : Int) (A : List Tie) : al (dueR w place A) = true ∧ dpD (dueR w place A) < 229 := by
  have h1 : ∀ d, al d = true → dpD d ≤ 2 → al (yesD d) = true ∧ dpD (yesD d) < 229 := fun d ha hd => by
    refine ⟨by simp [yesD, al, alL, strOk_ofs, ha], by simp only [yesD, dpD, dpL]; omega⟩
  have h2 : al (noD place) = true ∧ dpD (noD place) < 229 := ⟨by simp [noD, al, alL, strOk_ofs], by simp [noD, dpD, dpL]⟩
  have h3 : al (yesD (formD w)) = true ∧ dpD (yesD (formD w)) < 229 := by
    unfold formD
    split
    · exact h1 _ (by simp [al, alL, strOk_ofs]) (by simp [dpD, dpL])
    · exact h1 _ (by simp [al, alL, strOk_ofs]) (by simp [dpD, dpL])
  cases A with
  | nil => exact h3
  | cons a l =>
    unfold dueR
    simp only
    split
    · exact h1 _ (mn_nb _).2.2 (mn_nb _).2.1
    · exact h2
end K18

set_option maxRecDepth 100000
namespace K18
open PySem PySem.Spec PyProof.Rows L2 FL
variable {cl : Nat → Addr} {ds : List Int} {j c : Nat} {E : List (String × Nat)} {T U : List Row} {m m' : Me}

theorem SS.setU (S : SS cl ds j c E T U m) (V : List Row) : SS cl ds j c E T V (m.set (j + 2) (.lst (V.map rowD))) := by
  have lt1 : j + 2 < m.length := by obtain ⟨h, _⟩ := List.getElem?_eq_some_iff.mp S.ht; exact h
  have g : ∀ {k : Nat} {x : Cell}, k ≠ j + 2 → m[k]? = some x → (m.set (j + 2) (.lst (V.map rowD)))[k]? = some x := fun hk h => by rw [List.getElem?_set_ne (Ne.symm hk)]; exact h
  refine ⟨?_, S.j0, g (by omega) S.hj, g (by omega) S.hq, by rw [List.getElem?_set_self (by omega)], fun e he => ⟨(S.cells e he).1, g (by have := (S.cells e he).1; omega) (S.cells e he).2⟩, S.nk, S.np, S.al, S.few⟩
  obtain ⟨k, h0, e⟩ := S.w.w
  exact ⟨k, h0, g (by omega) e⟩
def IL (ns ds : List Int) (r : List D) (ρ : En) (m' : Me) : Prop := ∃ x2 x3 x4 x5 x6 x7 x8 x9 x10 x11 : Option D, ρ = [some (.scr ns), some (.ref 0), x2, x3, x4, x5, x6, x7, x8, x9, x10, x11] ∧ Wn 0 ds m'
def II (cl : Nat → Addr) (ns ds : List Int) (j c : Nat) (x2 : D) (many : Int) (r : List D) (ρ : En) (m' : Me) : Prop := ∃ (x4 x7 x8 x9 x10 x11 : Option D) (E : List (String × Nat)) (T : List Row),
  ρ = [some (.scr ns), some (.ref 0), some x2, some (.int many), x4, some (.ref j), some (.ref (j + 2)), x7, x8, x9, x10, x11] ∧ SS cl ds j c E T T m' ∧ T.length + r.length ≤ 12 ∧ (∀ d ∈ r, ∃ k : Int, d = .int k) ∧ ∀ q ∈ T, q.2.1.Nodup
theorem able_nd (h : ∀ q ∈ T, q.2.1.Nodup) (w : String) (marks : List Nat) : ∀ t ∈ ableL w marks T, t.1.Nodup := fun t ht => by
  obtain ⟨q, hq, rfl⟩ := List.mem_map.mp ht
  exact h q (List.mem_filter.mp hq).1
theorem sub_pw {l : List Nat} {n : Nat} (h : l.Sublist (List.range n)) : (l.map fun k : Nat => (k : Int)).Pairwise (· ≤ ·) := by
  rw [List.pairwise_map]
  exact (List.Pairwise.sublist h List.pairwise_lt_range).imp fun {a b} hab => by omega
theorem sub_nd {l : List Nat} {n : Nat} (h : l.Sublist (List.range n)) : l.Nodup := List.Nodup.sublist h List.nodup_range
theorem rng_al (n : Nat) (m : Me) : gNe (.lst ((List.range n).map fun (k : Nat) => D.int (k : Int))) (.lst (rngL 0 n)) m = .ok (.bl false) m := by
  have hn : nb (.lst ((List.range n).map fun (k : Nat) => D.int (k : Int))) = true := by
    simp only [nb]; exact nbL_iff.mpr fun x hx => by obtain ⟨k, _, rfl⟩ := List.mem_map.mp hx; rfl
  have hd : dpD (.lst ((List.range n).map fun (k : Nat) => D.int (k : Int))) ≤ 64 := by
    have : dpL ((List.range n).map fun (k : Nat) => D.int (k : Int)) ≤ 1 := dpL_le.mpr fun x hx => by obtain ⟨k, _, rfl⟩ := List.mem_map.mp hx; simp [dpD]
    simp only [dpD]; omega
  rw [rngL_map, gNe_nb m hn hn hd hd, eqc_self]; rfl
theorem holds (ns : List Int) (h : ns.length ≤ 63) : ∃ m', G.fns cl 230 11 [.scr ns] [] = .ok (.bl true) m' := by
  obtain ⟨ds, e1⟩ := draws_ok (G.fns cl 228) h (many := 400) (by decide) (by decide) []
  rw [← fns5] at e1
  suffices H : RHas (OkR fun d _ => d = .bl true) (G.fns cl 230 11 [.scr ns] []) by
    obtain ⟨d, m, e, rfl⟩ := H.ex; exact ⟨m, e⟩
  rw [fns11]
  refine has_def' [some (.scr ns), none, none, none, none, none, none, none, none, none, none, none] ?_
  unfold G.b11
  simp -dsimp -implicitDefEqProofs [e1, keyD, setK]
  refine for_has (IL ns ds) ?step ?done ⟨none, none, none, none, none, none, none, none, none, none, rfl, ⟨0, Int.le_refl _, rfl⟩⟩
  case step =>
    rintro d r ρ m ⟨x2, x3, x4, x5, x6, x7, x8, x9, x10, x11, rfl, W⟩
    refine ⟨rfl, _, rfl, ?_⟩
    generalize hQ0 : (kL _ _ : Fl → Prop) = Q0
    have hnew := new_ok (cl := cl) 227 m
    have S := new_ss (cl := cl) W
    have hM : (m ++ [Cell.ins (cl 0) (fsM (m.length + 1) 0), .dK []]) ++ [.lst []] = m ++ [.ins (cl 0) (fsM (m.length + 1) 0), .dK [], .lst []] := by simp
    have hML : (m ++ [Cell.ins (cl 0) (fsM (m.length + 1) 0), .dK []]).length = m.length + 2 := by simp
    generalize m ++ [Cell.ins (cl 0) (fsM (m.length + 1) 0), .dK [], .lst []] = M0 at *
    generalize m ++ [Cell.ins (cl 0) (fsM (m.length + 1) 0), .dK []] = M1 at *
    generalize m.length = j at *
    clear W
    simp -dsimp -implicitDefEqProofs [hnew, hM, hML]
    refine (nxt S.w (by decide)).ok fun d' m1 ⟨v, hv, hd, v1⟩ => ?_
    subst hd
    have S1 := S.ev v1
    have y1 : (2 + (v : Int)) ≤ 1000000 ∧ (-1000000 : Int) ≤ 2 + (v : Int) := by omega
    have y3 : ((2 : Int) + (v : Int)).toNat = v + 2 := by omega
    simp -dsimp -implicitDefEqProofs [y1, y3]
    refine comp_count (fun k m' => SS cl ds j k [] [] [] m') (fun k => D.int (k : Int)) S1 (fun d hd k m' hk S => ⟨_, rfl, ?_, ?_⟩) (fun m2 S2 => ?_)
    · simp -dsimp -implicitDefEqProofs
    · have hlk : (fsM (j + 1) (k : Int)).lookup ("new_mark" : Str) = none := by simp [fsM, List.lookup, ofs_eq]
      have hj := S.hj
      have hmk := mark_ok S 228
      generalize fsM (j + 1) (k : Int) = FS at *
      simp -dsimp -implicitDefEqProofs [hj, hlk]
      exact hmk.ok fun d2 m2 ⟨h1, h2⟩ => by subst h1; exact ⟨_, _, rfl, rfl, h2⟩
    have hne := rng_al (v + 2) m2
    have hlen : (rngL 0 (v + 2)).length = v + 2 := by simp [rngL]
    rw [hlen] at S2
    rw [hlen]
    generalize hL1 : (List.range (v + 2)).map (fun (k : Nat) => D.int (k : Int)) = L1 at *
    simp -dsimp -implicitDefEqProofs [y1, y3, hne]
    refine for_has (II cl ns ds j (v + 2) d (2 + v)) ?istep ?idone ⟨_, _, _, _, _, _, [], [], rfl, S2, by simp [rngL], fun d hd => by obtain ⟨k, _, rfl⟩ := rng_mem hd; exact ⟨_, rfl⟩, by simp⟩
    case idone =>
      rintro ρ m ⟨x4, x7, x8, x9, x10, x11, E, T, rfl, S, _, _, _⟩
      refine ⟨rfl, ?_⟩
      subst Q0
      simp -dsimp -implicitDefEqProofs
      exact ⟨_, _, _, _, _, _, _, _, _, _, rfl, S.w⟩
    case istep =>
      clear hQ0 S S1 S2 hne hnew hM hML v1
      rintro di r ρ m ⟨x4, x7, x8, x9, x10, x11, E, T, rfl, S, hT, hint, hnd⟩
      refine ⟨rfl, _, rfl, ?_⟩
      obtain ⟨time, rfl⟩ := hint _ List.mem_cons_self
      have hint' : ∀ d ∈ r, ∃ k : Int, d = .int k := fun d hd => hint d (List.mem_cons_of_mem _ hd)
      simp only [List.length_cons] at hT
      generalize hQ1 : (kL _ _ : Fl → Prop) = Q1
      simp -dsimp -implicitDefEqProofs
      refine (pik S.w (by simp)).ok fun d' m1 ⟨hd, v1⟩ => ?_
      obtain ⟨w, rfl⟩ : ∃ w : String, d' = .str (Str.ofString w) := by
        simp only [List.mem_cons, List.not_mem_nil, or_false] at hd
        rcases hd with rfl | rfl | rfl | rfl
        · exact ⟨"t", rfl⟩
        · exact ⟨"x", rfl⟩
        · exact ⟨"if", rfl⟩
        · exact ⟨"rules", rfl⟩
      clear hd
      have S1 := S.ev v1
      clear S v1
      simp -dsimp -implicitDefEqProofs [y1, y3]
      rw [rngL_map]
      refine comp_selP (fun m' => SS cl ds j (v + 2) E T T m') (fun k : Nat => D.int (k : Int)) S1 (fun x hx m' S => ⟨_, rfl, ?_, fun m2 S2 => ?_⟩) (fun marks m2 hsub S2 => ?_)
      · simp -dsimp -implicitDefEqProofs
        refine (nxt S.w (by decide)).ok fun d' m1 ⟨v, hv, hd, v1⟩ => ?_
        subst hd
        by_cases hz : v = 0
        · simp -dsimp -implicitDefEqProofs [hz]
          exact S.ev v1
        · simp -dsimp -implicitDefEqProofs [hz]
          exact S.ev v1
      · simp -dsimp -implicitDefEqProofs
      clear S1
      have hml : marks.length ≤ 1000 := by
        have := hsub.length_le
        simp at this; omega
      have hmd : D.tup (marks.map fun k : Nat => D.int (k : Int)) = mkD marks := rfl
      have hgt : ∀ m, gTuple [.lst (marks.map fun k : Nat => D.int (k : Int))] m = .ok (mkD marks) m := fun m => rfl
      generalize marks.map (fun k : Nat => D.int (k : Int)) = LM at *
      simp -dsimp -implicitDefEqProofs [hgt]
      refine (nxt S2.w (by decide)).ok fun d' m3 ⟨v3, hv3, hd, v3'⟩ => ?_
      subst hd
      have S3 := S2.ev v3'
      clear S2 v3'
      by_cases hz : v3 = 0
      · subst hz
        simp -dsimp -implicitDefEqProofs
        refine (pik S3.w (by simp)).ok fun d' m4 ⟨hd, v4⟩ => ?_
        have S4 := S3.ev v4
        clear S3 v4
        obtain ⟨x, rfl⟩ : ∃ x : Mn, d' = mnD x := by
          simp only [List.mem_cons, List.not_mem_nil, or_false] at hd
          rcases hd with rfl | rfl | rfl
          · exact ⟨("place", time), rfl⟩
          · exact ⟨("rule", time), rfl⟩
          · exact ⟨("place", 50 + time), rfl⟩
        clear hd
        have hlk : (fsM (j + 1) ((v + 2 : Nat) : Int)).lookup ("tie" : Str) = none := by simp [fsM, List.lookup, ofs_eq]
        have hj := S4.hj
        have ht := tie_ok S4 228 (w, marks, x) (sub_pw hsub) hml (by omega)
        have hrw : D.tup [.str (Str.ofString w), mkD marks, mnD x] = rowD (w, marks, x) := rfl
        generalize mkD marks = md at *
        generalize hmx : mnD x = mdx at *
        generalize fsM (j + 1) ((v + 2 : Nat) : Int) = FS at *
        simp -dsimp -implicitDefEqProofs [hj, hlk]
        refine ht.ok fun d' m5 ⟨hd, E', S5⟩ => ?_
        subst hd
        have ht5 := S5.ht
        have hl5 : (T.map rowD).length < 1000000 := by simp; omega
        have S6 := S5.setU (T ++ [(w, marks, x)])
        have hfin : SS cl ds j (v + 2) E' (T ++ [(w, marks, x)]) (T ++ [(w, marks, x)]) (m5.set (j + 2) (.lst (T.map rowD ++ [rowD (w, marks, x)]))) := by simpa using S6
        clear S6
        generalize rowD (w, marks, x) = RD at *
        generalize T.map rowD = TL at *
        simp -dsimp -implicitDefEqProofs [ht5, hl5, hrw]
        subst Q1
        simp -dsimp -implicitDefEqProofs
        exact ⟨_, _, _, _, _, _, E', T ++ [(w, marks, x)], rfl, hfin, by simp; omega, hint', fun q hq => by
          rcases List.mem_append.mp hq with h | h
          · exact hnd q h
          · rw [List.mem_singleton.mp h]; exact sub_nd hsub⟩
      · have t1 := told_ok S3 224 w marks time
        have t2 := due_ok (cl := cl) (n := 228) (w := w) (marks := marks) (place := time) S3.ht
        rw [told_due (able_nd hnd w marks)] at t1
        obtain ⟨a1, a2⟩ := dueR_al w time (ableL w marks T)
        have t3 := equal_has (A := fun n => G.fns cl n 8) (fun n => fns8 n) 229 _ a1 a2 m3
        generalize dueR w time (ableL w marks T) = dd at *
        generalize mkD marks = md at *
        simp -dsimp -implicitDefEqProofs [hz, t1, t2, t3]
        subst Q1
        simp -dsimp -implicitDefEqProofs
        exact ⟨_, _, _, _, _, _, E, T, rfl, S3, by omega, hint', hnd⟩
  case done =>
    rintro ρ m ⟨x2, x3, x4, x5, x6, x7, x8, x9, x10, x11, rfl, W⟩
    refine ⟨rfl, ?_⟩
    simp -dsimp -implicitDefEqProofs
    rw [leave0 fun n => rfl]
    exact ⟨_, _, rfl, rfl⟩
end K18
theorem Law.holds (cl : Nat → PySem.Addr) (ns : List Int) (h : ns.length ≤ 63) : ∃ m', G.fns cl 230 11 [.scr ns] [] = .ok (.bl true) m' := K18.holds ns h

open PySem PySem.W PyProof.Rows
set_option maxRecDepth 100000 in
set_option maxHeartbeats 0 in
theorem PySem.Challenge.cw_namestay_k18_words_with_marks_holds : PySem.Challenge.rw_namestay_k18_words_with_marks.Holds := by
  w_on; o_law; k_head; (case hw => w_witness2)
  k_fill
  refine FL.walk_fnC (l := PySem.Challenge.rw_namestay_k18_words_with_marks) (x := "script") rfl rfl (fun w h Y => PySem.W.kIn_of Y) ?F
  case F =>
    intro w mg fa h KX GN hmg
    refine' G.all_mk KX GN hmg ?aC0 ?pg0 ?hd0 ?po0 ?sa0 ?mk0 ?kc0 ?nA0_uses ?nA0_rule_rows ?nA0_places ?nA0_marks ?nA0_ties ?nA0_most ?A0 ?l0 ?c0 ?k0 ?A1 ?i1 ?l1 ?c1 ?k1 ?A2 ?i2 ?l2 ?c2 ?k2 ?A3 ?i3 ?l3 ?c3 ?k3 ?A4 ?i4 ?l4 ?c4 ?k4 ?A5 ?l5 ?c5 ?k5 ?A6 ?l6 ?c6 ?k6 ?A7 ?l7 ?c7 ?k7 ?A8 ?l8 ?c8 ?k8 ?A9 ?l9 ?c9 ?k9 ?A10 ?l10 ?c10 ?k10 ?A11 ?l11 ?c11 ?k11 ?xaC0 ?xaS0 ?xL0 ?xsa0 ?xex0 ?xty0 ?xkp0 ?xiC0 ?xtI0 ?xl0 ?xc0 ?xk0 ?xgt0 ?xrd0 ?xv0 ?xno0_place ?xno0_word ?xga0 ?xgg0 ?xhd0 ?xcl0 ?xha0 ?xhn0 ?xht0 ?xhm0 ?xkit0 ?xam_StayError ?xeb_StayError ?xec_StayError ?xet_StayError ?xes0_StayError ?z_all ?z_tuple ?z_sorted ?z_len ?z_max ?z_range ?z_int ?z_abs ?z_isinstance ?z_bool ?z_str ?z_list ?c_FORMS ?d_FORMS ?e_FORMS (fun cl ns h => Law.holds cl ns h)
    (case aC0 => k_is)
    (case pg0 => k_is)
    (case hd0 => k_is)
    (case po0 => k_is)
    (case sa0 => k_is)
    (case mk0 => k_is)
    (case kc0 => k_is)
    (case nA0_uses => k_is)
    (case nA0_rule_rows => k_is)
    (case nA0_places => k_is)
    (case nA0_marks => k_is)
    (case nA0_ties => k_is)
    (case nA0_most => k_is)
    (case A0 => k_is)
    (case l0 => k_is)
    (case c0 => k_is)
    (case k0 => k_is)
    (case A1 => k_is)
    (case i1 => k_is)
    (case l1 => k_is)
    (case c1 => k_is)
    (case k1 => k_is)
    (case A2 => k_is)
    (case i2 => k_is)
    (case l2 => k_is)
    (case c2 => k_is)
    (case k2 => k_is)
    (case A3 => k_is)
    (case i3 => k_is)
    (case l3 => k_is)
    (case c3 => k_is)
    (case k3 => k_is)
    (case A4 => k_is)
    (case i4 => k_is)
    (case l4 => k_is)
    (case c4 => k_is)
    (case k4 => k_is)
    (case A5 => k_is)
    (case l5 => k_is)
    (case c5 => k_is)
    (case k5 => k_is)
    (case A6 => k_is)
    (case l6 => k_is)
    (case c6 => k_is)
    (case k6 => k_is)
    (case A7 => k_is)
    (case l7 => k_is)
    (case c7 => k_is)
    (case k7 => k_is)
    (case A8 => k_is)
    (case l8 => k_is)
    (case c8 => k_is)
    (case k8 => k_is)
    (case A9 => k_is)
    (case l9 => k_is)
    (case c9 => k_is)
    (case k9 => k_is)
    (case A10 => k_is)
    (case l10 => k_is)
    (case c10 => k_is)
    (case k10 => k_is)
    (case A11 => k_is)
    (case l11 => k_is)
    (case c11 => k_is)
    (case k11 => k_is)
    (case xaC0 => k_is)
    (case xaS0 => k_is)
    (case xL0 => k_is)
    (case xsa0 => k_is)
    (case xex0 => k_is)
    (case xty0 => k_is)
    (case xkp0 => k_is)
    (case xiC0 => k_is)
    (case xtI0 => k_is)
    (case xl0 => k_is)
    (case xc0 => k_is)
    (case xk0 => k_is)
    (case xgt0 => k_is)
    (case xrd0 => k_is)
    (case xv0 => k_is)
    (case xno0_place => k_is)
    (case xno0_word => k_is)
    (case xga0 => k_is)
    (case xgg0 => k_is)
    (case xhd0 => k_is)
    (case xcl0 => k_is)
    (case xha0 => k_is)
    (case xhn0 => k_is)
    (case xht0 => k_is)
    (case xhm0 => k_is)
    (case xkit0 => kit_is)
    (case xam_StayError => k_is)
    (case xeb_StayError => k_is)
    (case xec_StayError => k_is)
    (case xet_StayError => k_is)
    (case xes0_StayError => k_is)
    (case z_all => k_is)
    (case z_tuple => k_is)
    (case z_sorted => k_is)
    (case z_len => k_is)
    (case z_max => k_is)
    (case z_range => k_is)
    (case z_int => k_is)
    (case z_abs => k_is)
    (case z_isinstance => k_is)
    (case z_bool => k_is)
    (case z_str => k_is)
    (case z_list => k_is)
    (case c_FORMS => k_is)
    (case d_FORMS => k_is)
    (case e_FORMS => exact ⟨rfl, rfl, by decide, by decide +kernel, ⟨rfl, rfl⟩⟩)
