import PyProof.Rows.All
import Wide.All
import OpenK.AllK
import Wide.FinOn
import HandS.ForMost
import HandS.ForExc
import HandS.Walk
import HandS.Zip
import HandS.Wide
import HandS.IsInst
import HandS.Flow
import HandS.Exc
import HandS.ExcField
import HandS.TryOnly
import HandS.WordsExc
import HandS.ExcInit
import HandS.Defaults
import KE.KExcSuper
import KE.DataEq
import HandS.CallSlots
import HandS.HotCalls
import HandS.TupLen
import HandS.Dict
import HandS.Iter
import HandS.TupSets
import HandS.SortInts
import HandS.Conv
import HandS.TupAny
import KE.KDictWalk
import KE.KDictKeyed
import KE.KDictPairs
import KE.KDictCopyH
import HandS.DictComp
import KE.KDictOf
import OpenK.KMeth
import KE.KOpsOwn
import KE.KIsAll
import HandS.TupLe
import HandS.SortRule
import KE.KSortTup
import HandS.Star
import HandS.TryMany
import KE.GoesMore
import HandS.IterVal
import KE.KOwnIter
import HandS.OwnIter
import HandS.Style
import HandS.Finally
import PyProof.DictMoreH
import PyProof.DictRoadsH
import PyProof.MeetsDictList
import KE.SortData
import KE.KUnpackStar
import PySem.Challenge.RW_leastcomplaint_k35_blended_divisions
set_option Elab.async false
set_option linter.all false
set_option maxRecDepth 100000
set_option maxHeartbeats 4000000
namespace DL
open PySem PySem.Spec PyProof.Rows L2

/-- data: what a value stands for -/
inductive D where
  | non | bl (b : Bool) | int (i : Int) | str (x : Str) | ty (n : String)
  | lst (xs : List D) | tup (xs : List D) | lsk (xs : List D)
  | dI (ks : List (List Int)) (vs : List D) | dK (ks : List Key) (vs : List D)
  | obj (nm : Str) (ns : List Str) (vs : List D)
  | ref (a : Addr)
  | exc (a dd : Addr) (f : Str) (x : D)
  | cls (n : Str)

abbrev Frag := PySem.W.Frag
/-- a thing known by its one object -/
def objO (a : Addr) (o : Obj) : HO := .ext fun h => h.get? a = some o
/-- a dict whose keys are tuples of ints -/
def hI (k : List Int) : Int := reduceHash (Builtin.Tuple.tupleHashOf (k.map hashInt))
def entI (x : List Int × Addr × Value) : DictEntry := ⟨hI x.1, .ref x.2.1, x.2.2⟩
structure DictObj (a : Addr) (o : Obj) (xs : List (List Int × Addr × Value)) : Prop where
  ex : o.ExactDict
  dat : ∃ ep, o.data = .dict (xs.map entI).toArray ep
  nod : (xs.map (·.1)).Nodup
  len : xs.length ≤ sizeLine
  sys : (a == sysModules) = false

mutual
inductive Den (K : Frag) (F : Hp) : V → D → Prop
  | non : Den K F .non .non
  | bl (b : Bool) : Den K F (.bl b) (.bl b)
  | int (i : Int) : Den K F (.int i) (.int i)
  | str (x : Str) : Den K F (.str x) (.str x)
  | ty (n : String) : Den K F (.ty n) (.ty n)
  | lst {a : Addr} {xs : List V} {ds : List D} : Rd F a (.lst xs) → Dens K F xs ds → Den K F (.ref a) (.lst ds)
  | tup {a : Addr} {xs : List V} {ds : List D} : SqT K F a xs → Dens K F xs ds → Den K F (.ref a) (.tup ds)
  | lsk {a : Addr} {xs : List V} {ds : List D} : SqL K F a xs → Dens K F xs ds → Den K F (.ref a) (.lsk ds)
  | dI {a : Addr} {o : Obj} {xs : List (List Int × Addr × Value)} {vs : List V} {ks : List (List Int)} {ds : List D} : F a = some (objO a o) → DictObj a o xs → xs.map (·.1) = ks → (∀ x ∈ xs, SqT K F x.2.1 (x.1.map V.int)) → Vals vs (xs.map (·.2.2)) → Dens K F vs ds → Den K F (.ref a) (.dI ks ds)
  | dK {a : Addr} {kvs : List (Key × V)} {ks : List Key} {ds : List D} : Rd F a (.dK kvs) → kvs.map (·.1) = ks → Dens K F (kvs.map (·.2)) ds → Den K F (.ref a) (.dK ks ds)
  | obj {a C dx : Addr} {fs : List (Str × V)} {nm : Str} {ns : List Str} {ds : List D} : F a = some (.ins C dx fs) → PySem.W.nsIn K mainGlobals nm = some (some (.ref C)) → fs.map (·.1) = ns → Dens K F (fs.map (·.2)) ds → Den K F (.ref a) (.obj nm ns ds)
  | ref (a : Addr) : Den K F (.ref a) (.ref a)
  | exc {a dd : Addr} {f : Str} {v : V} {x : D} : F dd = some (.xd [(f, v)]) → Den K F v x → Den K F (.ref a) (.exc a dd f x)
  | cls {C : Addr} {n : Str} : PySem.W.nsIn K mainGlobals n = some (some (.ref C)) → Den K F (.ref C) (.cls n)
inductive Dens (K : Frag) (F : Hp) : List V → List D → Prop
  | nil : Dens K F [] []
  | cons {v : V} {vs : List V} {d : D} {ds : List D} : Den K F v d → Dens K F vs ds → Dens K F (v :: vs) (d :: ds)
end

def Ex (H H' : Hp) : Prop := ∀ a o, H a = some o → H' a = some o
theorem Ex.refl (H : Hp) : Ex H H := fun _ _ h => h
theorem Ex.trans {H H1 H2 : Hp} (a : Ex H H1) (b : Ex H1 H2) : Ex H H2 := fun x o h => b x o (a x o h)
theorem Ex.new {H : Hp} {p : Addr} {o : HO} (h : H p = none) : Ex H (upd H p o) := fun a u e => by
  rw [upd_ne (ne_of_none e h)]
  exact e
theorem Ex.rd {H H' : Hp} {a : Addr} {u : HO} (e : Ex H H') (h : Rd H a u) : Rd H' a u := by
  rcases h with h | ⟨o, h⟩
  · exact .inl (e a _ h)
  · exact .inr ⟨o, e a _ h⟩
theorem Ex.sqL {K : Frag} {H H' : Hp} {a : Addr} {xs : List V} (e : Ex H H') (h : SqL K H a xs) : SqL K H' a xs := by
  rcases h with h | h
  · exact .inl (e.rd h)
  · exact .inr h
theorem Ex.sqT {K : Frag} {H H' : Hp} {a : Addr} {xs : List V} (e : Ex H H') (h : SqT K H a xs) : SqT K H' a xs := by
  rcases h with h | h
  · exact .inl (e.rd h)
  · exact .inr h
theorem Ex.free {H H' : Hp} {p : Addr} (e : Ex H H') (h : H' p = none) : H p = none := by
  cases h1 : H p with
  | none => rfl
  | some o => rw [e p o h1] at h; cases h

mutual
theorem Den.mono {K : Frag} {F F' : Hp} (e : Ex F F') : ∀ {v : V} {d : D}, Den K F v d → Den K F' v d
  | _, _, .non => .non
  | _, _, .bl b => .bl b
  | _, _, .int i => .int i
  | _, _, .str x => .str x
  | _, _, .ty n => .ty n
  | _, _, .lst h hs => .lst (e.rd h) (Dens.mono e hs)
  | _, _, .tup h hs => .tup (e.sqT h) (Dens.mono e hs)
  | _, _, .lsk h hs => .lsk (e.sqL h) (Dens.mono e hs)
  | _, _, .dI h ho hk ht hv hs => .dI (e _ _ h) ho hk (fun x hx => e.sqT (ht x hx)) hv (Dens.mono e hs)
  | _, _, .dK h hk hs => .dK (e.rd h) hk (Dens.mono e hs)
  | _, _, .obj h hn hk hs => .obj (e _ _ h) hn hk (Dens.mono e hs)
  | _, _, .ref a => .ref a
  | _, _, .exc h q => .exc (e _ _ h) (Den.mono e q)
  | _, _, .cls h => .cls h
theorem Dens.mono {K : Frag} {F F' : Hp} (e : Ex F F') : ∀ {vs : List V} {ds : List D}, Dens K F vs ds → Dens K F' vs ds
  | _, _, .nil => .nil
  | _, _, .cons h hs => .cons (Den.mono e h) (Dens.mono e hs)
end
section
variable {K : Frag} {F : Hp}
theorem Dens.length : ∀ {vs : List V} {ds : List D}, Dens K F vs ds → vs.length = ds.length
  | _, _, .nil => rfl
  | _, _, .cons _ hs => by rw [List.length_cons, List.length_cons, Dens.length hs]
theorem Dens.get : ∀ {vs : List V} {ds : List D} {i : Nat} {d : D}, Dens K F vs ds → ds[i]? = some d → ∃ v, vs[i]? = some v ∧ Den K F v d
  | _, _, _, _, .nil, e => by simp at e
  | _, _, 0, _, .cons h _, e => by simp at e; subst e; exact ⟨_, rfl, h⟩
  | _, _, i + 1, d, .cons _ hs, e => by
    obtain ⟨v, h1, h2⟩ := Dens.get (i := i) (d := d) hs (by simpa using e)
    exact ⟨v, by simpa using h1, h2⟩
theorem Dens.getV : ∀ {vs : List V} {ds : List D} {i : Nat} {v : V}, Dens K F vs ds → vs[i]? = some v → ∃ d, ds[i]? = some d ∧ Den K F v d
  | _, _, _, _, .nil, e => by simp at e
  | _, _, 0, _, .cons h _, e => by simp at e; subst e; exact ⟨_, rfl, h⟩
  | _, _, i + 1, v, .cons _ hs, e => by
    obtain ⟨d, h1, h2⟩ := Dens.getV (i := i) (v := v) hs (by simpa using e)
    exact ⟨d, by simpa using h1, h2⟩
theorem Dens.append : ∀ {vs ws : List V} {ds es : List D}, Dens K F vs ds → Dens K F ws es → Dens K F (vs ++ ws) (ds ++ es)
  | _, _, _, _, .nil, s => s
  | _, _, _, _, .cons h t, s => .cons h (Dens.append t s)
theorem Dens.snoc {vs : List V} {ds : List D} {v : V} {d : D} (h : Dens K F vs ds) (h1 : Den K F v d) : Dens K F (vs ++ [v]) (ds ++ [d]) := h.append (.cons h1 .nil)
theorem Dens.set : ∀ {vs : List V} {ds : List D} {v : V} {d : D} (i : Nat), Dens K F vs ds → Den K F v d → Dens K F (vs.set i v) (ds.set i d)
  | _, _, _, _, _, .nil, _ => .nil
  | _, _, _, _, 0, .cons _ t, h => .cons h t
  | _, _, _, _, i + 1, .cons q t, h => .cons q (Dens.set i t h)
theorem Dens.take : ∀ {vs : List V} {ds : List D} (n : Nat), Dens K F vs ds → Dens K F (vs.take n) (ds.take n)
  | _, _, 0, _ => .nil
  | _, _, _ + 1, .nil => .nil
  | _, _, n + 1, .cons r t => .cons r (Dens.take n t)
theorem Dens.drop : ∀ {vs : List V} {ds : List D} (n : Nat), Dens K F vs ds → Dens K F (vs.drop n) (ds.drop n)
  | _, _, 0, r => r
  | _, _, _ + 1, .nil => .nil
  | _, _, n + 1, .cons _ t => Dens.drop n t
theorem Dens.ints : ∀ {ns : List Int} {vs : List V}, Dens K F vs (ns.map D.int) → vs = ns.map V.int
  | [], _, .nil => rfl
  | n :: ns, _, .cons (.int _) t => by rw [Dens.ints t]; rfl
theorem Dens.of_ints : ∀ {ns : List Int}, Dens K F (ns.map V.int) (ns.map D.int)
  | [] => .nil
  | n :: ns => .cons (.int n) Dens.of_ints
theorem Dens.bls : ∀ {bs : List Bool} {vs : List V}, Dens K F vs (bs.map D.bl) → vs = bs.map V.bl
  | [], _, .nil => rfl
  | b :: bs, _, .cons (.bl _) t => by rw [Dens.bls t]; rfl
end

/-! ### the ledger: objects that may change -/
inductive MO where
  | lst (ds : List D)
  | ins (nm : Str) (dx : Addr) (ns : List Str) (ds : List D)
  | own (x : Addr)
  | dI (ks : List (List Int)) (ds : List D)
  | dK (ks : List Key) (ds : List D)
abbrev Led := List (Addr × MO)
def MDen (K : Frag) (F : Hp) (a : Addr) : MO → HO → Prop
  | .lst ds, h => ∃ xs, h = .lst xs ∧ Dens K F xs ds
  | .ins nm dx ns ds, h => ∃ (C : Addr) (fs : List (Str × V)), h = .ins C dx fs ∧ PySem.W.nsIn K mainGlobals nm = some (some (.ref C)) ∧ fs.map (·.1) = ns ∧ Dens K F (fs.map (·.2)) ds
  | .own x, h => h = .own x
  | .dI ks ds, h => ∃ (o : Obj) (xs : List (List Int × Addr × Value)) (vs : List V), h = objO a o ∧ DictObj a o xs ∧ xs.map (·.1) = ks ∧ (∀ x ∈ xs, SqT K F x.2.1 (x.1.map V.int)) ∧ Vals vs (xs.map (·.2.2)) ∧ Dens K F vs ds
  | .dK ks ds, h => ∃ kvs : List (Key × V), h = .dK kvs ∧ kvs.map (·.1) = ks ∧ Dens K F (kvs.map (·.2)) ds
theorem MDen.mono {K : Frag} {F F' : Hp} {a : Addr} (e : Ex F F') : ∀ {o : MO} {h : HO}, MDen K F a o h → MDen K F' a o h
  | .lst _, _, ⟨xs, q, hs⟩ => ⟨xs, q, hs.mono e⟩
  | .ins .., _, ⟨C, fs, q, n, k, hs⟩ => ⟨C, fs, q, n, k, hs.mono e⟩
  | .own _, _, q => q
  | .dI .., _, ⟨o, xs, vs, q, d, k, t, v, hs⟩ => ⟨o, xs, vs, q, d, k, fun x hx => e.sqT (t x hx), v, hs.mono e⟩
  | .dK .., _, ⟨fs, q, k, hs⟩ => ⟨fs, q, k, hs.mono e⟩

abbrev keys (m : Led) : List Addr := m.map (·.1)
structure At (K : Frag) (F : Hp) (m : Led) (H : Hp) : Prop where
  sub : Ex F H
  led : ∀ p ∈ m, ∃ h, MDen K F p.1 p.2 h ∧ H p.1 = some h
  dis : ∀ p ∈ m, F p.1 = none
  nod : (keys m).Nodup
structure Step (K : Frag) (F : Hp) (m : Led) (H : Hp) (F2 : Hp) (m2 : Led) (H2 : Hp) : Prop where
  at2 : At K F2 m2 H2
  ex : Ex F F2
  keep : ∀ a o, H a = some o → a ∉ keys m → H2 a = some o
  frF : ∀ a o, F2 a = some o → F a = none → H a = none ∨ a ∈ keys m
  frM : ∀ a ∈ keys m2, a ∈ keys m ∨ H a = none
section
variable {K : Frag} {F F1 F2 H H1 H2 : Hp} {m m1 m2 : Led}
theorem Step.refl (a : At K F m H) : Step K F m H F m H := ⟨a, Ex.refl _, fun _ _ h _ => h, fun a o h n => (by rw [n] at h; cases h), fun _ h => .inl h⟩
theorem Step.trans (a : Step K F m H F1 m1 H1) (b : Step K F1 m1 H1 F2 m2 H2) : Step K F m H F2 m2 H2 := by
  have nk : ∀ x o, H x = some o → x ∉ keys m → x ∉ keys m1 := fun x o h n z => by
    rcases a.frM x z with q | q
    · exact n q
    · rw [h] at q; cases q
  have nn : ∀ x, H1 x = none → H x = none ∨ x ∈ keys m := fun x h => by
    by_cases n : x ∈ keys m
    · exact .inr n
    · left
      cases q : H x with
      | none => rfl
      | some o => rw [a.keep x o q n] at h; cases h
  refine ⟨b.at2, a.ex.trans b.ex, fun x o h n => b.keep x o (a.keep x o h n) (nk x o h n), fun x o h n => ?_, fun x h => ?_⟩
  · cases q : F1 x with
    | some o1 => exact a.frF x o1 q n
    | none =>
      rcases b.frF x o h q with z | z
      · exact nn x z
      · exact (a.frM x z).symm
  · rcases b.frM x h with z | z
    · exact a.frM x z
    · exact (nn x z).symm
/-- a new frozen object -/
theorem Step.new {p : Addr} {o : HO} (a : At K F m H) (h : H p = none) : Step K F m H (upd F p o) m (upd H p o) := by
  have hF : F p = none := a.sub.free h
  have np : p ∉ keys m := fun z => by
    obtain ⟨q, hq, e⟩ := List.mem_map.mp z
    obtain ⟨hh, _, e2⟩ := a.led q hq
    rw [e, h] at e2; cases e2
  refine ⟨⟨fun x u e => ?_, fun q hq => ?_, fun q hq => ?_, a.nod⟩, Ex.new hF, fun x u e _ => by rw [upd_ne (ne_of_none e h)]; exact e, fun x u e n => ?_, fun x h => .inl h⟩
  · by_cases hx : x = p
    · subst hx; rw [upd_same] at e ⊢; exact e
    · rw [upd_ne hx] at e ⊢; exact a.sub x u e
  · obtain ⟨hh, e1, e2⟩ := a.led q hq
    exact ⟨hh, e1.mono (Ex.new hF), by rw [upd_ne (ne_of_none e2 h)]; exact e2⟩
  · have : q.1 ≠ p := fun z => np (z ▸ List.mem_map.mpr ⟨q, hq, rfl⟩)
    rw [upd_ne this]; exact a.dis q hq
  · by_cases hx : x = p
    · subst hx; exact .inl h
    · rw [upd_ne hx, n] at e; cases e
/-- a new object in the ledger -/
theorem Step.newM {p : Addr} {o : HO} {mo : MO} (a : At K F m H) (h : H p = none) (hm : MDen K F p mo o) : Step K F m H F (m ++ [(p, mo)]) (upd H p o) := by
  have hF : F p = none := a.sub.free h
  have np : p ∉ keys m := fun z => by
    obtain ⟨q, hq, e⟩ := List.mem_map.mp z
    obtain ⟨hh, _, e2⟩ := a.led q hq
    rw [e, h] at e2; cases e2
  refine ⟨⟨fun x u e => ?_, fun q hq => ?_, fun q hq => ?_, ?_⟩, Ex.refl _, fun x u e _ => by rw [upd_ne (ne_of_none e h)]; exact e, fun x u e n => (by rw [n] at e; cases e), fun x hx => ?_⟩
  · rw [upd_ne (ne_of_none e hF)]; exact a.sub x u e
  · rcases List.mem_append.mp hq with hq | hq
    · obtain ⟨hh, e1, e2⟩ := a.led q hq
      exact ⟨hh, e1, by rw [upd_ne (ne_of_none e2 h)]; exact e2⟩
    · obtain rfl : q = (p, mo) := by simpa using hq
      exact ⟨o, hm, upd_same⟩
  · rcases List.mem_append.mp hq with hq | hq
    · exact a.dis q hq
    · obtain rfl : q = (p, mo) := by simpa using hq
      exact hF
  · show (List.map (·.1) (m ++ [(p, mo)])).Nodup
    rw [List.map_append]
    refine List.nodup_append.mpr ⟨a.nod, by simp, fun x hx y hy => ?_⟩
    obtain rfl : y = p := by simpa using hy
    exact fun z => np (z ▸ hx)
  · have hx' : x ∈ List.map (·.1) (m ++ [(p, mo)]) := hx
    rw [List.map_append] at hx'
    rcases List.mem_append.mp hx' with q | q
    · exact .inl q
    · obtain rfl : x = p := by simpa using q
      exact .inr h
theorem At.get {i : Nat} {p : Addr} {o : MO} (a : At K F m H) (h : m[i]? = some (p, o)) : ∃ hh, MDen K F p o hh ∧ H p = some hh := a.led (p, o) (List.mem_of_getElem? h)
theorem keys_set {i : Nat} {p : Addr} {o o' : MO} (h : m[i]? = some (p, o)) : keys (m.set i (p, o')) = keys m := by
  show List.map (·.1) (m.set i (p, o')) = _
  rw [List.map_set]
  apply List.ext_getElem?
  intro j
  by_cases hj : i = j
  · subst hj
    have hl : i < m.length := (List.getElem?_eq_some_iff.mp h).1
    rw [List.getElem?_set_self (by simpa using hl), List.getElem?_map, h]; rfl
  · rw [List.getElem?_set_ne hj]
/-- an object of the ledger written -/
theorem Step.write {i : Nat} {p : Addr} {o o' : MO} {u : HO} (a : At K F m H) (h : m[i]? = some (p, o)) (hm : MDen K F p o' u) : Step K F m H F (m.set i (p, o')) (upd H p u) := by
  have hin : (p, o) ∈ m := List.mem_of_getElem? h
  have hF : F p = none := a.dis _ hin
  have pk : p ∈ keys m := List.mem_map.mpr ⟨_, hin, rfl⟩
  have hl : i < m.length := (List.getElem?_eq_some_iff.mp h).1
  have ek := keys_set (o' := o') h
  refine ⟨⟨fun x u e => ?_, fun q hq => ?_, fun q hq => ?_, by rw [ek]; exact a.nod⟩, Ex.refl _, fun x u e n => ?_, fun x u e n => (by rw [n] at e; cases e), fun x hx => .inl (ek ▸ hx)⟩
  · rw [upd_ne (ne_of_none e hF)]; exact a.sub x u e
  · obtain ⟨j, hj⟩ := List.mem_iff_getElem?.mp hq
    by_cases hij : i = j
    · subst hij
      rw [List.getElem?_set_self hl] at hj
      cases hj
      exact ⟨u, hm, upd_same⟩
    · rw [List.getElem?_set_ne hij] at hj
      obtain ⟨hh, e1, e2⟩ := a.led q (List.mem_of_getElem? hj)
      have : q.1 ≠ p := fun z => by
        have k1 : (keys m)[j]? = some p := by rw [List.getElem?_map, hj]; exact congrArg some z
        have k2 : (keys m)[i]? = some p := by rw [List.getElem?_map, h]; rfl
        exact hij (nd_ix a.nod k2 k1)
      exact ⟨hh, e1, by rw [upd_ne this]; exact e2⟩
  · obtain ⟨j, hj⟩ := List.mem_iff_getElem?.mp hq
    by_cases hij : i = j
    · subst hij
      rw [List.getElem?_set_self hl] at hj
      cases hj
      exact hF
    · rw [List.getElem?_set_ne hij] at hj
      exact a.dis q (List.mem_of_getElem? hj)
  · have : x ≠ p := fun z => n (z ▸ pk)
    rw [upd_ne this]; exact e
/-- part of the ledger forgotten -/
theorem Step.drop (a : At K F m H) (h : m2.Sublist m) : Step K F m H F m2 H :=
  ⟨⟨a.sub, fun p hp => a.led p (h.subset hp), fun p hp => a.dis p (h.subset hp), a.nod.sublist (h.map _)⟩, Ex.refl _, fun _ _ e _ => e, fun x u e n => (by rw [n] at e; cases e),
    fun x hx => .inl ((h.map _).subset hx)⟩
/-- a list of the ledger frozen -/
theorem Step.freeze {i : Nat} {p : Addr} {ds : List D} (a : At K F m H) (h : m[i]? = some (p, .lst ds)) : ∃ F2, Step K F m H F2 (m.eraseIdx i) H ∧ Den K F2 (.ref p) (.lst ds) := by
  obtain ⟨hh, ⟨xs, rfl, hs⟩, e⟩ := a.get h
  have hin : (p, MO.lst ds) ∈ m := List.mem_of_getElem? h
  have hF : F p = none := a.dis _ hin
  have sl : (m.eraseIdx i).Sublist m := List.eraseIdx_sublist ..
  refine ⟨upd F p (.lst xs), ⟨⟨fun x u q => ?_, fun q hq => ?_, fun q hq => ?_, a.nod.sublist (sl.map _)⟩, Ex.new hF, fun _ _ e _ => e, fun x u q n => ?_, fun x hx => .inl ((sl.map _).subset hx)⟩, .lst (.inl upd_same) (hs.mono (Ex.new hF))⟩
  · by_cases hx : x = p
    · subst hx; rw [upd_same] at q; cases q; exact e
    · rw [upd_ne hx] at q; exact a.sub x u q
  · obtain ⟨hh, e1, e2⟩ := a.led q (sl.subset hq)
    exact ⟨hh, e1.mono (Ex.new hF), e2⟩
  · have : q.1 ≠ p := fun z => by
      obtain ⟨j, hj⟩ := List.mem_iff_getElem?.mp hq
      rw [List.getElem?_eraseIdx] at hj
      split at hj
      · have k1 : (keys m)[j]? = some p := by rw [List.getElem?_map, hj]; exact congrArg some z
        have k2 : (keys m)[i]? = some p := by rw [List.getElem?_map, h]; rfl
        have := nd_ix a.nod k2 k1
        omega
      · have k1 : (keys m)[j + 1]? = some p := by rw [List.getElem?_map, hj]; exact congrArg some z
        have k2 : (keys m)[i]? = some p := by rw [List.getElem?_map, h]; rfl
        have := nd_ix a.nod k2 k1
        omega
    rw [upd_ne this]; exact a.dis q (sl.subset hq)
  · by_cases hx : x = p
    · subst hx; exact .inr (List.mem_map.mpr ⟨_, hin, rfl⟩)
    · rw [upd_ne hx, n] at q; cases q
end
/-- a list that may be read: frozen or of the ledger -/
def LstV (m : Led) (d : D) (ds : List D) : Prop := d = .lst ds ∨ ∃ (i : Nat) (a : Addr), d = .ref a ∧ m[i]? = some (a, .lst ds)
theorem LstV.read {K : Frag} {F H : Hp} {m : Led} {d : D} {ds : List D} {v : V} (h : LstV m d ds) (a : At K F m H) (q : Den K F v d) : ∃ p xs, v = .ref p ∧ Rd H p (.lst xs) ∧ Dens K F xs ds := by
  rcases h with rfl | ⟨i, p, rfl, hi⟩
  · cases q with
    | lst h hs => exact ⟨_, _, rfl, a.sub.rd h, hs⟩
  · cases q
    obtain ⟨hh, ⟨xs, rfl, hs⟩, e⟩ := a.get hi
    exact ⟨p, xs, rfl, .inl e, hs⟩
theorem tup_read {K : Frag} {F H : Hp} {m : Led} {ds : List D} {v : V} (a : At K F m H) (q : Den K F v (.tup ds)) : ∃ p xs, v = .ref p ∧ SqT K H p xs ∧ Dens K F xs ds := by
  cases q with
  | tup h hs => exact ⟨_, _, rfl, a.sub.sqT h, hs⟩

/-! ### slots -/
abbrev Rho := List (Option D)
structure Envs (K : Frag) (F : Hp) (σ : L2.St) (ρ : Rho) : Prop where
  len : σ.length = ρ.length
  get : ∀ (i : Nat) (d : D), ρ[i]? = some (some d) → ∃ v, σ[i]? = some (some v) ∧ Den K F v d
theorem Envs.mono {K : Frag} {F F' : Hp} {σ : L2.St} {ρ : Rho} (h : Envs K F σ ρ) (e : Ex F F') : Envs K F' σ ρ := ⟨h.len, fun i d q => let ⟨v, a, b⟩ := h.get i d q; ⟨v, a, b.mono e⟩⟩
theorem Envs.set {K : Frag} {F : Hp} {σ : L2.St} {ρ : Rho} {v : V} {d : D} (h : Envs K F σ ρ) (q : Den K F v d) (i : Nat) : Envs K F (σ.set i (some v)) (ρ.set i (some d)) := by
  refine ⟨by simpa using h.len, fun j e hj => ?_⟩
  by_cases hij : i = j
  · subst hij
    by_cases hl : i < ρ.length
    · rw [List.getElem?_set_self hl] at hj
      cases hj
      exact ⟨v, by rw [List.getElem?_set_self (by rw [h.len]; exact hl)], q⟩
    · rw [List.getElem?_eq_none (by simpa using hl)] at hj; cases hj
  · rw [List.getElem?_set_ne hij] at hj ⊢
    exact h.get j e hj
def wipeD (ρ : Rho) : List Nat → Rho
  | [] => ρ
  | v :: vs => (wipeD ρ vs).set v none
theorem Envs.unset {K : Frag} {F : Hp} {σ : L2.St} {ρ : Rho} (h : Envs K F σ ρ) (i : Nat) : Envs K F (σ.set i none) (ρ.set i none) := by
  refine ⟨by simpa using h.len, fun j e hj => ?_⟩
  by_cases hij : i = j
  · subst hij
    by_cases hl : i < ρ.length
    · rw [List.getElem?_set_self hl] at hj; cases hj
    · rw [List.getElem?_eq_none (by simpa using hl)] at hj; cases hj
  · rw [List.getElem?_set_ne hij] at hj ⊢
    exact h.get j e hj
theorem Envs.wipe {K : Frag} {F : Hp} {σ : L2.St} {ρ : Rho} (h : Envs K F σ ρ) : ∀ vs : List Nat, Envs K F (L2.wipe σ vs) (wipeD ρ vs)
  | [] => h
  | v :: vs => (h.wipe vs).unset v
theorem wipe_set_none {σ : L2.St} {j : Nat} : ∀ {vs : List Nat}, j ∈ vs → (L2.wipe σ vs).set j none = L2.wipe σ vs
  | v :: vs, h => by
    show ((L2.wipe σ vs).set v none).set j none = (L2.wipe σ vs).set v none
    by_cases e : v = j
    · subst e; rw [List.set_set]
    · rw [List.set_comm _ _ e]
      have : j ∈ vs := by
        rcases List.mem_cons.mp h with z | z
        · exact absurd z.symm e
        · exact z
      rw [wipe_set_none this]
theorem wipe_wipe {σ : L2.St} : ∀ (ws vs : List Nat), (∀ j ∈ ws, j ∈ vs) → L2.wipe (L2.wipe σ vs) ws = L2.wipe σ vs
  | [], _, _ => rfl
  | w :: ws, vs, h => by
    show (L2.wipe (L2.wipe σ vs) ws).set w none = _
    rw [wipe_wipe ws vs fun j hj => h j (List.mem_cons_of_mem _ hj)]
    exact wipe_set_none (h w List.mem_cons_self)
theorem wipe_set {y : Option V} {j : Nat} : ∀ {σ : L2.St} {vs : List Nat}, j ∈ vs → L2.wipe (σ.set j y) vs = L2.wipe σ vs
  | σ, v :: vs, h => by
    show (L2.wipe (σ.set j y) vs).set v none = (L2.wipe σ vs).set v none
    by_cases e : j ∈ vs
    · rw [wipe_set e]
    · have ej : v = j := by
        rcases List.mem_cons.mp h with z | z
        · exact z.symm
        · exact absurd z e
      subst ej
      have key : ∀ (ws : List Nat) (τ : L2.St), v ∉ ws → L2.wipe (τ.set v y) ws = (L2.wipe τ ws).set v y := by
        intro ws
        induction ws with
        | nil => intro τ _; rfl
        | cons w ws ih =>
          intro τ hn
          show (L2.wipe (τ.set v y) ws).set w none = ((L2.wipe τ ws).set w none).set v y
          rw [ih τ fun z => hn (List.mem_cons_of_mem _ z), List.set_comm]
          exact fun z => hn (z ▸ List.mem_cons_self)
      rw [key vs σ e, List.set_set]
theorem wipe_back {y : Option V} {j : Nat} {σ : L2.St} {vs : List Nat} (h : j ∈ vs) : L2.wipe ((L2.wipe σ vs).set j y) vs = L2.wipe σ vs := by
  rw [wipe_set h, wipe_wipe vs vs fun _ q => q]
end DL


namespace DL
open PySem PySem.Spec PyProof.Rows L2

/-! ### slots by name -/
abbrev Rn := List (Str × Option D)
/-- the slots: names and what they hold -/
structure Env (X : Cx) (F : Hp) (σ : L2.St) (ρ : Rn) : Prop where
  nd : X.N.Nodup
  nm : ρ.map (·.1) = X.N
  ev : Envs X.K F σ (ρ.map (·.2))
inductive LookAt : Rn → Nat → Str → D → Prop
  | here {x : Str} {d : D} {r : Rn} : LookAt ((x, some d) :: r) 0 x d
  | there {x : Str} {d : D} {r : Rn} {q : Str × Option D} {i : Nat} : LookAt r i x d → LookAt (q :: r) (i + 1) x d
inductive SetAt : Rn → Nat → Str → D → Rn → Prop
  | here {x : Str} {d : D} {o : Option D} {r : Rn} : SetAt ((x, o) :: r) 0 x d ((x, some d) :: r)
  | there {x : Str} {d : D} {r r' : Rn} {q : Str × Option D} {i : Nat} : SetAt r i x d r' → SetAt (q :: r) (i + 1) x d (q :: r')
theorem LookAt.get : ∀ {ρ : Rn} {i : Nat} {x : Str} {d : D}, LookAt ρ i x d → ρ[i]? = some (x, some d)
  | _, _, _, _, .here => rfl
  | _, _, _, _, .there h => by rw [List.getElem?_cons_succ]; exact h.get
theorem SetAt.eq : ∀ {ρ ρ' : Rn} {i : Nat} {x : Str} {d : D}, SetAt ρ i x d ρ' → ρ' = ρ.set i (x, some d) ∧ (ρ.map (·.1))[i]? = some x
  | _, _, _, _, _, .here => ⟨rfl, rfl⟩
  | _, _, _, _, _, .there h => by
    obtain ⟨h1, h2⟩ := h.eq
    exact ⟨by rw [List.set_cons_succ, h1], by rw [List.map_cons, List.getElem?_cons_succ]; exact h2⟩
section
variable {X : Cx} {F F' : Hp} {σ : L2.St} {ρ ρ' : Rn} {i : Nat} {x : Str} {d : D}
theorem Env.look (e : Env X F σ ρ) (h : LookAt ρ i x d) : X.N[i]? = some x ∧ ∃ v, σ[i]? = some (some v) ∧ Den X.K F v d := by
  have g := h.get
  refine ⟨by rw [← e.nm, List.getElem?_map, g]; rfl, e.ev.get i d (by rw [List.getElem?_map, g]; rfl)⟩
theorem Env.mono (e : Env X F σ ρ) (h : Ex F F') : Env X F' σ ρ := ⟨e.nd, e.nm, e.ev.mono h⟩
theorem Env.set {v : V} (e : Env X F σ ρ) (h : SetAt ρ i x d ρ') (q : Den X.K F v d) : Env X F (σ.set i (some v)) ρ' := by
  obtain ⟨rfl, hx⟩ := h.eq
  refine ⟨e.nd, ?_, by rw [List.map_set]; exact e.ev.set q i⟩
  rw [List.map_set, ← e.nm]
  apply List.ext_getElem?
  intro j
  by_cases hj : i = j
  · subst hj
    rw [hx, List.getElem?_set_self (List.getElem?_eq_some_iff.mp hx).1]
  · rw [List.getElem?_set_ne hj]
theorem Env.ix (e : Env X F σ ρ) (h : SetAt ρ i x d ρ') : X.N[i]? = some x := by rw [← e.nm]; exact h.eq.2
end

/-! ### what is wanted of code, in the model's own terms -/
def SE (X : Cx) (e : Expr) (σ : L2.St) (H : Hp) (Q : VK) : Prop := ∀ pins s, Inv X pins σ H s → wpAny (model X.prog X.w) X.A (eval e X.env) (EP X pins σ Q) X.xe s
def ST (X : Cx) (e : Expr) (σ : L2.St) (H : Hp) (Q : Bool → Hp → Prop) : Prop := ∀ pins s, Inv X pins σ H s → wpAny (model X.prog X.w) X.A (isTrue e X.env (eval e X.env)) (TP X pins σ Q) X.xe s
def SW (X : Cx) (e : Expr) (σ : L2.St) (H : Hp) (Q : Bool → Hp → Prop) : Prop := ∀ whole pins s, Inv X pins σ H s → wpAny (model X.prog X.w) X.A (isTrue e X.env whole) (TP X pins σ Q) X.xe s
def SA (X : Cx) (es : List Expr) (σ : L2.St) (H : Hp) (Q : List V → Hp → Prop) : Prop := ∀ pos pins s, Inv X pins σ H s → wpAny (model X.prog X.w) X.A (spliced (backTo pos (starEach es X.env))) (AP X pins σ Q) X.xe s
def SS (X : Cx) (st : Stmt) (D : Ends) (σ : L2.St) (H : Hp) : Prop := ∀ pins s, Inv X pins σ H s → wpAny (model X.prog X.w) X.A (exec st X.env) (SP X pins D) X.xe s
def SSs (X : Cx) (st : List Stmt) (D : Ends) (σ : L2.St) (H : Hp) : Prop := ∀ pins s, Inv X pins σ H s → wpAny (model X.prog X.w) X.A (execs st X.env) (SP X pins D) X.xe s
def SI (X : Cx) (tg it : Expr) (σ : L2.St) (H : Hp) (R : It → Hp → Prop) : Prop := ∀ pins s, Inv X pins σ H s →
  wpAny (model X.prog X.w) X.A (eval it X.env) (fun v s1 => wpAny (model X.prog X.w) X.A (pyIter v) (PIE X pins σ tg R) X.xe s1) X.xe s
def SG (X : Cx) (tg : Expr) (v : V) (σ : L2.St) (H : Hp) (Q : L2.St → Hp → Prop) : Prop := ∀ pins s u, Inv X pins σ H s → RelV v u →
  wpAny (model X.prog X.w) X.A (assign tg X.env u) (fun _ s' => ∃ σ' H', Inv X pins σ' H' s' ∧ Q σ' H') X.xe s
section
variable {X : Cx} {e : Expr} {es : List Expr} {st : Stmt} {sts : List Stmt} {σ : L2.St} {H : Hp}
theorem pe_SE : PE X e (SE X e) := ⟨fun pins s σ H Q I h => h pins s I⟩
theorem pt_ST : PT X e (ST X e) := ⟨fun pins s σ H Q I h => h pins s I⟩
theorem pw_SW : PW X e (SW X e) := ⟨fun wh pins s σ H Q I h => h wh pins s I⟩
theorem pa_SA : PA X es (SA X es) := ⟨fun pos pins s σ H Q I h => h pos pins s I⟩
theorem ps_SS : PS X st (SS X st) := ⟨fun pins s σ H D I h => h pins s I⟩
theorem pss_SS : PSs X sts (SSs X sts) := ⟨fun pins s σ H D I h => h pins s I⟩
theorem pi_SI {tg it : Expr} : PI X tg it (SI X tg it) := ⟨fun pins s σ H R I h => h pins s I⟩
theorem pg_SG {tg : Expr} : PG X tg (SG X tg) := ⟨fun pins s σ H v u Q I r h => h pins s u I r⟩
theorem SE.of {t : TE} {Q : VK} (h : PE X e t) (q : t σ H Q) : SE X e σ H Q := fun pins s I => h.run pins s σ H Q I q
theorem ST.of {t : TT} {Q : Bool → Hp → Prop} (h : PT X e t) (q : t σ H Q) : ST X e σ H Q := fun pins s I => h.run pins s σ H Q I q
theorem SW.of {t : TT} {Q : Bool → Hp → Prop} (h : PW X e t) (q : t σ H Q) : SW X e σ H Q := fun wh pins s I => h.run wh pins s σ H Q I q
theorem SA.of {t : TA} {Q : List V → Hp → Prop} (h : PA X es t) (q : t σ H Q) : SA X es σ H Q := fun pos pins s I => h.run pos pins s σ H Q I q
theorem SS.of {t : TS} {D : Ends} (h : PS X st t) (q : t D σ H) : SS X st D σ H := fun pins s I => h.run pins s σ H D I q
theorem SSs.of {t : TS} {D : Ends} (h : PSs X sts t) (q : t D σ H) : SSs X sts D σ H := fun pins s I => h.run pins s σ H D I q
theorem SI.of {tg it : Expr} {t : TI} {R : It → Hp → Prop} (h : PI X tg it t) (q : t σ H R) : SI X tg it σ H R := fun pins s I => h.run pins s σ H R I q
theorem SG.of {tg : Expr} {t : TG} {v : V} {Q : L2.St → Hp → Prop} (h : PG X tg t) (q : t v σ H Q) : SG X tg v σ H Q := fun pins s u I r => h.run pins s σ H v u Q I r q
theorem SE.mono {Q Q' : VK} (h : SE X e σ H Q) (q : ∀ v H', Q v H' → Q' v H') : SE X e σ H Q' := fun pins s I => thn (h pins s I) fun u s' ⟨v, H', I', r, k⟩ => ⟨v, H', I', r, q v H' k⟩
theorem ST.mono {Q Q' : Bool → Hp → Prop} (h : ST X e σ H Q) (q : ∀ v H', Q v H' → Q' v H') : ST X e σ H Q' := fun pins s I => thn (h pins s I) fun u s' ⟨H', I', k⟩ => ⟨H', I', q _ H' k⟩
theorem SW.mono {Q Q' : Bool → Hp → Prop} (h : SW X e σ H Q) (q : ∀ v H', Q v H' → Q' v H') : SW X e σ H Q' := fun wh pins s I => thn (h wh pins s I) fun u s' ⟨H', I', k⟩ => ⟨H', I', q _ H' k⟩
theorem SA.mono {Q Q' : List V → Hp → Prop} (h : SA X es σ H Q) (q : ∀ v H', Q v H' → Q' v H') : SA X es σ H Q' := fun pos pins s I => thn (h pos pins s I) fun u s' ⟨v, H', I', r, k⟩ => ⟨v, H', I', r, q v H' k⟩
theorem SI.mono {tg it : Expr} {Q Q' : It → Hp → Prop} (h : SI X tg it σ H Q) (q : ∀ v H', Q v H' → Q' v H') : SI X tg it σ H Q' := fun pins s I => thn (h pins s I) fun u s' k => thn k fun w s2 ⟨a, fp, tn, J, H', e1, I', T, t0, f, r⟩ => ⟨a, fp, tn, J, H', e1, I', T, t0, f, q J H' r⟩
theorem SG.mono {tg : Expr} {v : V} {Q Q' : L2.St → Hp → Prop} (h : SG X tg v σ H Q) (q : ∀ v H', Q v H' → Q' v H') : SG X tg v σ H Q' := fun pins s u I r => thn (h pins s u I r) fun _ s' ⟨σ', H', I', k⟩ => ⟨σ', H', I', q σ' H' k⟩
theorem SP.imp {pins : List (Addr × Obj)} {E E' : Ends} {f : Flow} {s : Shared} (h : SP X pins E f s) (h1 : ∀ σ H, E.nx σ H → E'.nx σ H) (h2 : ∀ v H, E.rt v H → E'.rt v H) (h3 : ∀ σ H, E.bk σ H → E'.bk σ H) (h4 : ∀ σ H, E.ct σ H → E'.ct σ H) : SP X pins E' f s := by
  cases f with
  | next => obtain ⟨σ, H, I, q⟩ := h; exact ⟨σ, H, I, h1 _ _ q⟩
  | brk => obtain ⟨σ, H, I, q⟩ := h; exact ⟨σ, H, I, h3 _ _ q⟩
  | cont => obtain ⟨σ, H, I, q⟩ := h; exact ⟨σ, H, I, h4 _ _ q⟩
  | ret u => obtain ⟨v, σ, H, I, r, q⟩ := h; exact ⟨v, σ, H, I, r, h2 _ _ q⟩
theorem SS.mono {E E' : Ends} (h : SS X st E σ H) (h1 : ∀ σ H, E.nx σ H → E'.nx σ H) (h2 : ∀ v H, E.rt v H → E'.rt v H) (h3 : ∀ σ H, E.bk σ H → E'.bk σ H) (h4 : ∀ σ H, E.ct σ H → E'.ct σ H) : SS X st E' σ H := fun pins s I => thn (h pins s I) fun f s' q => SP.imp q h1 h2 h3 h4
theorem SSs.mono {E E' : Ends} (h : SSs X sts E σ H) (h1 : ∀ σ H, E.nx σ H → E'.nx σ H) (h2 : ∀ v H, E.rt v H → E'.rt v H) (h3 : ∀ σ H, E.bk σ H → E'.bk σ H) (h4 : ∀ σ H, E.ct σ H → E'.ct σ H) : SSs X sts E' σ H := fun pins s I => thn (h pins s I) fun f s' q => SP.imp q h1 h2 h3 h4
end


/-! ### the context over data: what is wished of an exception -/
abbrev XQ := Str → Option (Str × D) → Rn → Led → Prop
structure CD extends Cx where
  xq : XQ
instance : CoeOut CD Cx := ⟨CD.toCx⟩
/-- the field of an exception -/
def FdD (K : Frag) (F : Hp) (d : Option Addr) : Option (Str × D) → Prop
  | none => d = none
  | some (f, x) => ∃ (dd : Addr) (v : V), d = some dd ∧ F dd = some (.xd [(f, v)]) ∧ Den K F v x
/-- an exception of a class of the program, told over data -/
def WD (X : Cx) (F : Hp) (m : Led) (H : Hp) (q : XQ) : L2.WX := fun cls d σ H2 => ∃ (nm : Str) (C : Addr) (fd : Option (Str × D)) (ρ2 : Rn) (F2 : Hp) (m2 : Led),
  X.mg nm = some (.ref C) ∧ cls = .ref C ∧ Step X.K F m H F2 m2 H2 ∧ Env X F2 σ ρ2 ∧ FdD X.K F2 d fd ∧ q nm fd ρ2 m2
theorem WD.step {X : Cx} {F F1 H H1 : Hp} {m m1 : Led} {q : XQ} {cls : Value} {d : Option Addr} {σ : L2.St} {H2 : Hp} (s : Step X.K F m H F1 m1 H1) (h : WD X F1 m1 H1 q cls d σ H2) : WD X F m H q cls d σ H2 := by
  obtain ⟨nm, C, fd, ρ2, F2, m2, h1, h2, h3, h4⟩ := h
  exact ⟨nm, C, fd, ρ2, F2, m2, h1, h2, s.trans h3, h4⟩
structure AtX (X : CD) (F : Hp) (m : Led) (H : Hp) : Prop extends At X.K F m H where
  tk : L2.Takes X.toCx (WD X.toCx F m H X.xq)
  po : PassesOwn (model X.prog X.w) X.A X.env X.xe
structure StepX (X : CD) (F : Hp) (m : Led) (H : Hp) (F2 : Hp) (m2 : Led) (H2 : Hp) : Prop where
  st : Step X.K F m H F2 m2 H2
  tk2 : L2.Takes X.toCx (WD X.toCx F2 m2 H2 X.xq)
  po : PassesOwn (model X.prog X.w) X.A X.env X.xe
section
variable {X : CD} {F F1 F2 H H1 H2 : Hp} {m m1 m2 : Led}
instance : CoeOut (AtX X F m H) (At X.K F m H) := ⟨AtX.toAt⟩
instance : CoeOut (StepX X F m H F1 m1 H1) (Step X.K F m H F1 m1 H1) := ⟨StepX.st⟩
theorem StepX.at2 (s : StepX X F m H F1 m1 H1) : AtX X F1 m1 H1 := ⟨s.st.at2, s.tk2, s.po⟩
theorem StepX.ex (s : StepX X F m H F1 m1 H1) : Ex F F1 := s.st.ex
theorem AtX.step (a : AtX X F m H) (s : Step X.K F m H F1 m1 H1) : StepX X F m H F1 m1 H1 := ⟨s, a.tk.imp fun _ _ _ _ h => WD.step s h, a.po⟩
theorem AtX.to (a : AtX X F m H) (s : Step X.K F m H F1 m1 H1) : AtX X F1 m1 H1 := (a.step s).at2
theorem StepX.trans (a : StepX X F m H F1 m1 H1) (b : Step X.K F1 m1 H1 F2 m2 H2) : Step X.K F m H F2 m2 H2 := a.st.trans b
theorem StepX.refl (a : AtX X F m H) : StepX X F m H F m H := ⟨Step.refl a.toAt, a.tk, a.po⟩
/-- where nothing may be raised -/
theorem AtX.quiet {K0 : Cx} (a : At K0.K F m H) (hx : K0.xe = fun _ _ => False := by rfl) : AtX ⟨K0, fun _ _ _ _ => False⟩ F m H := ⟨a, fun u s' x => by
  obtain ⟨_, _, _, _, _, _, _, _, _, _, _, _, _, _, _, _, _, _, _, _, _, _, _, _, _, _, _, z⟩ := x
  exact z.elim, by
  show PassesOwn (model K0.prog K0.w) K0.A K0.env K0.xe
  rw [hx]
  exact PassesOwn.never⟩
end

/-! ### the judgements over data -/
section
variable (K : Frag) (F : Hp) (m : Led) (H : Hp)
def PQ (R : D → Led → Prop) : VK := fun v H2 => ∃ d F2 m2, Step K F m H F2 m2 H2 ∧ Den K F2 v d ∧ R d m2
def PB (R : Bool → Led → Prop) : Bool → Hp → Prop := fun b H2 => ∃ F2 m2, Step K F m H F2 m2 H2 ∧ R b m2
def PL (R : List D → Led → Prop) : List V → Hp → Prop := fun vs H2 => ∃ ds F2 m2, Step K F m H F2 m2 H2 ∧ Dens K F2 vs ds ∧ R ds m2
end
structure EndsD where
  nx : Rn → Led → Prop
  rt : D → Led → Prop
  bk : Rn → Led → Prop := fun _ _ => False
  ct : Rn → Led → Prop := fun _ _ => False
def PN (X : CD) (F : Hp) (m : Led) (H : Hp) (R : Rn → Led → Prop) : L2.St → Hp → Prop := fun σ2 H2 => ∃ ρ2 F2 m2, Step X.K F m H F2 m2 H2 ∧ Env X F2 σ2 ρ2 ∧ R ρ2 m2
def ED (X : CD) (F : Hp) (m : Led) (H : Hp) (E : EndsD) : Ends := { nx := PN X F m H E.nx, rt := PQ X.K F m H E.rt, bk := PN X F m H E.bk, ct := PN X F m H E.ct }
structure EX (X : CD) (e : Expr) (ρ : Rn) (m : Led) (R : D → Led → Prop) : Prop where
  run : ∀ F σ H, Env X F σ ρ → AtX X F m H → SE X e σ H (PQ X.K F m H R)
structure TX (X : CD) (e : Expr) (ρ : Rn) (m : Led) (R : Bool → Led → Prop) : Prop where
  run : ∀ F σ H, Env X F σ ρ → AtX X F m H → ST X e σ H (PB X.K F m H R)
structure WX (X : CD) (e : Expr) (ρ : Rn) (m : Led) (R : Bool → Led → Prop) : Prop where
  run : ∀ F σ H, Env X F σ ρ → AtX X F m H → SW X e σ H (PB X.K F m H R)
structure AX (X : CD) (es : List Expr) (ρ : Rn) (m : Led) (R : List D → Led → Prop) : Prop where
  run : ∀ F σ H, Env X F σ ρ → AtX X F m H → SA X es σ H (PL X.K F m H R)
structure S1 (X : CD) (st : Stmt) (ρ : Rn) (m : Led) (E : EndsD) : Prop where
  run : ∀ F σ H, Env X F σ ρ → AtX X F m H → SS X st (ED X F m H E) σ H
structure SX (X : CD) (st : List Stmt) (ρ : Rn) (m : Led) (E : EndsD) : Prop where
  run : ∀ F σ H, Env X F σ ρ → AtX X F m H → SSs X st (ED X F m H E) σ H
structure GX (X : CD) (tg : Expr) (d : D) (ρ : Rn) (m : Led) (R : Rn → Led → Prop) : Prop where
  run : ∀ F σ H v, Env X F σ ρ → AtX X F m H → Den X.K F v d → SG X tg v σ H (PN X F m H R)
/-- what an iterator gives: the items ds, one by one -/
def YD (K : Frag) (F1 : Hp) (ds : List D) (i : Nat) (H2 : Hp) (x : V) (H3 : Hp) : Prop := ∀ F2 m2, Ex F1 F2 → At K F2 m2 H2 → ∃ F3 d, ds[i]? = some d ∧ Step K F2 m2 H2 F3 m2 H3 ∧ Den K F3 x d
structure IX (X : CD) (tg it : Expr) (ρ : Rn) (m : Led) (R : List D → Led → Prop) : Prop where
  run : ∀ F σ H, Env X F σ ρ → AtX X F m H →
  SI X tg it σ H fun J H1 => ∃ ds F1 m1, Step X.K F m H F1 m1 H1 ∧ R ds m1 ∧ Walk J ds.length (fun H2 => Ex F1 H2) (YD X.K F1 ds)
/-- an operation on data -/
structure OX (X : CD) (f : Value → Value → Sem Value) (d1 d2 : D) (m : Led) (R : D → Led → Prop) : Prop where
  run : ∀ F σ H x y pins s v u, Den X.K F x d1 → Den X.K F y d2 → AtX X F m H → Inv X pins σ H s → RelV x v → RelV y u →
  wpAny (model X.prog X.w) X.A (f v u) (EP X pins σ (PQ X.K F m H R)) X.xe s
structure UX (X : CD) (f : Value → Sem Value) (d1 : D) (m : Led) (R : D → Led → Prop) : Prop where
  run : ∀ F σ H x pins s v, Den X.K F x d1 → AtX X F m H → Inv X pins σ H s → RelV x v →
  wpAny (model X.prog X.w) X.A (f v) (EP X pins σ (PQ X.K F m H R)) X.xe s
structure BX (X : CD) (f : Value) (ds : List D) (m : Led) (R : D → Led → Prop) : Prop where
  run : ∀ F σ H xs pins s us, Dens X.K F xs ds → AtX X F m H → Inv X pins σ H s → Vals xs us →
  wpAny (model X.prog X.w) X.A (call f us) (EP X pins σ (PQ X.K F m H R)) X.xe s
section
variable {X : CD} {K : Frag} {F F1 F2 H H1 H2 : Hp} {m m1 m2 : Led} {σ : L2.St} {ρ : Rn}
theorem PQ.step {R : D → Led → Prop} {v : V} (a : Step K F m H F1 m1 H1) (h : PQ K F1 m1 H1 R v H2) : PQ K F m H R v H2 := let ⟨d, F2, m2, s, q, r⟩ := h; ⟨d, F2, m2, a.trans s, q, r⟩
theorem PB.step {R : Bool → Led → Prop} {v : Bool} (a : Step K F m H F1 m1 H1) (h : PB K F1 m1 H1 R v H2) : PB K F m H R v H2 := let ⟨F2, m2, s, r⟩ := h; ⟨F2, m2, a.trans s, r⟩
theorem PL.step {R : List D → Led → Prop} {v : List V} (a : Step K F m H F1 m1 H1) (h : PL K F1 m1 H1 R v H2) : PL K F m H R v H2 := let ⟨d, F2, m2, s, q, r⟩ := h; ⟨d, F2, m2, a.trans s, q, r⟩
theorem PN.step {R : Rn → Led → Prop} (a : Step X.K F m H F1 m1 H1) (h : PN X F1 m1 H1 R σ H2) : PN X F m H R σ H2 := let ⟨d, F2, m2, s, q, r⟩ := h; ⟨d, F2, m2, a.trans s, q, r⟩
theorem PQ.now {R : D → Led → Prop} {v : V} {d : D} (a : At K F m H) (q : Den K F v d) (r : R d m) : PQ K F m H R v H := ⟨d, F, m, Step.refl a, q, r⟩
theorem SS.step {st : Stmt} {E : EndsD} (a : Step X.K F m H F1 m1 H1) (h : SS X st (ED X F1 m1 H1 E) σ H2) : SS X st (ED X F m H E) σ H2 := h.mono (fun _ _ q => PN.step a q) (fun _ _ q => PQ.step a q) (fun _ _ q => PN.step a q) fun _ _ q => PN.step a q
theorem SSs.step {st : List Stmt} {E : EndsD} (a : Step X.K F m H F1 m1 H1) (h : SSs X st (ED X F1 m1 H1 E) σ H2) : SSs X st (ED X F m H E) σ H2 := h.mono (fun _ _ q => PN.step a q) (fun _ _ q => PQ.step a q) (fun _ _ q => PN.step a q) fun _ _ q => PN.step a q
/-- going on from a judgement -/
theorem EX.go {e : Expr} {R : D → Led → Prop} {Q : VK} (h : EX X e ρ m R) (en : Env X F σ ρ) (a : AtX X F m H) (k : ∀ v d F1 m1 H1, StepX X F m H F1 m1 H1 → Env X F1 σ ρ → Den X.K F1 v d → R d m1 → Q v H1) : SE X e σ H Q :=
  (h.run F σ H en a).mono fun v H1 ⟨d, F1, m1, s, q, r⟩ => k v d F1 m1 H1 (a.step s) (en.mono s.ex) q r
theorem AX.go {es : List Expr} {R : List D → Led → Prop} {Q : List V → Hp → Prop} (h : AX X es ρ m R) (en : Env X F σ ρ) (a : AtX X F m H) (k : ∀ v d F1 m1 H1, StepX X F m H F1 m1 H1 → Env X F1 σ ρ → Dens X.K F1 v d → R d m1 → Q v H1) : SA X es σ H Q :=
  (h.run F σ H en a).mono fun v H1 ⟨d, F1, m1, s, q, r⟩ => k v d F1 m1 H1 (a.step s) (en.mono s.ex) q r
theorem TX.go {e : Expr} {R : Bool → Led → Prop} {Q : Bool → Hp → Prop} (h : TX X e ρ m R) (en : Env X F σ ρ) (a : AtX X F m H) (k : ∀ b F1 m1 H1, StepX X F m H F1 m1 H1 → Env X F1 σ ρ → R b m1 → Q b H1) : ST X e σ H Q :=
  (h.run F σ H en a).mono fun b H1 ⟨F1, m1, s, r⟩ => k b F1 m1 H1 (a.step s) (en.mono s.ex) r
theorem EX.mono {e : Expr} {R R' : D → Led → Prop} (h : EX X e ρ m R) (q : ∀ d m', R d m' → R' d m') : EX X e ρ m R' := .mk fun F σ H en a => (h.run F σ H en a).mono fun v H1 ⟨d, F1, m1, s, k, r⟩ => ⟨d, F1, m1, s, k, q d m1 r⟩
theorem TX.mono {e : Expr} {R R' : Bool → Led → Prop} (h : TX X e ρ m R) (q : ∀ d m', R d m' → R' d m') : TX X e ρ m R' := .mk fun F σ H en a => (h.run F σ H en a).mono fun v H1 ⟨F1, m1, s, r⟩ => ⟨F1, m1, s, q v m1 r⟩
theorem SX.mono {sts : List Stmt} {E E' : EndsD} (h : SX X sts ρ m E) (h1 : ∀ ρ m, E.nx ρ m → E'.nx ρ m) (h2 : ∀ d m, E.rt d m → E'.rt d m) (h3 : ∀ ρ m, E.bk ρ m → E'.bk ρ m) (h4 : ∀ ρ m, E.ct ρ m → E'.ct ρ m) : SX X sts ρ m E' := .mk fun F σ H en a =>
  (h.run F σ H en a).mono (fun σ H ⟨ρ, F2, m2, s, e, r⟩ => ⟨ρ, F2, m2, s, e, h1 _ _ r⟩) (fun v H ⟨d, F2, m2, s, e, r⟩ => ⟨d, F2, m2, s, e, h2 _ _ r⟩) (fun σ H ⟨ρ, F2, m2, s, e, r⟩ => ⟨ρ, F2, m2, s, e, h3 _ _ r⟩) (fun σ H ⟨ρ, F2, m2, s, e, r⟩ => ⟨ρ, F2, m2, s, e, h4 _ _ r⟩)
end

/-! ### rules for expressions -/
section
variable {X : CD} {e a b c : Expr} {es : List Expr} {ρ : Rn} {m : Led} {R : D → Led → Prop} {pos : Pos}
theorem x_var {i : Nat} {x : Str} {d : D} (h : LookAt ρ i x d) (k : R d m) (hv : Vis X.env.scope x := by first | exact Or.inl rfl | exact Or.inr (Or.inl rfl) | exact Or.inr (Or.inr rfl)) (hd : (x == ("__debug__" : Str)) = false := by decide)
    (hcd : (x == ("__classdict__" : Str)) = false := by decide) : EX X (.Name x pos) ρ m R := .mk fun F σ H en at_ => by
  obtain ⟨hN, v, hs, q⟩ := en.look h
  exact SE.of (pe_var hN hv hd hcd) ⟨v, hs, PQ.now at_ q k⟩
theorem x_int {i : Int} {j : Nat} (k : R (.int i) m) : EX X (.Constant (.int i) j pos) ρ m R := .mk fun F σ H en at_ => SE.of pe_int (PQ.now at_ (.int i) k)
theorem x_bl {i : Bool} {j : Nat} (k : R (.bl i) m) : EX X (.Constant (.bool i) j pos) ρ m R := .mk fun F σ H en at_ => SE.of pe_bl (PQ.now at_ (.bl i) k)
theorem x_non {j : Nat} (k : R .non m) : EX X (.Constant .none j pos) ρ m R := .mk fun F σ H en at_ => SE.of pe_non (PQ.now at_ .non k)
theorem x_str {x : Str} {j : Nat} (k : R (.str x) m) : EX X (.Constant (.str x) j pos) ρ m R := .mk fun F σ H en at_ => SE.of pe_str (PQ.now at_ (.str x) k)
/-- a constant of the module -/
def GC (K : Frag) (mg : Str → Option Value) (x : Str) (d : D) : Prop := ∃ v u, mg x = some u ∧ RelV v u ∧ ∀ F, Den K F v d
theorem x_glob {x : Str} {d : D} (hg : GC X.K X.mg x d) (k : R d m) (h : Gl X x := by rfl) (hd : (x == ("__debug__" : Str)) = false := by decide) : EX X (.Name x pos) ρ m R := .mk fun F σ H en at_ => by
  obtain ⟨v, u, hm, r, q⟩ := hg
  exact SE.of (pe_glob h hm r hd) (PQ.now at_ (q F) k)
/-- a built-in class as a value -/
theorem x_ty {x : Str} {n : String} (k : R (.ty n) m) (hm : X.mg x = none) (hv : bootBuiltins x = some (.type n) := by decide +kernel) (h : Gl X x := by rfl) (hn : x ≠ "__name__" := by decide) (hd : (x == ("__debug__" : Str)) = false := by decide) : EX X (.Name x pos) ρ m R := .mk fun F σ H en at_ =>
  SE.of (pe_bltn (v := .ty n) h hm hv rfl hn hd) (PQ.now at_ (.ty n) k)
theorem x_bin {op : Operator} (h : EX X a ρ m fun d1 m1 => EX X b ρ m1 fun d2 m2 => OX X (binaryOp op) d1 d2 m2 R) : EX X (.BinOp a op b pos) ρ m R := .mk fun F σ H en at_ => by
  intro pins s I
  refine wpAny_BinOp (binT (R := fun x y H2 => ∃ d1 d2 F2 m2, Step X.K F m H F2 m2 H2 ∧ Den X.K F2 x d1 ∧ Den X.K F2 y d2 ∧ OX X (binaryOp op) d1 d2 m2 R) (pe_SE (e := a)) (pe_SE (e := b)) I ?_ ?_)
  · exact h.go en at_ fun v d F1 m1 H1 s1 en1 q1 r1 => r1.go en1 s1.at2 fun v2 d2 F2 m2 H2 s2 en2 q2 r2 => ⟨d, d2, F2, m2, s1.trans s2, q1.mono s2.ex, q2, r2⟩
  · intro v u s2 x y H2 I2 rx ry ⟨d1, d2, F2, m2, st, q1, q2, r⟩
    exact thn (r.run F2 σ H2 x y pins s2 v u q1 q2 (at_.to st) I2 rx ry) fun w s3 ⟨v3, H3, I3, r3, k⟩ => ⟨v3, H3, I3, r3, PQ.step st k⟩
theorem x_un {op : UnaryOp} (h : EX X a ρ m fun d1 m1 => UX X (unaryOp op) d1 m1 R) : EX X (.UnaryOp op a pos) ρ m R := .mk fun F σ H en at_ => by
  intro pins s I
  refine UnaryOp_ (thn (h.run F σ H en at_ pins s I) fun v s1 ⟨x, H1, I1, r1, d, F1, m1, st, q, k⟩ => ?_)
  exact thn (UX.run k F1 σ H1 x pins s1 v q (at_.to st) I1 r1) fun w s3 ⟨v3, H3, I3, r3, k⟩ => ⟨v3, H3, I3, r3, PQ.step st k⟩
theorem x_cmp {op : CmpOp} (h : EX X a ρ m fun d1 m1 => EX X b ρ m1 fun d2 m2 => OX X (compareOp op) d1 d2 m2 R) (hm : behindInMarks op b = false := by first | exact nobehind _ (by decide) (by decide) | rfl | with_unfolding_all rfl) : EX X (.Compare a [op] [b] pos) ρ m R := .mk fun F σ H en at_ => by
  intro pins s I
  refine wpAny_Compare1 (binT (R := fun x y H2 => ∃ d1 d2 F2 m2, Step X.K F m H F2 m2 H2 ∧ Den X.K F2 x d1 ∧ Den X.K F2 y d2 ∧ OX X (compareOp op) d1 d2 m2 R) (pe_SE (e := a)) (pe_SE (e := b)) I ?_ ?_) hm
  · exact h.go en at_ fun v d F1 m1 H1 s1 en1 q1 r1 => r1.go en1 s1.at2 fun v2 d2 F2 m2 H2 s2 en2 q2 r2 => ⟨d, d2, F2, m2, s1.trans s2, q1.mono s2.ex, q2, r2⟩
  · intro v u s2 x y H2 I2 rx ry ⟨d1, d2, F2, m2, st, q1, q2, r⟩
    exact thn (r.run F2 σ H2 x y pins s2 v u q1 q2 (at_.to st) I2 rx ry) fun w s3 ⟨v3, H3, I3, r3, k⟩ => ⟨v3, H3, I3, r3, PQ.step st k⟩
/-- a comparison as a test -/
theorem t_cmp {op : CmpOp} {R : Bool → Led → Prop} (h : EX X a ρ m fun d1 m1 => EX X b ρ m1 fun d2 m2 => OX X (compareOp op) d1 d2 m2 fun d m3 => ∃ k, d = .bl k ∧ R k m3) (hm : behindInMarks op b = false := by first | exact nobehind _ (by decide) (by decide) | rfl | with_unfolding_all rfl) : TX X (.Compare a [op] [b] pos) ρ m R := .mk fun F σ H en at_ => by
  intro pins s I
  refine wpAny_isTrue_Compare1 ?_ hm
  refine binT (R := fun x y H2 => ∃ d1 d2 F2 m2, Step X.K F m H F2 m2 H2 ∧ Den X.K F2 x d1 ∧ Den X.K F2 y d2 ∧ OX X (compareOp op) d1 d2 m2 fun d m3 => ∃ k, d = .bl k ∧ R k m3) (f := fun v u => compareOp op v u) (Q := fun c s3 => wpAny (model X.prog X.w) X.A (truthy c) (TP X pins σ (PB X.K F m H R)) X.xe s3) (pe_SE (e := a)) (pe_SE (e := b)) I ?_ ?_
  · exact h.go en at_ fun v d F1 m1 H1 s1 en1 q1 r1 => r1.go en1 s1.at2 fun v2 d2 F2 m2 H2 s2 en2 q2 r2 => ⟨d, d2, F2, m2, s1.trans s2, q1.mono s2.ex, q2, r2⟩
  · intro v u s2 x y H2 I2 rx ry ⟨d1, d2, F2, m2, st, q1, q2, r⟩
    refine thn (r.run F2 σ H2 x y pins s2 v u q1 q2 (at_.to st) I2 rx ry) fun w s3 ⟨v3, H3, I3, r3, d, F3, m3, st3, q3, kk, ek, k⟩ => ?_
    subst ek
    cases q3
    cases r3
    exact wpAny_truthy_bool ⟨H3, I3, F3, m3, st.trans st3, k⟩
/-- truth of data -/
def TruD (m : Led) (d : D) (k : Bool) : Prop := match d with
  | .non => k = false
  | .bl b => k = b
  | .int i => k = (i != 0)
  | .str y => y.length ≤ sizeLine ∧ k = ((y.length : Int) != 0)
  | .lst xs => k = !xs.isEmpty
  | .tup xs => k = !xs.isEmpty
  | .ref a => ∃ (i : Nat) (ds : List D), m[i]? = some (a, .lst ds) ∧ k = !ds.isEmpty
  | _ => False
theorem Dens.empty {K : Frag} {F : Hp} {xs : List V} {ds : List D} (h : Dens K F xs ds) : xs.isEmpty = ds.isEmpty := by cases h <;> rfl
theorem TruD.v {K : Frag} {F H : Hp} {d : D} {k : Bool} {v : V} (h : TruD m d k) (q : Den K F v d) (at_ : At K F m H) : TruV K v H k := by
  cases q with
  | non => exact h
  | bl b => exact h
  | int i => exact h
  | str x => exact h
  | ty n => exact h
  | lst h1 hs => exact .inl ⟨_, .inl (at_.sub.rd h1), by rw [hs.empty]; exact h⟩
  | tup h1 hs => exact .inr (.inl ⟨_, at_.sub.sqT h1, by rw [hs.empty]; exact h⟩)
  | lsk => exact h.elim
  | dI => exact h.elim
  | dK => exact h.elim
  | obj => exact h.elim
  | exc => exact h.elim
  | cls => exact h.elim
  | ref a =>
    obtain ⟨i, ds, hi, e⟩ := h
    obtain ⟨hh, ⟨xs, rfl, hs⟩, e2⟩ := at_.get hi
    exact .inl ⟨xs, .inl (.inl e2), by rw [hs.empty]; exact e⟩
theorem t_tru {R : Bool → Led → Prop} (h : EX X a ρ m fun d m1 => ∃ k, TruD m1 d k ∧ R k m1) (he : ∀ whole, isTrue a X.env whole = (do let v ← whole; standAt a.pos; holding [v] (truthy v)) := by intro _; rfl) : TX X a ρ m R := .mk fun F σ H en at_ =>
  ST.of (pt_truth (pe_SE (e := a)) he) (h.go en at_ fun v d F1 m1 H1 s1 en1 q1 ⟨k, tk, r⟩ => ⟨k, tk.v q1 s1.at2, F1, m1, s1, r⟩)
theorem t_not {R : Bool → Led → Prop} (h : TX X a ρ m fun k m1 => R (!k) m1) : TX X (.UnaryOp .Not a pos) ρ m R := .mk fun F σ H en at_ =>
  ST.of (pt_not (pt_ST (e := a))) (h.run F σ H en at_)
theorem w_and1 {R : Bool → Led → Prop} (h : TX X a ρ m R) : WX X (.BoolOp .And [a] pos) ρ m R := .mk fun F σ H en at_ => SW.of (pw_and1 (pt_ST (e := a))) (h.run F σ H en at_)
theorem w_or1 {R : Bool → Led → Prop} (h : TX X a ρ m R) : WX X (.BoolOp .Or [a] pos) ρ m R := .mk fun F σ H en at_ => SW.of (pw_or1 (pt_ST (e := a))) (h.run F σ H en at_)
theorem w_and {R : Bool → Led → Prop} {rest : List Expr} (h : TX X a ρ m fun k m1 => (k = true → WX X (.BoolOp .And (b :: rest) pos) ρ m1 R) ∧ (k = false → R false m1)) : WX X (.BoolOp .And (a :: b :: rest) pos) ρ m R := .mk fun F σ H en at_ =>
  SW.of (pw_and (pt_ST (e := a)) (pw_SW (e := .BoolOp .And (b :: rest) pos))) (h.go en at_ fun k F1 m1 H1 s1 en1 r => by
    cases k with
    | true => exact ((r.1 rfl).run F1 σ H1 en1 s1.at2).mono fun v H' q => PB.step s1 q
    | false => exact ⟨F1, m1, s1, r.2 rfl⟩)
theorem w_or {R : Bool → Led → Prop} {rest : List Expr} (h : TX X a ρ m fun k m1 => (k = true → R true m1) ∧ (k = false → WX X (.BoolOp .Or (b :: rest) pos) ρ m1 R)) : WX X (.BoolOp .Or (a :: b :: rest) pos) ρ m R := .mk fun F σ H en at_ =>
  SW.of (pw_or (pt_ST (e := a)) (pw_SW (e := .BoolOp .Or (b :: rest) pos))) (h.go en at_ fun k F1 m1 H1 s1 en1 r => by
    cases k with
    | true => exact ⟨F1, m1, s1, r.1 rfl⟩
    | false => exact ((r.2 rfl).run F1 σ H1 en1 s1.at2).mono fun v H' q => PB.step s1 q)
theorem t_w {R : Bool → Led → Prop} (h : WX X a ρ m R) : TX X a ρ m R := .mk fun F σ H en at_ pins s I => h.run F σ H en at_ _ pins s I
/-- and, or as values: bools ahead of the last -/
theorem x_one {op : BoolOp} (h : EX X a ρ m R) : EX X (.BoolOp op [a] pos) ρ m R := .mk fun F σ H en at_ => SE.of (pe_one (pe_SE (e := a))) (h.run F σ H en at_)
theorem x_and {rest : List Expr} (h : EX X a ρ m fun d m1 => ∃ k, d = .bl k ∧ (k = true → EX X (.BoolOp .And (b :: rest) pos) ρ m1 R) ∧ (k = false → R (.bl false) m1)) : EX X (.BoolOp .And (a :: b :: rest) pos) ρ m R := .mk fun F σ H en at_ =>
  SE.of (pe_and (pe_SE (e := a)) (pe_SE (e := .BoolOp .And (b :: rest) pos))) (h.go en at_ fun v d F1 m1 H1 s1 en1 q ⟨k, ek, r⟩ => by
    subst ek
    cases q
    refine ⟨k, rfl, ?_⟩
    cases k with
    | true => exact ((r.1 rfl).run F1 σ H1 en1 s1.at2).mono fun v H' q => PQ.step s1 q
    | false => exact ⟨_, F1, m1, s1, .bl false, r.2 rfl⟩)
theorem x_not (h : EX X a ρ m fun d m1 => ∃ k, d = .bl k ∧ R (.bl (!k)) m1) : EX X (.UnaryOp .Not a pos) ρ m R := .mk fun F σ H en at_ =>
  SE.of (pe_not (pe_SE (e := a))) (h.go en at_ fun v d F1 m1 H1 s1 en1 q ⟨k, ek, r⟩ => by
    subst ek
    cases q
    exact ⟨k, rfl, _, F1, m1, s1, .bl _, r⟩)
theorem a_nil {R : List D → Led → Prop} (k : R [] m) : AX X [] ρ m R := .mk fun F σ H en at_ => SA.of pa_nil ⟨[], F, m, Step.refl at_, .nil, k⟩
theorem a_cons {R : List D → Led → Prop} (h : EX X e ρ m fun d m1 => AX X es ρ m1 fun ds m2 => R (d :: ds) m2) (hs : starEach (e :: es) X.env = (false, eval e X.env) :: starEach es X.env := by rfl) : AX X (e :: es) ρ m R := .mk fun F σ H en at_ =>
  SA.of (pa_cons (pe_SE (e := e)) (pa_SA (es := es)) hs) (h.go en at_ fun v d F1 m1 H1 s1 en1 q r => r.go en1 s1.at2 fun vs ds F2 m2 H2 s2 en2 q2 r2 => ⟨d :: ds, F2, m2, s1.trans s2, .cons (q.mono s2.ex) q2, r2⟩)
theorem x_tup {x1 : Nat} (h : AX X es ρ m fun ds m1 => ds.length ≤ 100000 ∧ R (.tup ds) m1) : EX X (.Tuple es x1 pos) ρ m R := .mk fun F σ H en at_ =>
  SE.of (pe_tup (pa_SA (es := es))) (h.go en at_ fun vs ds F1 m1 H1 s1 en1 q r => ⟨by rw [q.length]; exact Nat.le_trans r.1 (by decide), fun p hp =>
    have nw := Step.new (o := .tup vs) s1.at2 hp
    ⟨.tup ds, _, _, s1.trans nw, .tup (.inl (.inl upd_same)) (q.mono nw.ex), r.2⟩⟩)
theorem x_lst (h : AX X es ρ m fun ds m1 => ds.length ≤ 100000 ∧ R (.lst ds) m1) : EX X (.List es pos) ρ m R := .mk fun F σ H en at_ =>
  SE.of (pe_lst (pa_SA (es := es))) (h.go en at_ fun vs ds F1 m1 H1 s1 en1 q r => ⟨by rw [q.length]; exact Nat.le_trans r.1 (by decide), fun p hp =>
    have nw := Step.new (o := .lst vs) s1.at2 hp
    ⟨.lst ds, _, _, s1.trans nw, .lst (.inl upd_same) (q.mono nw.ex), r.2⟩⟩)
/-- a list that is to be changed -/
theorem x_lstM (h : AX X es ρ m fun ds m1 => ds.length ≤ 100000 ∧ ∀ p, R (.ref p) (m1 ++ [(p, .lst ds)])) : EX X (.List es pos) ρ m R := .mk fun F σ H en at_ =>
  SE.of (pe_lst (pa_SA (es := es))) (h.go en at_ fun vs ds F1 m1 H1 s1 en1 q r => ⟨by rw [q.length]; exact Nat.le_trans r.1 (by decide), fun p hp =>
    have nw := Step.newM (o := .lst vs) (mo := .lst ds) s1.at2 hp ⟨vs, rfl, q⟩
    ⟨.ref p, _, _, s1.trans nw, .ref p, r.2 p⟩⟩)
end
end DL


namespace DL
open PySem PySem.Spec PyProof.Rows L2

/-! ### operations on ints -/
section
variable {X : CD} {f : Value → Value → Sem Value} {d1 d2 : D} {m : Led} {R : D → Led → Prop} {i j : Int}
theorem OX.of {r : R2} (ho : OpR X f r) (h : ∀ F H x y, Den X.K F x d1 → Den X.K F y d2 → AtX X F m H → r x y H (PQ X.K F m H R)) : OX X f d1 d2 m R := .mk fun F σ H x y pins s v u q1 q2 at_ I rx ry => ho pins s σ H x y v u _ I rx ry (h F H x y q1 q2 at_)
theorem UX.of {f : Value → Sem Value} {r : V → Hp → VK → Prop} (ho : UnR X f r) (h : ∀ F H x, Den X.K F x d1 → AtX X F m H → r x H (PQ X.K F m H R)) : UX X f d1 m R := .mk fun F σ H x pins s v q1 at_ I rx => ho pins s σ H x v _ I rx (h F H x q1 at_)
theorem BX.of {f : Value} {ds : List D} {r : List V → Hp → VK → Prop} (ho : CallR X f r) (h : ∀ F H xs, Dens X.K F xs ds → AtX X F m H → r xs H (PQ X.K F m H R)) : BX X f ds m R := .mk fun F σ H xs pins s us q at_ I rs => ho pins s σ H xs us _ I rs (h F H xs q at_)
theorem Den.int_inv {K : Frag} {F : Hp} {v : V} (h : Den K F v (.int i)) : v = .int i := by cases h; rfl
theorem Den.str_inv {K : Frag} {F : Hp} {v : V} {x : Str} (h : Den K F v (.str x)) : v = .str x := by cases h; rfl
theorem Den.bl_inv {K : Frag} {F : Hp} {v : V} {x : Bool} (h : Den K F v (.bl x)) : v = .bl x := by cases h; rfl
theorem OX.i0 {g : Int → Int → V} {d : D} (ho : OpR X f (rI0 g)) (hd : ∀ F, Den X.K F (g i j) d) (k : R d m) : OX X f (.int i) (.int j) m R := OX.of ho fun F H x y q1 q2 at_ => ⟨i, j, q1.int_inv, q2.int_inv, PQ.now at_ (hd F) k⟩
theorem OX.ic {C : Int → Int → Prop} {g : Int → Int → V} {d : D} (ho : OpR X f (rI C g)) (hc : C i j) (hd : ∀ F, Den X.K F (g i j) d) (k : R d m) : OX X f (.int i) (.int j) m R := OX.of ho fun F H x y q1 q2 at_ => ⟨i, j, q1.int_inv, q2.int_inv, hc, PQ.now at_ (hd F) k⟩
theorem o_add (k : R (.int (i + j)) m) : OX X (binaryOp .Add) (.int i) (.int j) m R := OX.i0 op_add (fun _ => .int _) k
theorem o_sub (k : R (.int (i - j)) m) : OX X (binaryOp .Sub) (.int i) (.int j) m R := OX.i0 op_sub (fun _ => .int _) k
theorem op_mulG : OpR X (binaryOp .Mult) (rI IntMulOk fun i j => .int (i * j)) := opI fun _ _ _ _ _ _ _ hc q => mul_int q hc
theorem o_mul (h : IntMulOk i j) (k : R (.int (i * j)) m) : OX X (binaryOp .Mult) (.int i) (.int j) m R := OX.ic op_mulG h (fun _ => .int _) k
def CDivG (_ j : Int) : Prop := j ≠ 0 ∧ j.natAbs.log2 < 9000
theorem op_fdivG : OpR X (binaryOp .FloorDiv) (rI CDivG fun i j => .int (i.fdiv j)) := opI fun _ _ _ _ _ _ _ hc q => floordiv_int hc.1 q (.inl (PyProof.noPylong_of_log2 hc.2))
theorem o_fdivN (h : CDivG i j) (k : R (.int (i.fdiv j)) m) : OX X (binaryOp .FloorDiv) (.int i) (.int j) m R := OX.ic op_fdivG h (fun _ => .int _) k
theorem o_modN (h : j ≠ 0) (k : R (.int (i.fmod j)) m) : OX X (binaryOp .Mod) (.int i) (.int j) m R := OX.ic op_modN h (fun _ => .int _) k
theorem o_pow (h : CPow i j) (k : R (.int (i ^ j.toNat)) m) : OX X (binaryOp .Pow) (.int i) (.int j) m R := OX.ic op_pow h (fun _ => .int _) k
theorem o_lt (k : R (.bl (decide (i < j))) m) : OX X (compareOp .Lt) (.int i) (.int j) m R := OX.i0 op_lt (fun _ => .bl _) k
theorem o_le (k : R (.bl (decide (i ≤ j))) m) : OX X (compareOp .LtE) (.int i) (.int j) m R := OX.i0 op_le (fun _ => .bl _) k
theorem o_gt (k : R (.bl (decide (j < i))) m) : OX X (compareOp .Gt) (.int i) (.int j) m R := OX.i0 op_gt (fun _ => .bl _) k
theorem o_ge (k : R (.bl (decide (j ≤ i))) m) : OX X (compareOp .GtE) (.int i) (.int j) m R := OX.i0 op_ge (fun _ => .bl _) k
theorem u_neg (k : R (.int (-i)) m) : UX X (unaryOp .USub) (.int i) m R := UX.of un_neg fun F H x q at_ => ⟨i, q.int_inv, PQ.now at_ (.int _) k⟩
/-- is None -/
def isN : D → Bool
  | .non => true
  | _ => false
theorem Den.isN {K : Frag} {F : Hp} {v : V} {d : D} (h : Den K F v d) : decide (v = .non) = isN d := by cases h <;> rfl
theorem Den.non_inv {K : Frag} {F : Hp} {v : V} (h : Den K F v .non) : v = .non := by cases h; rfl
theorem o_isN (k : R (.bl (isN d1)) m) : OX X (compareOp .Is) d1 .non m R := OX.of op_isN fun F H a b q1 q2 at_ => ⟨q2.non_inv, by rw [q1.isN]; exact PQ.now at_ (.bl _) k⟩
theorem o_notN (k : R (.bl (!isN d1)) m) : OX X (compareOp .IsNot) d1 .non m R := OX.of op_notN fun F H a b q1 q2 at_ => ⟨q2.non_inv, by rw [q1.isN]; exact PQ.now at_ (.bl _) k⟩

/-! ### lists -/
theorem op_catG : OpR X (binaryOp .Add) (fun x y H Q => ∃ l b xs zs, x = .ref l ∧ y = .ref b ∧ Rd H l (.lst xs) ∧ Rd H b (.lst zs) ∧ xs.length + zs.length ≤ sizeLine ∧ ∀ p, H p = none → Q (.ref p) (upd H p (.lst (xs ++ zs)))) := by
  intro pins s σ H x y v u Q I rx ry h
  obtain ⟨l, b, xs, zs, rfl, rfl, hH, hB, hz, q⟩ := h
  cases rx
  cases ry
  obtain ⟨z, its, n, r, e⟩ := hH.ok I.hok
  obtain ⟨z2, its2, n2, r2, e2⟩ := hB.ok I.hok
  have hl := r.length
  have hl2 := r2.length
  refine PySem.P.add_list e e2 ?_ (by rw [List.size_toArray, List.size_toArray]; omega)
  have ea : its.toArray ++ its2.toArray = (its ++ its2).toArray := by simp
  rw [ea]
  exact ⟨.ref _, _, I.lnew (t' := s.toks) (r.append r2) (by rw [List.length_append]; omega), rfl, q _ I.fresh⟩
theorem new_lst {K : Frag} {F H : Hp} {m : Led} {p : Addr} {xs : List V} {ds : List D} {R : D → Led → Prop} (at_ : At K F m H) (hp : H p = none) (hs : Dens K F xs ds) (k : R (.lst ds) m) : PQ K F m H R (.ref p) (upd H p (.lst xs)) :=
  have nw := Step.new (o := .lst xs) at_ hp
  ⟨.lst ds, _, _, nw, .lst (.inl upd_same) (hs.mono nw.ex), k⟩
theorem new_tup {K : Frag} {F H : Hp} {m : Led} {p : Addr} {xs : List V} {ds : List D} {R : D → Led → Prop} (at_ : At K F m H) (hp : H p = none) (hs : Dens K F xs ds) (k : R (.tup ds) m) : PQ K F m H R (.ref p) (upd H p (.tup xs)) :=
  have nw := Step.new (o := .tup xs) at_ hp
  ⟨.tup ds, _, _, nw, .tup (.inl (.inl upd_same)) (hs.mono nw.ex), k⟩
theorem new_lstM {K : Frag} {F H : Hp} {m : Led} {p : Addr} {xs : List V} {ds : List D} {R : D → Led → Prop} (at_ : At K F m H) (hp : H p = none) (hs : Dens K F xs ds) (k : ∀ p, R (.ref p) (m ++ [(p, .lst ds)])) : PQ K F m H R (.ref p) (upd H p (.lst xs)) :=
  have nw := Step.newM (o := .lst xs) (mo := .lst ds) at_ hp ⟨xs, rfl, hs⟩
  ⟨.ref p, _, _, nw, .ref p, k p⟩
theorem lenOk {n : Nat} (h : n ≤ 100000) : n ≤ sizeLine := Nat.le_trans h (by decide)
theorem lenLt {n : Nat} (h : n < 100000) : n < sizeLine := Nat.lt_of_lt_of_le h (by decide)
theorem o_cat {as bs : List D} (h1 : LstV m d1 as) (h2 : LstV m d2 bs) (hl : as.length + bs.length ≤ 100000) (k : R (.lst (as ++ bs)) m) : OX X (binaryOp .Add) d1 d2 m R := OX.of op_catG fun F H x y q1 q2 at_ => by
  obtain ⟨p, xs, rfl, e1, s1⟩ := h1.read at_.toAt q1
  obtain ⟨q, ys, rfl, e2, s2⟩ := h2.read at_.toAt q2
  exact ⟨p, q, xs, ys, rfl, rfl, e1, e2, lenOk (by rw [s1.length, s2.length]; exact hl), fun l hl => new_lst at_ hl (s1.append s2) k⟩
theorem Dens.atI {K : Frag} {F : Hp} {xs : List V} {ds : List D} {i : Int} {d : D} (h : Dens K F xs ds) (e : L2.atI ds i = some d) : ∃ v, L2.atI xs i = some v ∧ Den K F v d := by
  unfold L2.atI at e ⊢
  rw [h.length]
  cases q : ixN ds.length i with
  | none => rw [q] at e; cases e
  | some j =>
    rw [q] at e
    exact h.get e

/-! ### subscripts -/
structure IxX (X : CD) (d1 d2 : D) (m : Led) (R : D → Led → Prop) : Prop where
  run : ∀ value slice F σ H x y pins s v u, Den X.K F x d1 → Den X.K F y d2 → AtX X F m H → Inv X pins σ H s → RelV x v → RelV y u →
  subscripted slice false v u = operate [v, u] (getItem v u) → wpAny (model X.prog X.w) X.A (subscriptTail value slice v u) (EP X pins σ (PQ X.K F m H R)) X.xe s
theorem IxX.of {r : R2} (ho : IxR X r) (h : ∀ F H x y, Den X.K F x d1 → Den X.K F y d2 → AtX X F m H → r x y H (PQ X.K F m H R)) : IxX X d1 d2 m R := .mk fun value slice F σ H x y pins s v u q1 q2 at_ I rx ry hs => ho value slice pins s σ H x y v u _ I rx ry (h F H x y q1 q2 at_) hs
theorem x_ix {a b : Expr} {ρ : Rn} {pos : Pos} (h : EX X a ρ m fun d1 m1 => EX X b ρ m1 fun d2 m2 => IxX X d1 d2 m2 R) (hs : PlainIx b := by intro _ _; rfl) : EX X (.Subscript a b pos) ρ m R := .mk fun F σ H en at_ => by
  intro pins s I
  refine Subscript_ (binT (R := fun x y H2 => ∃ d1 d2 F2 m2, Step X.K F m H F2 m2 H2 ∧ Den X.K F2 x d1 ∧ Den X.K F2 y d2 ∧ IxX X d1 d2 m2 R) (pe_SE (e := a)) (pe_SE (e := b)) I ?_ ?_)
  · exact h.go en at_ fun v d F1 m1 H1 s1 en1 q1 r1 => r1.go en1 s1.at2 fun v2 d2 F2 m2 H2 s2 en2 q2 r2 => ⟨d, d2, F2, m2, s1.trans s2, q1.mono s2.ex, q2, r2⟩
  · intro v u s2 x y H2 I2 rx ry ⟨d1, d2, F2, m2, st, q1, q2, r⟩
    exact thn (r.run a b F2 σ H2 x y pins s2 v u q1 q2 (at_.to st) I2 rx ry (hs _ _)) fun w s3 ⟨v3, H3, I3, r3, k⟩ => ⟨v3, H3, I3, r3, PQ.step st k⟩
theorem i_lst {ds : List D} {x : D} (h : LstV m d1 ds) (hx : atI ds i = some x) (k : R x m) : IxX X d1 (.int i) m R := IxX.of ix_list fun F H a b q1 q2 at_ => by
  obtain ⟨p, xs, rfl, e1, s1⟩ := h.read at_.toAt q1
  obtain ⟨v, hv, q⟩ := s1.atI hx
  exact ⟨p, xs, i, v, rfl, q2.int_inv, .inl e1, hv, PQ.now at_ q k⟩
theorem i_tup {ds : List D} {x : D} (hx : atI ds i = some x) (k : R x m) : IxX X (.tup ds) (.int i) m R := IxX.of ix_tup fun F H a b q1 q2 at_ => by
  obtain ⟨p, xs, rfl, e1, s1⟩ := tup_read at_.toAt q1
  obtain ⟨v, hv, q⟩ := s1.atI hx
  exact ⟨p, xs, i, v, rfl, q2.int_inv, e1, hv, PQ.now at_ q k⟩
theorem i_str {z : Str} {c : Nat} (hz : z.length ≤ 100000) (hx : atI z.cps.toList i = some c) (k : R (.str ⟨#[c]⟩) m) : IxX X (.str z) (.int i) m R := IxX.of ix_str fun F H a b q1 q2 at_ =>
  ⟨z, i, c, q1.str_inv, q2.int_inv, lenOk hz, hx, PQ.now at_ (.str _) k⟩
/-! slices -/
def PX (X : CD) (o : Option Expr) (ρ : Rn) (m : Led) (R : Option Int → Led → Prop) : Prop := match o with
  | none => R none m
  | some e => EX X e ρ m fun d m1 => ∃ i, d = .int i ∧ R (some i) m1
structure SlX (X : CD) (d : D) (lo hi : Option Int) (m : Led) (R : D → Led → Prop) : Prop where
  ex : ∃ r, SlR X r ∧ ∀ F H x, Den X.K F x d → AtX X F m H → r x lo hi H (PQ X.K F m H R)
theorem SlR.any {ι : Type} {r : ι → V → Option Int → Option Int → Hp → VK → Prop} {ok : ι → Prop} (h : ∀ i, ok i → SlR X (r i)) : SlR X (fun x lo hi H Q => ∃ i, ok i ∧ r i x lo hi H Q) := by
  intro pins s σ H x v vl vu lo hi sl Q I rx hs pl pu ⟨j, hj, q⟩
  exact h j hj pins s σ H x v vl vu lo hi sl Q I rx hs pl pu q
theorem x_slice {e : Expr} {lo hi : Option Expr} {ρ : Rn} {p2 pos : Pos} (h : EX X e ρ m fun d m1 => PX X lo ρ m1 fun l m2 => PX X hi ρ m2 fun u m3 => SlX X d l u m3 R) : EX X (.Subscript e (.Slice lo hi none p2) pos) ρ m R := .mk fun F σ H en at_ => by
  have po : ∀ o : Option Expr, ∃ t : TO, PO X o t ∧ ∀ {R' : Option Int → Led → Prop} {F σ H m}, PX X o ρ m R' → Env X F σ ρ → AtX X F m H → ∀ Q : Option Int → Hp → Prop, (∀ i F1 m1 H1, StepX X F m H F1 m1 H1 → Env X F1 σ ρ → R' i m1 → Q i H1) → t σ H Q := by
    intro o
    cases o with
    | none => exact ⟨_, po_none, fun h en at_ Q k => k none _ _ _ (StepX.refl at_) en h⟩
    | some e => exact ⟨_, po_some pe_SE, fun {R' F σ H m} h en at_ Q k => EX.go (Q := fun x H1 => ∃ i, x = .int i ∧ Q (some i) H1) h en at_ fun v d F1 m1 H1 s1 en1 q ⟨i, ed, r⟩ => by
        subst ed
        exact ⟨i, q.int_inv, k (some i) F1 m1 H1 s1 en1 r⟩⟩
  obtain ⟨tl, pl, kl⟩ := po lo
  obtain ⟨th, ph, kh⟩ := po hi
  refine SE.of (pe_slice (SlR.any (ι := V → Option Int → Option Int → Hp → VK → Prop) (r := fun r => r) (ok := fun r => SlR X r) fun r hr => hr) (pe_SE (e := e)) pl ph) ?_
  refine h.go en at_ fun v d F1 m1 H1 s1 en1 q r => ?_
  refine kl r en1 s1.at2 _ fun l F2 m2 H2 s2 en2 r2 => ?_
  refine kh r2 en2 s2.at2 _ fun u F3 m3 H3 s3 en3 ⟨⟨rr, hr, r3⟩⟩ => ?_
  refine ⟨fun x lo hi H Q => ∃ Q', rr x lo hi H Q' ∧ ∀ v H', Q' v H' → Q v H', ?_, _, r3 F3 H3 v (q.mono (s2.ex.trans s3.ex)) s3.at2, fun v H' k => PQ.step (s1.trans (s2.trans s3)) k⟩
  intro pins s σ H x v vl vu lo hi sl Q I rx hs pl pu ⟨Q', q1, q2⟩
  obtain ⟨ty, tid, h1, h2, h3⟩ := hr pins s σ H x v vl vu lo hi sl Q' I rx hs pl pu q1
  exact ⟨ty, tid, h1, h2, thn h3 fun w s3 ⟨v3, H3, I3, r3, k⟩ => ⟨v3, H3, I3, r3, q2 v3 H3 k⟩⟩
def cutD (xs : List D) (lo hi : Option Int) : List D := (xs.drop (HT.sIx xs.length 0 lo)).take (HT.sIx xs.length xs.length hi - HT.sIx xs.length 0 lo)
theorem Dens.cut {K : Frag} {F : Hp} {xs : List V} {ds : List D} (h : Dens K F xs ds) (lo hi : Option Int) : Dens K F (cutV xs lo hi) (cutD ds lo hi) := by
  unfold cutV cutD
  rw [h.length]
  exact (h.drop _).take _
theorem sl_lst {lo hi : Option Int} {ds : List D} (h : LstV m d1 ds) (k : R (.lst (cutD ds lo hi)) m) : SlX X d1 lo hi m R := .mk ⟨_, sl_list, fun F H x q at_ => by
  obtain ⟨p, xs, rfl, e1, s1⟩ := h.read at_.toAt q
  exact ⟨p, xs, rfl, .inl e1, fun l hl => new_lst at_ hl (s1.cut lo hi) k⟩⟩
end
end DL


namespace DL
open PySem PySem.Spec PyProof.Rows L2

/-! ### data as the library's data, == -/
mutual
def py : D → PyData
  | .non => .none | .bl b => .bool b | .int i => .int i | .str x => .str x
  | .lst xs => .list (pys xs) | .tup xs => .tuple (pys xs)
  | .ty _ => .none | .lsk _ => .none | .dI _ _ => .none | .dK _ _ => .none | .obj _ _ _ => .none | .ref _ => .none | .exc _ _ _ _ => .none | .cls _ => .none
def pys : List D → List PyData
  | [] => []
  | x :: xs => py x :: pys xs
end
/-- plain data of depth at most n; no bools in NB -/
def Sh : Nat → D → Prop
  | _, .non => True
  | _, .bl _ => True
  | _, .int _ => True
  | _, .str _ => True
  | n + 1, .lst xs => ∀ x ∈ xs, Sh n x
  | n + 1, .tup xs => ∀ x ∈ xs, Sh n x
  | _, _ => False
def NB : Nat → D → Prop
  | _, .non => True
  | _, .int _ => True
  | _, .str _ => True
  | n + 1, .lst xs => ∀ x ∈ xs, NB n x
  | n + 1, .tup xs => ∀ x ∈ xs, NB n x
  | _, _ => False
theorem NB.sh : ∀ {n : Nat} {d : D}, NB n d → Sh n d
  | n, .non, _ => by cases n <;> trivial
  | n, .int _, _ => by cases n <;> trivial
  | n, .str _, _ => by cases n <;> trivial
  | n + 1, .lst xs, h => fun x hx => NB.sh (h x hx)
  | n + 1, .tup xs, h => fun x hx => NB.sh (h x hx)
  | 0, .lst _, h => h.elim
  | 0, .tup _, h => h.elim
  | n, .bl _, h => by cases n <;> exact h.elim
  | n, .ty _, h => by cases n <;> exact h.elim
  | n, .dI _ _, h => by cases n <;> exact h.elim
  | n, .lsk _, h => by cases n <;> exact h.elim
  | n, .dK _ _, h => by cases n <;> exact h.elim
  | n, .obj _ _ _, h => by cases n <;> exact h.elim
  | n, .ref _, h => by cases n <;> exact h.elim
  | n, .exc _ _ _ _, h => by cases n <;> exact h.elim
  | n, .cls _, h => by cases n <;> exact h.elim
theorem pys_ok {n : Nat} (ih : ∀ d, Sh n d → (py d).plain = true ∧ (py d).depth ≤ n) : ∀ xs : List D, (∀ x ∈ xs, Sh n x) → PyData.plainAll (pys xs) = true ∧ PyData.depthAll (pys xs) ≤ n
  | [], _ => ⟨rfl, Nat.zero_le _⟩
  | x :: xs, h => by
    obtain ⟨a, b⟩ := ih x (h x List.mem_cons_self)
    obtain ⟨c, e⟩ := pys_ok ih xs fun y hy => h y (List.mem_cons_of_mem _ hy)
    exact ⟨by simp only [pys, PyData.plainAll, a, c, Bool.and_self], by simp only [pys, PyData.depthAll]; omega⟩
theorem Sh.ok : ∀ (n : Nat) (d : D), Sh n d → (py d).plain = true ∧ (py d).depth ≤ n
  | n, .non, _ => ⟨rfl, by simp [py, PyData.depth]⟩
  | n, .bl _, _ => ⟨rfl, by simp [py, PyData.depth]⟩
  | n, .int _, _ => ⟨rfl, by simp [py, PyData.depth]⟩
  | n, .str _, _ => ⟨rfl, by simp [py, PyData.depth]⟩
  | n + 1, .lst xs, h => by
    obtain ⟨a, b⟩ := pys_ok (Sh.ok n) xs h
    exact ⟨by simp only [py, PyData.plain, a], by simp only [py, PyData.depth]; omega⟩
  | n + 1, .tup xs, h => by
    obtain ⟨a, b⟩ := pys_ok (Sh.ok n) xs h
    exact ⟨by simp only [py, PyData.plain, a], by simp only [py, PyData.depth]; omega⟩
  | 0, .lst _, h => h.elim
  | 0, .tup _, h => h.elim
  | n, .ty _, h => by cases n <;> exact h.elim
  | n, .dI _ _, h => by cases n <;> exact h.elim
  | n, .lsk _, h => by cases n <;> exact h.elim
  | n, .dK _ _, h => by cases n <;> exact h.elim
  | n, .obj _ _ _, h => by cases n <;> exact h.elim
  | n, .ref _, h => by cases n <;> exact h.elim
  | n, .exc _ _ _ _, h => by cases n <;> exact h.elim
  | n, .cls _, h => by cases n <;> exact h.elim
theorem pys_eqv {n k : Nat} (ih : ∀ a b, NB n a → NB k b → (PyData.eqv (py a) (py b) = true ↔ a = b)) : ∀ xs ys : List D, (∀ x ∈ xs, NB n x) → (∀ x ∈ ys, NB k x) → (PyData.eqvAll (pys xs) (pys ys) = true ↔ xs = ys)
  | [], [], _, _ => by simp [pys, PyData.eqvAll]
  | [], _ :: _, _, _ => by simp [pys, PyData.eqvAll]
  | _ :: _, [], _, _ => by simp [pys, PyData.eqvAll]
  | x :: xs, y :: ys, h, h' => by
    have a := ih x y (h x List.mem_cons_self) (h' y List.mem_cons_self)
    have b := pys_eqv ih xs ys (fun z hz => h z (List.mem_cons_of_mem _ hz)) fun z hz => h' z (List.mem_cons_of_mem _ hz)
    simp only [pys, PyData.eqvAll, Bool.and_eq_true, a, b, List.cons.injEq]
theorem eqv_iff : ∀ (n k : Nat) (a b : D), NB n a → NB k b → (PyData.eqv (py a) (py b) = true ↔ a = b) := by
  intro n
  induction n with
  | zero =>
    intro k a b ha hb
    cases a <;> first | exact ha.elim | (cases b <;> first | (cases k <;> exact hb.elim) | simp [py, PyData.eqv])
  | succ n ih =>
    intro k a b ha hb
    cases a with
    | lst xs =>
      cases b with
      | lst ys =>
        cases k with
        | zero => exact hb.elim
        | succ k =>
          have := pys_eqv (fun a b => ih k a b) xs ys ha hb
          simp only [py, PyData.eqv, this, D.lst.injEq]
      | _ => first | (cases k <;> exact hb.elim) | simp [py, PyData.eqv]
    | tup xs =>
      cases b with
      | tup ys =>
        cases k with
        | zero => exact hb.elim
        | succ k =>
          have := pys_eqv (fun a b => ih k a b) xs ys ha hb
          simp only [py, PyData.eqv, this, D.tup.injEq]
      | _ => first | (cases k <;> exact hb.elim) | simp [py, PyData.eqv]
    | _ => first | exact ha.elim | (cases b <;> first | (cases k <;> exact hb.elim) | simp [py, PyData.eqv])
theorem dp_all {K : Frag} {F : Hp} {n : Nat} (ih : ∀ d v, Sh n d → Den K F v d → Dp K F v (py d)) : ∀ (ds : List D) (vs : List V), (∀ x ∈ ds, Sh n x) → Dens K F vs ds → DpAll K F vs (pys ds)
  | [], _, _, .nil => .nil
  | d :: ds, _, h, .cons q qs => .cons (ih d _ (h d List.mem_cons_self) q) (dp_all ih ds _ (fun x hx => h x (List.mem_cons_of_mem _ hx)) qs)
theorem Den.dp {K : Frag} {F : Hp} : ∀ (n : Nat) (d : D) (v : V), Sh n d → Den K F v d → Dp K F v (py d)
  | n, .non, _, _, .non => .non
  | n, .bl _, _, _, .bl b => .bl b
  | n, .int _, _, _, .int i => .int i
  | n, .str _, _, _, .str x => .str x
  | n + 1, .lst ds, _, h, .lst q qs => .lst (.inl q) (dp_all (fun d v => Den.dp n d v) ds _ h qs)
  | n + 1, .tup ds, _, h, .tup q qs => .tup q (dp_all (fun d v => Den.dp n d v) ds _ h qs)
  | 0, .lst _, _, h, _ => h.elim
  | 0, .tup _, _, h, _ => h.elim
  | n, .ty _, _, h, _ => by cases n <;> exact h.elim
  | n, .dI _ _, _, h, _ => by cases n <;> exact h.elim
  | n, .lsk _, _, h, _ => by cases n <;> exact h.elim
  | n, .dK _ _, _, h, _ => by cases n <;> exact h.elim
  | n, .obj _ _ _, _, h, _ => by cases n <;> exact h.elim
  | n, .ref _, _, h, _ => by cases n <;> exact h.elim
  | n, .exc _ _ _ _, _, h, _ => by cases n <;> exact h.elim
  | n, .cls _, _, h, _ => by cases n <;> exact h.elim
mutual
theorem Dp.up {K : Frag} {F H : Hp} (e : Ex F H) : ∀ {v : V} {d : PyData}, Dp K F v d → Dp K H v d
  | _, _, .non => .non
  | _, _, .bl b => .bl b
  | _, _, .int i => .int i
  | _, _, .str x => .str x
  | _, _, .lst h hs => .lst (e.sqL h) (DpAll.up e hs)
  | _, _, .tup h hs => .tup (e.sqT h) (DpAll.up e hs)
theorem DpAll.up {K : Frag} {F H : Hp} (e : Ex F H) : ∀ {v : List V} {d : List PyData}, DpAll K F v d → DpAll K H v d
  | _, _, .nil => .nil
  | _, _, .cons h hs => .cons (Dp.up e h) (DpAll.up e hs)
end
/-- data seen through the ledger -/
def DV (m : Led) (d d' : D) : Prop := d = d' ∨ ∃ (i : Nat) (a : Addr) (ds : List D), d = .ref a ∧ m[i]? = some (a, .lst ds) ∧ d' = .lst ds
theorem DV.dp {K : Frag} {F H : Hp} {m : Led} {d d' : D} {v : V} {n : Nat} (h : DV m d d') (hs : Sh n d') (at_ : At K F m H) (q : Den K F v d) : Dp K H v (py d') := by
  rcases h with rfl | ⟨i, a, ds, rfl, hi, rfl⟩
  · exact Dp.up at_.sub (q.dp n _ _ hs)
  · cases q
    obtain ⟨hh, ⟨xs, rfl, qs⟩, e⟩ := at_.get hi
    cases n with
    | zero => exact hs.elim
    | succ n => exact .lst (.inl (.inl e)) (DpAll.up at_.sub (dp_all (fun d v => Den.dp n d v) ds _ hs qs))
section
variable {X : CD} {d1 d2 e1 e2 : D} {m : Led} {R : D → Led → Prop}
def rEqP (K : Frag) : R2 := fun x y H Q => ∃ d e, Dp K H x d ∧ Dp K H y e ∧ d.plain = true ∧ e.plain = true ∧ d.depth ≤ 64 ∧ Q (.bl (PyData.eqv d e)) H
def rNeP (K : Frag) : R2 := fun x y H Q => ∃ d e, Dp K H x d ∧ Dp K H y e ∧ d.plain = true ∧ e.plain = true ∧ d.depth ≤ 64 ∧ Q (.bl (!PyData.eqv d e)) H
theorem op_eqP (hu : X.A.units + 64 < cLine) : OpR X (compareOp .Eq) (rEqP X.K) := by
  intro pins s σ H x y v u Q I rx ry h
  obtain ⟨d, e, hd, he, pd, pe, hz, q⟩ := h
  obtain ⟨as, r1⟩ := Dp.reads I d x v hd rx
  obtain ⟨bs, r2⟩ := Dp.reads I e y u he ry
  have : min d.depth e.depth ≤ d.depth := Nat.min_le_left _ _
  exact SeqAt.eq_plain r1 r2 pd pe (by omega) ⟨.bl _, H, I, rfl, q⟩
theorem op_neP (hu : X.A.units + 64 < cLine) : OpR X (compareOp .NotEq) (rNeP X.K) := by
  intro pins s σ H x y v u Q I rx ry h
  obtain ⟨d, e, hd, he, pd, pe, hz, q⟩ := h
  obtain ⟨as, r1⟩ := Dp.reads I d x v hd rx
  obtain ⟨bs, r2⟩ := Dp.reads I e y u he ry
  have : min d.depth e.depth ≤ d.depth := Nat.min_le_left _ _
  exact SeqAt.ne_plain r1 r2 pd pe (by omega) ⟨.bl _, H, I, rfl, q⟩
end

/-! ### built-in calls -/
section
variable {X : CD} {a b e : Expr} {es : List Expr} {ρ : Rn} {m : Led} {R : D → Led → Prop} {x : Str} {p pos : Pos} {d d1 d2 : D} {i j : Int}
theorem x_cb {id : String} (h : AX X (e :: es) ρ m fun ds m1 => BX X (.builtin id) ds m1 R) (hm : X.mg x = none) (hv : bootBuiltins x = some (.builtin id) := by decide +kernel) (hg : Gl X x := by rfl) (hn : x ≠ "__name__" := by decide) (hdb : (x == ("__debug__" : Str)) = false := by decide)
    (he : starEach (e :: es) X.env = (false, eval e X.env) :: starEach es X.env := by rfl) (hpl : (backTo pos (starEach es X.env)).any (·.1) = false := by rfl) : EX X (.Call (.Name x p) (e :: es) [] pos) ρ m R := .mk fun F σ H en at_ => by
  intro pins s I
  refine wpAny_Call_Name_kw (ld_blt I hg hm hv ?_ hn hdb)
  refine PyProof.Rows.callWith_builtin1 (thn (h.run F σ H en at_ pos pins s I) fun us s1 ⟨vs, H1, I1, r1, ds, F1, m1, st, q, k⟩ => ?_) he hpl
  exact thn (BX.run k F1 σ H1 vs pins s1 us q (at_.to st) I1 r1) fun w s3 ⟨v3, H3, I3, r3, k⟩ => ⟨v3, H3, I3, r3, PQ.step st k⟩
theorem x_ct {T : String} (h : AX X (e :: es) ρ m fun ds m1 => BX X (.type T) ds m1 R) (hm : X.mg x = none) (hv : bootBuiltins x = some (.type T) := by decide +kernel) (hg : Gl X x := by rfl) (hn : x ≠ "__name__" := by decide) (hdb : (x == ("__debug__" : Str)) = false := by decide)
    (he : starEach (e :: es) X.env = (false, eval e X.env) :: starEach es X.env := by rfl) (hpl : (backTo pos (starEach es X.env)).any (·.1) = false := by rfl) : EX X (.Call (.Name x p) (e :: es) [] pos) ρ m R := .mk fun F σ H en at_ => by
  intro pins s I
  refine wpAny_Call_Name_kw (ld_blt I hg hm hv ?_ hn hdb)
  refine PyProof.Rows.callWith_type1 (thn (h.run F σ H en at_ pos pins s I) fun us s1 ⟨vs, H1, I1, r1, ds, F1, m1, st, q, k⟩ => ?_) he hpl
  exact thn (BX.run k F1 σ H1 vs pins s1 us q (at_.to st) I1 r1) fun w s3 ⟨v3, H3, I3, r3, k⟩ => ⟨v3, H3, I3, r3, PQ.step st k⟩
theorem Dens.one {K : Frag} {F : Hp} {xs : List V} (h : Dens K F xs [d]) : ∃ v, xs = [v] ∧ Den K F v d := by cases h with | cons a b => cases b; exact ⟨_, rfl, a⟩
theorem Dens.two {K : Frag} {F : Hp} {xs : List V} (h : Dens K F xs [d1, d2]) : ∃ v w, xs = [v, w] ∧ Den K F v d1 ∧ Den K F w d2 := by
  cases h with
  | cons a b => cases b with | cons c e => cases e; exact ⟨_, _, rfl, a, c⟩
theorem b_len {ds : List D} (h : LstV m d ds) (k : R (.int ds.length) m) : BX X (.builtin "len") [d] m R := BX.of call_len_seq fun F H xs qs at_ => by
  obtain ⟨v, rfl, q⟩ := qs.one
  obtain ⟨p, ys, rfl, e1, s1⟩ := h.read at_.toAt q
  exact ⟨p, ys, rfl, .inl (.inl e1), by rw [s1.length]; exact PQ.now at_ (.int _) k⟩
theorem b_lenT {ds : List D} (k : R (.int ds.length) m) : BX X (.builtin "len") [.tup ds] m R := BX.of call_len_seq fun F H xs qs at_ => by
  obtain ⟨v, rfl, q⟩ := qs.one
  obtain ⟨p, ys, rfl, e1, s1⟩ := tup_read at_.toAt q
  exact ⟨p, ys, rfl, .inr e1, by rw [s1.length]; exact PQ.now at_ (.int _) k⟩
theorem b_lenS {z : Str} (hz : z.length ≤ 100000) (k : R (.int z.length) m) : BX X (.builtin "len") [.str z] m R := BX.of call_len_str fun F H xs qs at_ => by
  obtain ⟨v, rfl, q⟩ := qs.one
  exact ⟨z, by rw [q.str_inv], lenOk hz, PQ.now at_ (.int _) k⟩
theorem b_abs (k : R (.int (i.natAbs : Int)) m) : BX X (.builtin "abs") [.int i] m R := BX.of call_abs fun F H xs qs at_ => by
  obtain ⟨v, rfl, q⟩ := qs.one
  refine ⟨i, by rw [q.int_inv], ?_⟩
  have e : (if i < 0 then -i else i) = (i.natAbs : Int) := by split <;> omega
  rw [e]
  exact PQ.now at_ (.int _) k
theorem b_max2 (k : R (.int (max i j)) m) (hc : X.calm = true := by rfl) : BX X (.builtin "max") [.int i, .int j] m R := BX.of (call_max2 hc) fun F H xs qs at_ => by
  obtain ⟨v, w, rfl, q1, q2⟩ := qs.two
  refine ⟨i, j, by rw [q1.int_inv, q2.int_inv], ?_⟩
  have e : (if j > i then j else i) = max i j := by split <;> omega
  rw [e]
  exact PQ.now at_ (.int _) k
theorem b_min2 (k : R (.int (min i j)) m) (hc : X.calm = true := by rfl) : BX X (.builtin "min") [.int i, .int j] m R := BX.of (call_min2 hc) fun F H xs qs at_ => by
  obtain ⟨v, w, rfl, q1, q2⟩ := qs.two
  refine ⟨i, j, by rw [q1.int_inv, q2.int_inv], ?_⟩
  have e : (if j < i then j else i) = min i j := by split <;> omega
  rw [e]
  exact PQ.now at_ (.int _) k
theorem b_int (k : R (.int i) m) : BX X (.type "int") [.int i] m R := BX.of call_int1 fun F H xs qs at_ => by
  obtain ⟨v, rfl, q⟩ := qs.one
  exact .inl ⟨i, by rw [q.int_inv], PQ.now at_ (.int _) k⟩
theorem b_intB {c : Bool} (k : R (.int (if c then 1 else 0)) m) : BX X (.type "int") [.bl c] m R := BX.of call_int1 fun F H xs qs at_ => by
  obtain ⟨v, rfl, q⟩ := qs.one
  exact .inr ⟨c, by rw [q.bl_inv], PQ.now at_ (.int _) k⟩
theorem b_list {ds : List D} (h : LstV m d ds) (k : R (.lst ds) m) : BX X (.type "list") [d] m R := BX.of call_list_of fun F H xs qs at_ => by
  obtain ⟨v, rfl, q⟩ := qs.one
  obtain ⟨p, ys, rfl, e1, s1⟩ := h.read at_.toAt q
  exact ⟨p, ys, rfl, .inl (.inl e1), fun l hl => new_lst at_ hl s1 k⟩
theorem b_listK {ds : List D} (k : R (.lst ds) m) : BX X (.type "list") [.lsk ds] m R := BX.of call_list_of fun F H xs qs at_ => by
  obtain ⟨v, rfl, q⟩ := qs.one
  cases q with
  | lsk h hs => exact ⟨_, _, rfl, .inl (at_.sub.sqL h), fun l hl => new_lst at_ hl hs k⟩
theorem b_listT {ds : List D} (k : R (.lst ds) m) : BX X (.type "list") [.tup ds] m R := BX.of call_list_of fun F H xs qs at_ => by
  obtain ⟨v, rfl, q⟩ := qs.one
  obtain ⟨p, ys, rfl, e1, s1⟩ := tup_read at_.toAt q
  exact ⟨p, ys, rfl, .inr e1, fun l hl => new_lst at_ hl s1 k⟩
theorem b_tuple {ds : List D} (h : LstV m d ds) (k : R (.tup ds) m) : BX X (.type "tuple") [d] m R := BX.of call_tuple_of fun F H xs qs at_ => by
  obtain ⟨v, rfl, q⟩ := qs.one
  obtain ⟨p, ys, rfl, e1, s1⟩ := h.read at_.toAt q
  exact ⟨p, ys, rfl, .inl ⟨.inl e1, fun l hl => new_tup at_ hl s1 k⟩⟩
theorem b_tupleT {ds : List D} (k : R (.tup ds) m) : BX X (.type "tuple") [.tup ds] m R := BX.of call_tuple_of fun F H xs qs at_ => by
  obtain ⟨v, rfl, q⟩ := qs.one
  obtain ⟨p, ys, rfl, e1, s1⟩ := tup_read at_.toAt q
  exact ⟨p, ys, rfl, .inr ⟨e1, PQ.now at_ q k⟩⟩
theorem b_sum {ns : List Int} (h : LstV m d (ns.map D.int)) (k : R (.int ns.sum) m) (hc : X.calm = true := by rfl) : BX X (.builtin "sum") [d] m R := BX.of (cr_sum hc) fun F H xs qs at_ => by
  obtain ⟨v, rfl, q⟩ := qs.one
  obtain ⟨p, ys, rfl, e1, s1⟩ := h.read at_.toAt q
  exact ⟨p, ns, rfl, by rw [← s1.ints]; exact .inl e1, PQ.now at_ (.int _) k⟩
theorem b_all {bs : List Bool} (h : LstV m d (bs.map D.bl)) (k : R (.bl (bs.all id)) m) (hc : X.calm = true := by rfl) : BX X (.builtin "all") [d] m R := BX.of (cr_all hc) fun F H xs qs at_ => by
  obtain ⟨v, rfl, q⟩ := qs.one
  obtain ⟨p, ys, rfl, e1, s1⟩ := h.read at_.toAt q
  exact ⟨p, bs, rfl, by rw [← s1.bls]; exact .inl e1, PQ.now at_ (.bl _) k⟩
theorem b_any {bs : List Bool} (h : LstV m d (bs.map D.bl)) (k : R (.bl (bs.any id)) m) (hc : X.calm = true := by rfl) : BX X (.builtin "any") [d] m R := BX.of (cr_any hc) fun F H xs qs at_ => by
  obtain ⟨v, rfl, q⟩ := qs.one
  obtain ⟨p, ys, rfl, e1, s1⟩ := h.read at_.toAt q
  exact ⟨p, bs, rfl, by rw [← s1.bls]; exact .inl e1, PQ.now at_ (.bl _) k⟩
/-! isinstance -/
def tyD : D → Option String
  | .non => some "NoneType" | .bl _ => some "bool" | .int _ => some "int" | .str _ => some "str" | .lst _ => some "list" | .tup _ => some "tuple" | _ => none
theorem Den.tyx {K : Frag} {F H : Hp} {m : Led} {v : V} {d : D} {t : String} (at_ : At K F m H) (q : Den K F v d) (h : tyD d = some t) : TyX K H v (.type t) := by
  cases q <;> simp only [tyD, Option.some.injEq, reduceCtorEq] at h <;> subst h
  · exact .base .non
  · exact .base (.bl _)
  · exact .base (.int _)
  · exact .base (.str _)
  · rename_i h1 _
    rcases at_.sub.rd h1 with h1 | ⟨o, h1⟩
    · exact .base (.lst h1)
    · exact .base (.frz h1)
  · rename_i h1 _
    rcases at_.sub.sqT h1 with (h1 | ⟨o, h1⟩) | ⟨o, its, n, e, c, _⟩
    · exact .base (.tup h1)
    · exact .fTuple h1
    · exact .kTuple e c
end
end DL


namespace DL
open PySem PySem.Spec PyProof.Rows L2

/-! ### steps about an object that is neither frozen nor in the ledger -/
section
variable {K : Frag} {F F2 H H2 : Hp} {m m2 : Led} {p : Addr} {o : HO}
theorem At.notkey (a : At K F m H) (h : H p = none) : p ∉ keys m := fun z => by
  obtain ⟨q, hq, e⟩ := List.mem_map.mp z
  obtain ⟨hh, _, e2⟩ := a.led q hq
  rw [e, h] at e2; cases e2
theorem At.poke (a : At K F m H) (hF : F p = none) (hk : p ∉ keys m) : At K F m (upd H p o) :=
  ⟨fun x u e => by rw [upd_ne (ne_of_none e hF)]; exact a.sub x u e, fun q hq => by
    obtain ⟨hh, e1, e2⟩ := a.led q hq
    exact ⟨hh, e1, by rw [upd_ne (fun z : q.1 = p => hk (z ▸ List.mem_map.mpr ⟨q, hq, rfl⟩))]; exact e2⟩, a.dis, a.nod⟩
theorem Step.poke (s : Step K F m H F2 m2 H2) (hp : H p = none) (hF : F2 p = none) (hk : p ∉ keys m2) : Step K F m H F2 m2 (upd H2 p o) :=
  ⟨s.at2.poke hF hk, s.ex, fun a u e n => by rw [upd_ne (ne_of_none e hp)]; exact s.keep a u e n, s.frF, s.frM⟩
theorem Step.take (s : Step K F m H F2 m2 H2) (hp : H p = none) (hF : F2 p = none) (hk : p ∉ keys m2) (ho : H2 p = some o) : Step K F m H (upd F2 p o) m2 H2 := by
  refine ⟨⟨fun x u e => ?_, fun q hq => ?_, fun q hq => ?_, s.at2.nod⟩, s.ex.trans (Ex.new hF), s.keep, fun x u e n => ?_, s.frM⟩
  · by_cases hx : x = p
    · subst hx; rw [upd_same] at e; cases e; exact ho
    · rw [upd_ne hx] at e; exact s.at2.sub x u e
  · obtain ⟨hh, e1, e2⟩ := s.at2.led q hq
    exact ⟨hh, e1.mono (Ex.new hF), e2⟩
  · rw [upd_ne (fun z : q.1 = p => hk (z ▸ List.mem_map.mpr ⟨q, hq, rfl⟩))]; exact s.at2.dis q hq
  · by_cases hx : x = p
    · subst hx; exact .inl hp
    · rw [upd_ne hx] at e; exact s.frF x u e n
/-- what stays of such an object through a step -/
theorem Step.stay (s : Step K F m H F2 m2 H2) (hF : F p = none) (hk : p ∉ keys m) (ho : H p = some o) : H2 p = some o ∧ F2 p = none ∧ p ∉ keys m2 := by
  refine ⟨s.keep p o ho hk, ?_, fun z => ?_⟩
  · cases e : F2 p with
    | none => rfl
    | some u =>
      rcases s.frF p u e hF with z | z
      · rw [ho] at z; cases z
      · exact absurd z hk
  · rcases s.frM p z with q | q
    · exact hk q
    · rw [ho] at q; cases q
end

/-! ### calls of defs -/
abbrev SpD := List D → Led → (D → Led → Prop) → Prop
def lift (K : Frag) (sp : SpD) : Sp := fun vs H Q _ => ∃ F m ds R, Dens K F vs ds ∧ At K F m H ∧ sp ds m R ∧ ∀ d m2 v F2 H2, R d m2 → Step K F m H F2 m2 H2 → Den K F2 v d → Q v H2
/-- a def that stands in the module, by its promise -/
structure Knows (P : Program) (w : World) (K : Frag) (mg : Str → Option Value) (base : Heap) (k : Nat) (x : Str) (n : Nat) (sp : SpD) : Prop where
  fn : ∃ f fd ps, FnOk P w K mg base CX0 k f fd ps (lift K sp) ∧ mg x = some (.ref f) ∧ PySem.W.keepIn K (.ref f) = true ∧ Binds K fd ps [] ∧ ps.length = n
section
variable {X : CD} {e : Expr} {es : List Expr} {ρ : Rn} {m : Led} {R : D → Led → Prop} {x : Str} {p pos : Pos} {k n : Nat} {sp : SpD}
end

/-! ### statements -/
section
variable {X : CD} {e c tg it : Expr} {es : List Expr} {st : Stmt} {sts a b body : List Stmt} {ρ : Rn} {m : Led} {E : EndsD} {x : Str} {pos pos' p : Pos} {i : Nat}
theorem s_nil (h : E.nx ρ m) : SX X [] ρ m E := .mk fun F σ H en at_ => SSs.of pss_nil ⟨ρ, F, m, Step.refl at_, en, h⟩
theorem s_cons (h : S1 X st ρ m { E with nx := fun ρ' m' => SX X sts ρ' m' E }) : SX X (st :: sts) ρ m E := .mk fun F σ H en at_ => by
  refine SSs.of (pss_cons ps_SS pss_SS) ?_
  refine (h.run F σ H en at_).mono (fun σ2 H2 ⟨ρ2, F2, m2, s2, en2, k⟩ => ?_) (fun _ _ q => q) (fun _ _ q => q) fun _ _ q => q
  exact SSs.step s2 (SX.run k F2 σ2 H2 en2 (at_.to s2))
theorem s_expr (h : EX X e ρ m fun _ m1 => E.nx ρ m1) (hs : swapsWith e none pos.line X.env = pure false := by rfl) : S1 X (.Expr e pos) ρ m E := .mk fun F σ H en at_ =>
  SS.of (ps_expr (pe_SE (e := e)) hs) (h.go en at_ fun v d F1 m1 H1 s1 en1 q r => ⟨ρ, F1, m1, s1, en1, r⟩)
theorem s_ret (h : EX X e ρ m E.rt) : S1 X (.Return (some e) pos) ρ m E := .mk fun F σ H en at_ => SS.of (ps_ret (pe_SE (e := e))) (h.run F σ H en at_)
theorem s_if (h : TX X c ρ m fun k m1 => (k = true → SX X a ρ m1 E) ∧ (k = false → SX X b ρ m1 E)) : S1 X (.If c a b pos) ρ m E := .mk fun F σ H en at_ =>
  SS.of (ps_if (pt_ST (e := c)) (pss_SS (sts := a)) (pss_SS (sts := b))) (h.go en at_ fun k F1 m1 H1 s1 en1 r => by
    cases k with
    | true => exact SSs.step s1 ((r.1 rfl).run F1 σ H1 en1 s1.at2)
    | false => exact SSs.step s1 ((r.2 rfl).run F1 σ H1 en1 s1.at2))
theorem s_set (h : EX X e ρ m fun d m1 => ∃ i ρ', SetAt ρ i x d ρ' ∧ E.nx ρ' m1) (hx : Loc X.env.scope x := by first | exact Or.inl rfl | exact Or.inr rfl) (hs : swapsWith e (some (.Name x pos')) pos.line X.env = pure false := by rfl)
    (hf : X.fn x = true ∨ X.env.scope.names.lookup x = some .local := by first | exact .inl rfl | exact .inr rfl | assumption) : S1 X (.Assign [.Name x pos'] e pos) ρ m E := .mk fun F σ H en at_ => by
  intro pins s I
  refine wpAny_Assign_Name (thn (h.run F σ H en at_ pins s I) fun v s1 ⟨y, H1, I1, r1, d, F1, m1, st, q, i, ρ', hset, k⟩ => ?_) hs
  exact store_ok I1 en.nd (en.ix hset) hx r1 (fun s2 I2 => ⟨_, H1, I2, ρ', F1, m1, st, (en.mono st.ex).set hset q, k⟩) hf
/-- name = [..] by a comprehension on one line -/
theorem g_name {R : Rn → Led → Prop} {d : D} {ρ' : Rn} (hset : SetAt ρ i x d ρ') (k : R ρ' m) (hx : Loc X.env.scope x := by first | exact Or.inl rfl | exact Or.inr rfl) (hf : X.fn x = true ∨ X.env.scope.names.lookup x = some .local := by first | exact .inl rfl | exact .inr rfl | assumption) : GX X (.Name x pos) d ρ m R := .mk fun F σ H v en at_ q =>
  SG.of (pg_name en.nd (en.ix hset) hx hf) ⟨ρ', F, m, Step.refl at_, en.set hset q, k⟩
structure GsX (X : CD) (ts : List Expr) (ds : List D) (ρ : Rn) (m : Led) (R : Rn → Led → Prop) : Prop where
  ex : ∃ t, PGs X ts t ∧ ∀ F σ H vs, Env X F σ ρ → AtX X F m H → Dens X.K F vs ds → t vs σ H (PN X F m H R)
theorem gs_nil {R : Rn → Led → Prop} (k : R ρ m) : GsX X [] [] ρ m R := .mk ⟨_, pgs_nil, fun F σ H vs en at_ q => by cases q; exact ⟨rfl, ρ, F, m, Step.refl at_, en, k⟩⟩
theorem PGs.mono {ts : List Expr} {t : TGs} (h : PGs X ts t) : PGs X ts fun vs σ H Q => ∃ Q', t vs σ H Q' ∧ ∀ σ H, Q' σ H → Q σ H := ⟨fun pins s σ H vs us Q I r ⟨Q', q1, q2⟩ => thn (h.run pins s σ H vs us Q' I r q1) fun _ s' ⟨σ', H', I', k⟩ => ⟨σ', H', I', q2 _ _ k⟩⟩
theorem PGs.any {ts : List Expr} : PGs X ts fun vs σ H Q => ∃ t, PGs X ts t ∧ t vs σ H Q := ⟨fun pins s σ H vs us Q I r ⟨t, q1, q2⟩ => q1.run pins s σ H vs us Q I r q2⟩
theorem gs_cons {R : Rn → Led → Prop} {tg : Expr} {ts : List Expr} {d : D} {ds : List D} (h : GX X tg d ρ m fun ρ' m' => GsX X ts ds ρ' m' R) (hs : (assignEach (tg :: ts) X.env).map (·.2) = assign tg X.env :: (assignEach ts X.env).map (·.2) := by rfl) : GsX X (tg :: ts) (d :: ds) ρ m R :=
  .mk ⟨_, pgs_cons (pg_SG (tg := tg)) (PGs.mono PGs.any) hs, fun F σ H vs en at_ q => by
    cases q with
    | cons q1 q2 =>
      refine ⟨_, _, rfl, ?_⟩
      refine (h.run F σ H _ en at_ q1).mono fun σ2 H2 ⟨ρ2, F2, m2, s2, en2, ⟨t, pt, k⟩⟩ => ?_
      exact ⟨_, ⟨t, pt, k F2 σ2 H2 _ en2 (at_.to s2) (q2.mono s2.ex)⟩, fun _ _ z => PN.step s2 z⟩⟩
theorem g_tup {R : Rn → Led → Prop} {ts : List Expr} {ds : List D} {k : Nat} (h : GsX X ts ds ρ m R) (hc : X.calm = true := by rfl) (hn : (assignEach ts X.env).length = ds.length := by rfl) (hst : (assignEach ts X.env).findIdx? (·.1) = none := by rfl) : GX X (.Tuple ts k pos) (.tup ds) ρ m R := .mk fun F σ H v en at_ q => by
  obtain ⟨⟨t, pt, kk⟩⟩ := h
  obtain ⟨p, xs, rfl, e1, s1⟩ := tup_read at_.toAt q
  exact SG.of (pg_tup hc pt (n := ds.length) hn hst) ⟨p, xs, rfl, e1, s1.length, kk F σ H xs en at_ s1⟩
/-- target = value -/
theorem s_asg (h : EX X e ρ m fun d m1 => GX X tg d ρ m1 E.nx) (hs : swapsWithSole [tg] e pos.line X.env = pure false := by rfl) (hw : swappedStores [tg] e X.env = pure none := by rfl)
    (h1 : (assignEach [tg] X.env).map (·.2) = [assign tg X.env] := by rfl) : S1 X (.Assign [tg] e pos) ρ m E := .mk fun F σ H en at_ =>
  SS.of (ps_asg (pe_SE (e := e)) (pg_SG (tg := tg)) hs hw h1) (h.go en at_ fun v d F1 m1 H1 s1 en1 q r => (GX.run r F1 σ H1 v en1 s1.at2 q).mono fun _ _ k => PN.step s1 k)
/-- a, b = x, y -/
theorem s_par {y : Str} {a b : Expr} {px py pt pt2 : Pos} {kt k2 : Nat} (h : AX X [a, b] ρ m fun ds m1 => ∃ d1 d2 i j ρ1 ρ2, ds = [d1, d2] ∧ SetAt ρ i x d1 ρ1 ∧ SetAt ρ1 j y d2 ρ2 ∧ i ≠ j ∧ E.nx ρ2 m1)
    (hw : swappedStores [.Tuple [.Name x px, .Name y py] kt pt] (.Tuple [a, b] k2 pt2) X.env = pure (some [x, y]) := by rfl) (hx : X.env.scope.names.lookup x = some .local := by rfl) (hy : X.env.scope.names.lookup y = some .local := by rfl) (hc : X.calm = true := by rfl)
    (hs : swapsWithSole [.Tuple [.Name x px, .Name y py] kt pt] (.Tuple [a, b] k2 pt2) pos.line X.env = pure false := by rfl) :
    S1 X (.Assign [.Tuple [.Name x px, .Name y py] kt pt] (.Tuple [a, b] k2 pt2) pos) ρ m E := .mk fun F σ H en at_ => by
  intro pins s I
  rw [exec_Assign_arm]
  refine wpAny_bind (wpAny_standAt ?_)
  rw [hs]
  refine wpAny_bind (wpAny_pure ?_)
  rw [if_neg (by decide)]
  refine wpAny_bind (Tuple_ (thn (h.run F σ H en at_ _ pins s I) fun us s1 ⟨vs, H1, I1, r1, ds, F1, m1, st, qd, d1, d2, i, j, ρ1, ρ2, ed, hi, hj, hij, k⟩ => ?_))
  subst ed
  obtain ⟨v, w, rfl, q1, q2⟩ := qd.two
  obtain ⟨u1, u2, rfl, rv, rw'⟩ := vals2 r1
  refine wpAny_newObj_type ?_ (by show 2 ≤ sizeLine; decide)
  have I2 : Inv X pins σ H1 { s1 with heap := s1.heap.push { cls := .type "tuple", data := .seq [u1, u2].toArray } } := I1.kept (t' := s1.toks) fun b o e => Heap.get?_push_of_some _ e
  rw [hw]
  refine wpAny_bind (wpAny_pure ?_)
  show wpAny (model X.prog X.w) X.A (do rule "assign.swapped-stores"; let items ← unpackItems (.ref s1.heap.objs.size) 2 none; assignInOrder [fun v => bindName X.env y v, fun v => bindName X.env x v] items.reverse; pure Flow.next) _ _ _
  refine wpAny_bind (wpAny_rule (wpAny_bind (unpackItems_tuple (items := #[u1, u2]) (I.ok.hd hc) (IsTup.new s1.heap _) fun h' hx' => ?_)))
  have I3 := I2.kept (h' := h') (t' := s1.toks) fun b o e => hx' b o (Nat.ne_of_lt (Heap.lt_size e)) e
  show wpAny _ _ (assignInOrder [fun v => bindName X.env y v, fun v => bindName X.env x v] [u2, u1] >>= fun _ => pure Flow.next) _ _ _
  have en1 := en.mono st.ex
  have en2 := en1.set hi q1
  have en3 := en2.set hj q2
  refine wpAny_bind (assignInOrder_cons (wpAny_bindName (store_ok I3 en.nd (en2.ix hj) (.inl hy) rw' (fun s2 I4 => ?_) (.inr hy))))
  refine assignInOrder_cons (wpAny_bindName (store_ok I4 en.nd (en.ix hi) (.inl hx) rv (fun s3 I5 => assignInOrder_nil (wpAny_pure ?_)) (.inr hx)))
  rw [List.set_comm _ _ (Ne.symm hij)] at I5
  exact ⟨_, H1, I5, ρ2, F1, m1, st, en3, k⟩
/-- name op= e, of a name that holds an int -/
def IpX (X : CD) (op : Operator) (d1 d2 : D) (m : Led) (R : D → Led → Prop) : Prop := OX X (inplaceOp op) d1 d2 m R
/-- o[i] = v -/
structure StX (X : CD) (d1 d2 d3 : D) (m : Led) (R : Led → Prop) : Prop where
  ex : ∃ t : TSet, PSet X t ∧ ∀ F H o i v, Den X.K F o d1 → Den X.K F i d2 → Den X.K F v d3 → AtX X F m H → t o i v H fun H2 => ∃ F2 m2, Step X.K F m H F2 m2 H2 ∧ R m2
theorem PSet.any : PSet X fun o i v H Q => ∃ (t : TSet) (Q' : Hp → Prop), PSet X t ∧ t o i v H Q' ∧ ∀ H', Q' H' → Q H' := fun pins s σ H o i v ov iv u Q I r1 r2 r3 ⟨t, Q', pt, q, k⟩ => thn (pt pins s σ H o i v ov iv u Q' I r1 r2 r3 q) fun _ s' ⟨H', I', z⟩ => ⟨H', I', k H' z⟩
theorem g_sub {o ix : Expr} {d : D} {R : Rn → Led → Prop} (h : EX X o ρ m fun d1 m1 => EX X ix ρ m1 fun d2 m2 => StX X d1 d2 d m2 fun m3 => R ρ m3)
    (ha : ∀ v, assign (.Subscript o ix pos) X.env v = (do
      let ov ← holding [v] (eval o X.env)
      let iv ← holding [v, ov] (eval ix X.env)
      standAt pos
      holding [v, ov, iv] (setItem ov iv v)
      release [v, ov, iv] []) := by intro _; rfl) : GX X (.Subscript o ix pos) d ρ m R := .mk fun F σ H v en at_ q => by
  refine SG.of (pg_sub (pe_SE (e := o)) (pe_SE (e := ix)) PSet.any ha) ?_
  refine h.go en at_ fun v1 d1 F1 m1 H1 s1 en1 q1 r1 => r1.go en1 s1.at2 fun v2 d2 F2 m2 H2 s2 en2 q2 ⟨⟨t, pt, r2⟩⟩ => ?_
  have st := s1.trans s2.st
  exact ⟨t, _, pt, r2 F2 H2 v1 v2 v (q1.mono s2.ex) q2 (q.mono st.ex) s2.at2, fun H' ⟨F3, m3, s3, k⟩ => ⟨ρ, F3, m3, st.trans s3, en2.mono s3.ex, k⟩⟩
theorem st_lst {j n : Nat} {a : Addr} {i : Int} {d : D} {ds : List D} {R : Led → Prop} (hm : m[n]? = some (a, .lst ds)) (hj : ixN ds.length i = some j) (k : R (m.set n (a, .lst (ds.set j d)))) : StX X (.ref a) (.int i) d m R := .mk ⟨_, set_list, fun F H o ix v q1 q2 q3 at_ => by
  cases q1
  obtain ⟨hh, ⟨xs, rfl, hs⟩, e⟩ := at_.get hm
  refine ⟨a, xs, i, j, rfl, q2.int_inv, e, by rw [hs.length]; exact hj, ?_⟩
  exact ⟨F, _, Step.write (o' := .lst (ds.set j d)) at_ hm ⟨_, rfl, hs.set j q3⟩, k⟩⟩
end

/-! ### methods of lists -/
section
variable {X : CD} {o e : Expr} {es : List Expr} {ρ : Rn} {m : Led} {R : D → Led → Prop} {apos cpos : Pos} {n : Nat} {a : Addr} {ds : List D}
theorem x_append (h : EX X o ρ m fun d m1 => ∃ (a : Addr) (k : Nat) (ds0 : List D), d = .ref a ∧ m1[k]? = some (a, MO.lst ds0) ∧ EX X e ρ m1 fun y m2 => ∃ (n : Nat) (ds : List D), m2[n]? = some (a, .lst ds) ∧ ds.length < 100000 ∧ R .non (m2.set n (a, .lst (ds ++ [y]))))
    (hbase : attributeBase o "append" X.env (eval o X.env) = eval o X.env := by rfl)
    (hfew : ((backTo cpos (starEach [e] X.env)).all (fun x => !x.1) && (backToKw cpos (keywordEach [] X.env)).all (fun x => x.1.isSome)
      && decide ([e].length + ([] : List Keyword).length + (if ([] : List Keyword).isEmpty then 0 else 1) < 30)) = true := by rfl)
    (hline : (apos.endLine == cpos.line) = true := by rfl) (hs : starEach [e] X.env = (false, eval e X.env) :: starEach [] X.env := by rfl) :
    EX X (.Call (.Attribute o "append" apos) [e] [] cpos) ρ m R := .mk fun F σ H en at_ => by
  refine SE.of (pe_bm PySem.F.plainAttrs_list PySem.F.slot_list_append PySem.F.type_list_append mt_append (pe_SE (e := o)) (pa_cons (pe_SE (e := e)) pa_nil hs) hbase hfew hline hs rfl) ?_
  refine h.go en at_ fun v d F1 m1 H1 s1 en1 q ⟨a, k0, ds0, ed, hk0, r⟩ => ?_
  subst ed
  cases q
  refine ⟨?_, ?_⟩
  · obtain ⟨hh, ⟨xs, rfl, hs⟩, e2⟩ := s1.at2.get hk0
    exact .inl ⟨rfl, xs, .inl (.inl e2)⟩
  · refine r.go en1 s1.at2 fun y dy F2 m2 H2 s2 en2 q2 ⟨n, ds, hm, hl, k⟩ => ?_
    obtain ⟨hh, ⟨xs, rfl, hs⟩, e2⟩ := s2.at2.get hm
    refine ⟨a, xs, y, rfl, rfl, e2, lenLt (by rw [hs.length]; exact hl), ?_⟩
    exact ⟨_, F2, _, (s1.trans s2).trans (Step.write (o' := .lst (ds ++ [dy])) s2.at2 hm ⟨_, rfl, hs.snoc q2⟩), .non, k⟩
end
end DL


namespace DL
open PySem PySem.Spec PyProof.Rows L2 RZ

/-! ### what is walked -/
section
variable {X : CD} {tg it a b : Expr} {ρ : Rn} {m : Led} {R : List D → Led → Prop} {p pos tpos : Pos}
theorem yd_at {K : Frag} {F1 H2 : Hp} {xs : List V} {ds : List D} {i : Nat} {x : V} {H3 : Hp} (hs : Dens K F1 xs ds) (y : YAt xs i H2 x H3) : YD K F1 ds i H2 x H3 := fun F2 m2 e at_ => by
  obtain ⟨rfl, hx⟩ := y
  obtain ⟨d, hd, q⟩ := hs.getV hx
  exact ⟨F2, d, hd, Step.refl at_, q.mono e⟩
theorem ix_tup (h : EX X it ρ m fun d m1 => ∃ ds, d = .tup ds ∧ R ds m1) : IX X tg it ρ m R := .mk fun F σ H en at_ =>
  SI.of (pi_tup (pe_SE (e := it))) (h.go en at_ fun v d F1 m1 H1 s1 en1 q ⟨ds, ed, r⟩ => by
    subst ed
    cases q with
    | tup hq hs => exact ⟨_, rfl, ⟨_, s1.at2.sub.sqT hq⟩, ds, F1, m1, s1, r, by rw [← hs.length]; exact walk_tup.mono (fun H' e => e.sqT hq) fun i H' x H'' _ _ y => yd_at hs y⟩)
/-- lo, lo + 1, .. n of them -/
def rangeD (lo : Int) (n : Nat) : List D := (List.range n).map fun (k : Nat) => D.int (lo + (k : Int))
theorem rangeD_len (lo : Int) (n : Nat) : (rangeD lo n).length = n := by unfold rangeD; rw [List.length_map, List.length_range]
theorem rangeD_get {lo : Int} {n i : Nat} (h : i < n) : (rangeD lo n)[i]? = some (.int (lo + (i : Int))) := by
  unfold rangeD
  rw [List.getElem?_map, List.getElem?_range h]; rfl
theorem walk_rangeD {K : Frag} {F1 : Hp} {lo : Int} {n : Nat} : Walk (Itr lo n) (rangeD lo n).length (fun H2 => Ex F1 H2) (YD K F1 (rangeD lo n)) := by
  rw [rangeD_len]
  refine walk_range.mono (fun _ _ => trivial) fun i H' x H'' hi _ y F2 m2 e at_ => ?_
  obtain ⟨rfl, rfl⟩ := y
  exact ⟨F2, _, rangeD_get hi, Step.refl at_, .int _⟩
theorem ix_range1 (h : EX X a ρ m fun d m1 => ∃ j : Int, d = .int j ∧ -100000 ≤ j ∧ j ≤ 100000 ∧ R (rangeD 0 j.toNat) m1) (hm : X.mg "range" = none) (hg : Gl X "range" := by rfl) (hs : starEach [a] X.env = [(false, eval a X.env)] := by rfl) : IX X tg (.Call (.Name "range" p) [a] [] pos) ρ m R := .mk fun F σ H en at_ =>
  SI.of (pi_range1 hg hm (pa_cons (pe_SE (e := a)) pa_nil hs) hs) (h.go en at_ fun v d F1 m1 H1 s1 en1 q ⟨j, ed, h1, h2, r⟩ => by
    subst ed
    exact ⟨j, by rw [q.int_inv], by omega, by omega, _, F1, m1, s1, r, walk_rangeD⟩)
/-- pairs -/
def zipD : List D → List D → List D
  | a :: as, b :: bs => .tup [a, b] :: zipD as bs
  | _, _ => []
theorem zipD_len : ∀ as bs : List D, (zipD as bs).length = min as.length bs.length
  | [], _ => by simp [zipD]
  | _ :: _, [] => by simp [zipD]
  | a :: as, b :: bs => by simp only [zipD, List.length_cons, zipD_len as bs]; omega
theorem zipD_get : ∀ {as bs : List D} {i : Nat} {a b : D}, as[i]? = some a → bs[i]? = some b → (zipD as bs)[i]? = some (.tup [a, b])
  | [], _, _, _, _, h, _ => by simp at h
  | _ :: _, [], _, _, _, _, h => by simp at h
  | x :: as, y :: bs, 0, a, b, h1, h2 => by simp at h1 h2; subst h1; subst h2; rfl
  | x :: as, y :: bs, i + 1, a, b, h1, h2 => by
    simp only [zipD, List.getElem?_cons_succ]
    exact zipD_get (by simpa using h1) (by simpa using h2)
/-- enumerate -/
def enumD (as : List D) : List D := zipD (rangeD 0 as.length) as
end

/-! ### for, while -/
section
variable {X : CD} {c tg it : Expr} {body : List Stmt} {ρ : Rn} {m : Led} {E : EndsD} {pos : Pos}
def ForI (X : CD) (tg : Expr) (body : List Stmt) (ρ : Rn) (E : EndsD) (ds : List D) (m1 : Led) : Prop := ∃ I : Nat → Rn → Led → Prop, I 0 ρ m1 ∧
  (∀ i d ρ' m', ds[i]? = some d → I i ρ' m' → GX X tg d ρ' m' fun ρ2 m2 => SX X body ρ2 m2 { E with nx := I (i + 1), ct := I (i + 1), bk := E.nx }) ∧ ∀ ρ' m', I ds.length ρ' m' → E.nx ρ' m'
theorem s_for (h : IX X tg it ρ m (ForI X tg body ρ E)) (hc : X.calm = true := by rfl) (hs : ∀ x, foldedSetIterable it X.env x = pure x := by intro _; rfl) : S1 X (.For tg it body [] pos) ρ m E := .mk fun F σ H en at_ => by
  refine SS.of (ps_for at_.po hc (pi_SI (it := it)) (pg_SG (tg := tg)) (pss_SS (sts := body)) hs) ?_
  refine (h.run F σ H en at_).mono fun J H1 ⟨ds, F1, m1, st, ⟨I, i0, turn, done⟩, w⟩ => ?_
  refine for_it w (fun i σ' H' => ∃ ρ' F' m', Step X.K F1 m1 H1 F' m' H' ∧ Env X F' σ' ρ' ∧ I i ρ' m') ⟨ρ, F1, m1, Step.refl st.at2, en.mono st.ex, i0⟩ (fun i σ' H' _ ⟨ρ', F', m', s', _, _⟩ => s'.ex.trans s'.at2.sub) (fun i x σ' H' H'' hi ⟨ρ', F', m', s', en', hI⟩ y => ?_) (fun σ' H' ⟨ρ', F', m', s', en', hI⟩ => ⟨ρ', F', m', st.trans s', en', done ρ' m' hI⟩)
  obtain ⟨F3, d, hd, s3, q⟩ := y F' m' s'.ex s'.at2
  refine ((turn i d ρ' m' hd hI).run F3 σ' H'' x (en'.mono s3.ex) (at_.to (st.trans (s'.trans s3))) q).mono fun σ2 H2 ⟨ρ2, F4, m4, s4, en4, sx⟩ => ?_
  have sa := (s'.trans s3).trans s4
  refine (SX.run sx F4 σ2 H2 en4 (at_.to (st.trans sa))).mono (fun σ5 H5 ⟨ρ5, F5, m5, s5, en5, k⟩ => ⟨ρ5, F5, m5, sa.trans s5, en5, k⟩) (fun v H5 k => PQ.step (st.trans sa) k) (fun σ5 H5 ⟨ρ5, F5, m5, s5, en5, k⟩ => ⟨ρ5, F5, m5, (st.trans sa).trans s5, en5, k⟩) (fun σ5 H5 ⟨ρ5, F5, m5, s5, en5, k⟩ => ⟨ρ5, F5, m5, sa.trans s5, en5, k⟩)
theorem s_while (W : Nat → Rn → Led → Prop) (n0 : Nat) (h0 : W n0 ρ m) (hs : ∀ n ρ' m', W n ρ' m' → TX X c ρ' m' fun k m1 => (k = true → SX X body ρ' m1 { E with nx := fun ρ2 m2 => ∃ n2, n2 < n ∧ W n2 ρ2 m2, ct := fun ρ2 m2 => ∃ n2, n2 < n ∧ W n2 ρ2 m2, bk := E.nx }) ∧ (k = false → E.nx ρ' m1))
    : S1 X (.While c body [] pos) ρ m E := .mk fun F σ H en at_ => by
  refine SS.of (ps_while at_.po (pt_ST (e := c)) (pss_SS (sts := body))) ?_
  refine ⟨fun n σ' H' => ∃ ρ' F' m', Step X.K F m H F' m' H' ∧ Env X F' σ' ρ' ∧ W n ρ' m', ⟨n0, ρ, F, m, Step.refl at_, en, h0⟩, fun n σ' H' ⟨ρ', F', m', s', en', w'⟩ => ?_⟩
  refine (hs n ρ' m' w').go en' (at_.to s') fun k F1 m1 H1 s1 en1 r => ?_
  have sa := s'.trans s1.st
  cases k with
  | true =>
    rw [if_pos rfl]
    refine ⟨fun σ2 H2 => ∃ n2, n2 < n ∧ ∃ ρ' F' m', Step X.K F m H F' m' H2 ∧ Env X F' σ2 ρ' ∧ W n2 ρ' m', fun _ _ q => q, ?_⟩
    refine ((r.1 rfl).run F1 σ' H1 en1 s1.at2).mono (fun σ5 H5 ⟨ρ5, F5, m5, s5, en5, n2, hn, k⟩ => ⟨n2, hn, ρ5, F5, m5, sa.trans s5, en5, k⟩) (fun v H5 k => PQ.step sa k) (fun σ5 H5 ⟨ρ5, F5, m5, s5, en5, k⟩ => ⟨ρ5, F5, m5, sa.trans s5, en5, k⟩) (fun σ5 H5 ⟨ρ5, F5, m5, s5, en5, n2, hn, k⟩ => ⟨n2, hn, ρ5, F5, m5, sa.trans s5, en5, k⟩)
  | false =>
    rw [if_neg Bool.false_ne_true]
    exact ⟨ρ', F1, m1, sa, en1, r.2 rfl⟩
end

/-! ### comprehensions -/
inductive SlotAt : Rn → Nat → Str → Prop
  | here {x : Str} {o : Option D} {r : Rn} : SlotAt ((x, o) :: r) 0 x
  | there {x : Str} {r : Rn} {q : Str × Option D} {i : Nat} : SlotAt r i x → SlotAt (q :: r) (i + 1) x
theorem SlotAt.ix : ∀ {ρ : Rn} {i : Nat} {x : Str}, SlotAt ρ i x → (ρ.map (·.1))[i]? = some x
  | _, _, _, .here => rfl
  | _, _, _, .there h => by rw [List.map_cons, List.getElem?_cons_succ]; exact h.ix
theorem SlotAt.set : ∀ {ρ : Rn} {i : Nat} {x : Str}, SlotAt ρ i x → ∀ d, ∃ ρ', SetAt ρ i x d ρ'
  | _, _, _, .here, d => ⟨_, .here⟩
  | _, _, _, .there h, d => let ⟨_, k⟩ := h.set d; ⟨_, .there k⟩
section
variable {X : CD} {elt it : Expr} {scope : Scope} {ρ : Rn} {m : Led} {R : D → Led → Prop} {pos py : Pos} {y : Str} {j : Nat}
theorem wipe1 {F : Hp} {σ : L2.St} {ρ2 : Rn} {d : D} {v : V} (en : Env X F σ ρ) (hset : SetAt ρ j y d ρ2) (q : Den X.K F v d) : Env X F ((L2.wipe σ [j]).set j (some v)) ρ2 := by
  have e : (L2.wipe σ [j]).set j (some v) = σ.set j (some v) := by
    show ((σ.set j none).set j (some v)) = _
    rw [List.set_set]
  rw [e]
  exact en.set hset q
theorem Env.blk {F : Hp} {σ : L2.St} {s : Shared} {H0 : Hp} {cenv : PySem.Env} {fp : List Addr} (en : Env X F σ ρ) : Env (X.blk s H0 scope cenv fp) F σ ρ := ⟨en.nd, en.nm, en.ev⟩
abbrev CD.blk (X : CD) (s : Shared) (H : Hp) (scope : Scope) (env : PySem.Env) (fp : List Addr) : CD := ⟨X.toCx.blk s H scope env fp, fun _ _ _ _ => False⟩
/-- what a turn of a comprehension asks: acc is what has been made -/
def CompI (X : CD) (scope : Scope) (ifs : List Expr) (elt : Expr) (y : Str) (j : Nat) (ρ : Rn) (R : List D → Led → Prop) (ds : List D) (m1 : Led) : Prop := ∃ I : Nat → List D → Led → Prop, I 0 [] m1 ∧
  (∀ i d acc m', ds[i]? = some d → I i acc m' → ∃ ρ2, SetAt ρ j y d ρ2 ∧ ∀ (s : Shared) (H0 : Hp) (C : Addr) (cl : List (Str × Addr)) (fp : List Addr),
    match ifs with
    | [] => EX (X.blk s H0 scope (compEnvC scope cl C X.env) fp) elt ρ2 m' fun z m3 => acc.length < 100000 ∧ I (i + 1) (acc ++ [z]) m3
    | [c] => TX (X.blk s H0 scope (compEnvC scope cl C X.env) fp) c ρ2 m' fun k m2 => (k = true → ∀ (s : Shared) (H0 : Hp) (C : Addr) (cl : List (Str × Addr)) (fp : List Addr), EX (X.blk s H0 scope (compEnvC scope cl C X.env) fp) elt ρ2 m2 fun z m3 => acc.length < 100000 ∧ I (i + 1) (acc ++ [z]) m3) ∧ (k = false → I (i + 1) acc m2)
    | _ => False) ∧ ∀ acc m', I ds.length acc m' → R acc m'
def STs (X : CD) (scope : Scope) (ifs : List Expr) : TT := fun σ H Q => match ifs with
  | [] => Q true H
  | [c] => ∀ s H0 C cl fp, ST (X.blk s H0 scope (compEnvC scope cl C X.env) fp) c σ H Q
  | _ => False
theorem pts_STs {ifs : List Expr} (s : Shared) (H0 : Hp) (C : Addr) (cl : List (Str × Addr)) (fp : List Addr) : PTs (X.blk s H0 scope (compEnvC scope cl C X.env) fp) ifs (STs X scope ifs) := by
  match ifs with
  | [] => exact pts_nil
  | [c] =>
    refine ⟨fun pins st σ H Q I h => ?_⟩
    exact (pts_one (pt_ST (X := X.blk s H0 scope (compEnvC scope cl C X.env) fp) (e := c))).run pins st σ H Q I (h s H0 C cl fp)
  | _ :: _ :: _ => exact ⟨fun _ _ _ _ _ _ h => False.elim h⟩
def SEb (X : CD) (scope : Scope) (e : Expr) : TE := fun σ H Q => ∀ s H0 C cl fp, SE (X.blk s H0 scope (compEnvC scope cl C X.env) fp) e σ H Q
theorem pe_SEb {e : Expr} (s : Shared) (H0 : Hp) (C : Addr) (cl : List (Str × Addr)) (fp : List Addr) : PE (X.blk s H0 scope (compEnvC scope cl C X.env) fp) e (SEb X scope e) := ⟨fun pins st σ H Q I h => h s H0 C cl fp pins st I⟩
/-- the core: the reading of a comprehension over data -/
theorem lc_read {ifs : List Expr} {F σ H} (hl1 : ifs.length ≤ 1) (en : Env X F σ ρ) (at_ : AtX X F m H) (R : List D → Led → Prop) (QQ : VK) (h : IX X (.Name y py) it ρ m (CompI X scope ifs elt y j ρ R))
    (fin : ∀ Dl acc vs F1 m1 H1 F' m' H', Step X.K F m H F1 m1 H1 → H1 Dl = none → Step X.K F1 m1 H1 F' m' H' → F' Dl = none → Dl ∉ keys m' → H' Dl = some (.lst vs) → Dens X.K F' vs acc → R acc m' → QQ (.ref Dl) H') : tLc (SI X (.Name y py) it) (gName j) (STs X scope ifs) (SEb X scope elt) [j] σ H QQ := by
  refine (h.run F σ H en at_).mono fun J H1 ⟨ds, F1, m1, st, ⟨I, i0, turn, done⟩, w⟩ => fun Dl hDl => ?_
  have hF1 : F1 Dl = none := st.at2.sub.free hDl
  have hk1 : Dl ∉ keys m1 := st.at2.notkey hDl
  refine lc_it w (fun i H' => ∃ acc vs F' m', Step X.K F1 m1 H1 F' m' H' ∧ H' Dl = some (.lst vs) ∧ Dens X.K F' vs acc ∧ I i acc m' ∧ F' Dl = none ∧ Dl ∉ keys m') ⟨[], [], F1, m1, (Step.refl st.at2).poke hDl hF1 hk1, upd_same, .nil, i0, hF1, hk1⟩
    (fun i H' _ ⟨acc, vs, F', m', s', _⟩ => s'.ex.trans s'.at2.sub) (fun i x H' H'' hi ⟨acc, vs, F', m', s', hl, hs, hI, hF', hk'⟩ yy => ?_) (fun H' ⟨acc, vs, F', m', s', hl, hs, hI, hF', hk'⟩ => ?_)
  · obtain ⟨F3, d, hd, s3, q⟩ := yy F' m' s'.ex s'.at2
    obtain ⟨ρ2, hset, turn⟩ := turn i d acc m' hd hI
    obtain ⟨a1, a2, a3⟩ := s3.stay hF' hk' hl
    have en2 := wipe1 (en.mono (st.ex.trans (s'.ex.trans s3.ex))) hset q
    have fin : ∀ {F4 m4 H4 v z}, Step X.K F3 m' H'' F4 m4 H4 → Den X.K F4 v z → acc.length < 100000 ∧ I (i + 1) (acc ++ [z]) m4 → ∃ acc, H4 Dl = some (.lst acc) ∧ acc.length < sizeLine ∧ ∃ acc_1 vs F' m', Step X.K F1 m1 H1 F' m' (upd H4 Dl (.lst (acc ++ [v]))) ∧ upd H4 Dl (.lst (acc ++ [v])) Dl = some (.lst vs) ∧ Dens X.K F' vs acc_1 ∧ I (i + 1) acc_1 m' ∧ F' Dl = none ∧ Dl ∉ keys m' := fun {F4 m4 H4 v z} s4 q4 hh => by
      obtain ⟨b1, b2, b3⟩ := s4.stay a2 a3 a1
      exact ⟨vs, b1, lenLt (by rw [hs.length]; exact hh.1), acc ++ [z], vs ++ [v], F4, m4, ((s'.trans s3).trans s4).poke hDl b2 b3, upd_same, (hs.mono (s3.ex.trans s4.ex)).snoc q4, hh.2, b2, b3⟩
    refine ⟨wipe_back (by simp), ?_⟩
    match ifs, turn with
    | [], turn =>
      unfold STs
      dsimp only
      rw [if_pos rfl]
      intro s H0 C cl fp
      exact EX.go (turn s H0 C cl fp) en2.blk (.quiet s3.at2) fun v z F4 m4 H4 s4 _ q4 hh => fin s4 q4 hh
    | [c], turn =>
      show ∀ s H0 C cl fp, ST (X.blk s H0 scope (compEnvC scope cl C X.env) fp) c _ H'' _
      intro s H0 C cl fp
      refine TX.go (turn s H0 C cl fp) en2.blk (.quiet s3.at2) fun k F4 m4 H4 s4 _ r => ?_
      cases k with
      | true =>
        rw [if_pos rfl]
        intro s' H0' C' cl' fp'
        exact EX.go (r.1 rfl s' H0' C' cl' fp') (en2.mono s4.ex).blk (.quiet s4.at2.toAt) fun v z F5 m5 H5 s5 _ q5 hh => fin (s4.st.trans s5.st) q5 hh
      | false =>
        rw [if_neg Bool.false_ne_true]
        obtain ⟨b1, b2, b3⟩ := Step.stay s4.st a2 a3 a1
        exact ⟨acc, vs, F4, m4, (s'.trans s3).trans s4, b1, hs.mono (s3.ex.trans s4.ex), r.2 rfl, b2, b3⟩
    | _ :: _ :: _, turn => exact absurd hl1 (by simp)
  · exact fin Dl acc vs F1 m1 H1 F' m' H' st hDl s' hF' hk' hl hs (done acc m' (by simpa using hI))
/-- the list as it is made: frozen, or in the ledger -/
theorem lc_frz {R : List D → Led → Prop} {F H F1 H1 F' H' : Hp} {m1 m' : Led} {Dl : Addr} {acc : List D} {vs : List V} (st : Step X.K F m H F1 m1 H1) (hDl : H1 Dl = none) (s' : Step X.K F1 m1 H1 F' m' H') (hF' : F' Dl = none) (hk' : Dl ∉ keys m') (hl : H' Dl = some (.lst vs)) (hs : Dens X.K F' vs acc) :
    ∃ F2, Step X.K F m H F2 m' H' ∧ Den X.K F2 (.ref Dl) (.lst acc) :=
  ⟨_, st.trans (s'.take hDl hF' hk' hl), .lst (.inl upd_same) (hs.mono (Ex.new hF'))⟩
theorem Step.takeM {K : Frag} {F H F2 H2 : Hp} {m m2 : Led} {p : Addr} {h : HO} {mo : MO} (s : Step K F m H F2 m2 H2) (hp : H p = none) (hF : F2 p = none) (hk : p ∉ keys m2) (ho : H2 p = some h) (hm : MDen K F2 p mo h) : Step K F m H F2 (m2 ++ [(p, mo)]) H2 := by
  refine ⟨⟨s.at2.sub, fun q hq => ?_, fun q hq => ?_, ?_⟩, s.ex, s.keep, s.frF, fun x hx => ?_⟩
  · rcases List.mem_append.mp hq with hq | hq
    · exact s.at2.led q hq
    · obtain rfl : q = (p, mo) := by simpa using hq
      exact ⟨h, hm, ho⟩
  · rcases List.mem_append.mp hq with hq | hq
    · exact s.at2.dis q hq
    · obtain rfl : q = (p, mo) := by simpa using hq
      exact hF
  · show (List.map (·.1) (m2 ++ [(p, mo)])).Nodup
    rw [List.map_append]
    refine List.nodup_append.mpr ⟨s.at2.nod, by simp, fun x hx y hy => ?_⟩
    obtain rfl : y = p := by simpa using hy
    exact fun z => hk (z ▸ hx)
  · have hx' : x ∈ List.map (·.1) (m2 ++ [(p, mo)]) := hx
    rw [List.map_append] at hx'
    rcases List.mem_append.mp hx' with q | q
    · exact s.frM x q
    · obtain rfl : x = p := by simpa using q
      exact .inr hp
/-- [elt for y in it if ..] -/
theorem x_lc {ifs : List Expr} (hj : SlotAt ρ j y) (h : IX X (.Name y py) it ρ m (CompI X scope ifs elt y j ρ fun acc m' => R (.lst acc) m')) (hl1 : ifs.length ≤ 1 := by decide) (hok : blkC X.N X.env.scope scope [(y, j)] = true := by kernel_rfl)
    (hx : ∀ cl C, Loc (compEnvC scope cl C X.env).scope y := by intro _ _; first | exact Or.inl rfl | exact Or.inr rfl) (hf : ∀ cl C, (scope.names.lookup y == some .cell) = true ∨ (compEnvC scope cl C X.env).scope.names.lookup y = some .local := by intro _ _; first | exact .inl rfl | exact .inr rfl)
    (hc : X.calm = true := by rfl) (hs : ∀ x, foldedSetIterable it X.env x = pure x := by intro _; rfl) : EX X (.ListComp elt [⟨.Name y py, it, ifs, 0⟩] scope pos) ρ m R := .mk fun F σ H en at_ =>
  SE.of (pe_lc (own := [(y, j)]) hc en.nd (pi_SI (it := it)) (blkOk_by hok) (fun s H0 C cl fp => pg_name (X := X.blk s H0 scope (compEnvC scope cl C X.env) fp) (i := j) en.nd (by show X.N[j]? = some y; rw [← en.nm]; exact hj.ix) (hx cl C) (hf cl C)) (fun s H0 C cl fp => pts_STs s H0 C cl fp) (fun s H0 C cl fp => pe_SEb s H0 C cl fp) hs)
    (lc_read hl1 en at_ _ _ h (fun Dl acc vs F1 m1 H1 F' m' H' st hD s' hF hk hl hs r => let ⟨F2, st2, q⟩ := lc_frz (R := fun _ _ => True) st hD s' hF hk hl hs; ⟨_, F2, m', st2, q, r⟩))
/-- x = [..] on one line, x a local -/
theorem s_setLc {ifs : List Expr} {E : EndsD} {x : Str} {i : Nat} {px spos : Pos} (hj : SlotAt ρ j y) (hi : SlotAt ρ i x) (h : IX X (.Name y py) it ρ m (CompI X scope ifs elt y j ρ fun acc m' => ∃ ρ', SetAt ρ i x (.lst acc) ρ' ∧ E.nx ρ' m'))
    (hxl : X.env.scope.names.lookup x = some .local := by rfl) (ha : (scope.names.any fun (n, k) => n == x && (k == .local || k == .cell)) = false := by decide +kernel) (hk : X.env.scope.kind = .function := by rfl) (hln : (px.line == pos.line) = true := by rfl)
    (hl1 : ifs.length ≤ 1 := by decide) (hok : blkC X.N X.env.scope scope [(y, j)] = true := by kernel_rfl)
    (hx : ∀ cl C, Loc (compEnvC scope cl C X.env).scope y := by intro _ _; first | exact Or.inl rfl | exact Or.inr rfl) (hf : ∀ cl C, (scope.names.lookup y == some .cell) = true ∨ (compEnvC scope cl C X.env).scope.names.lookup y = some .local := by intro _ _; first | exact .inl rfl | exact .inr rfl)
    (hc : X.calm = true := by rfl) (hs : ∀ x, foldedSetIterable it X.env x = pure x := by intro _; rfl) : S1 X (.Assign [.Name x px] (.ListComp elt [⟨.Name y py, it, ifs, 0⟩] scope pos) spos) ρ m E := .mk fun F σ H en at_ =>
  SS.of (ps_setLc (i := i) (own := [(y, j)]) hc en.nd (by rw [← en.nm]; exact hi.ix) hxl (sw_true hk hxl hln ha) (pi_SI (it := it)) (blkOk_by hok) (fun s H0 C cl fp => pg_name (X := X.blk s H0 scope (compEnvC scope cl C X.env) fp) (i := j) en.nd (by show X.N[j]? = some y; rw [← en.nm]; exact hj.ix) (hx cl C) (hf cl C)) (fun s H0 C cl fp => pts_STs s H0 C cl fp) (fun s H0 C cl fp => pe_SEb s H0 C cl fp) hs)
    (lc_read hl1 en at_ _ _ h (fun Dl acc vs F1 m1 H1 F' m' H' st hD s' hF hk hl hs ⟨ρ', hset, r⟩ => let ⟨F2, st2, q⟩ := lc_frz (R := fun _ _ => True) st hD s' hF hk hl hs; ⟨ρ', F2, m', st2, (en.mono st2.ex).set hset q, r⟩))
theorem s_setLcM {ifs : List Expr} {E : EndsD} {x : Str} {i : Nat} {px spos : Pos} (hj : SlotAt ρ j y) (hi : SlotAt ρ i x) (h : IX X (.Name y py) it ρ m (CompI X scope ifs elt y j ρ fun acc m' => ∀ p, ∃ ρ', SetAt ρ i x (.ref p) ρ' ∧ E.nx ρ' (m' ++ [(p, .lst acc)])))
    (hxl : X.env.scope.names.lookup x = some .local := by rfl) (ha : (scope.names.any fun (n, k) => n == x && (k == .local || k == .cell)) = false := by decide +kernel) (hk : X.env.scope.kind = .function := by rfl) (hln : (px.line == pos.line) = true := by rfl)
    (hl1 : ifs.length ≤ 1 := by decide) (hok : blkC X.N X.env.scope scope [(y, j)] = true := by kernel_rfl)
    (hx : ∀ cl C, Loc (compEnvC scope cl C X.env).scope y := by intro _ _; first | exact Or.inl rfl | exact Or.inr rfl) (hf : ∀ cl C, (scope.names.lookup y == some .cell) = true ∨ (compEnvC scope cl C X.env).scope.names.lookup y = some .local := by intro _ _; first | exact .inl rfl | exact .inr rfl)
    (hc : X.calm = true := by rfl) (hs : ∀ x, foldedSetIterable it X.env x = pure x := by intro _; rfl) : S1 X (.Assign [.Name x px] (.ListComp elt [⟨.Name y py, it, ifs, 0⟩] scope pos) spos) ρ m E := .mk fun F σ H en at_ =>
  SS.of (ps_setLc (i := i) (own := [(y, j)]) hc en.nd (by rw [← en.nm]; exact hi.ix) hxl (sw_true hk hxl hln ha) (pi_SI (it := it)) (blkOk_by hok) (fun s H0 C cl fp => pg_name (X := X.blk s H0 scope (compEnvC scope cl C X.env) fp) (i := j) en.nd (by show X.N[j]? = some y; rw [← en.nm]; exact hj.ix) (hx cl C) (hf cl C)) (fun s H0 C cl fp => pts_STs s H0 C cl fp) (fun s H0 C cl fp => pe_SEb s H0 C cl fp) hs)
    (lc_read hl1 en at_ _ _ h (fun Dl acc vs F1 m1 H1 F' m' H' st hD s' hF hk hl hs r => let ⟨ρ', hset, r2⟩ := r Dl; have st2 := st.trans (s'.takeM hD hF hk hl (mo := .lst acc) ⟨vs, rfl, hs⟩); ⟨ρ', F', _, st2, (en.mono st2.ex).set hset (.ref Dl), r2⟩))
end

/-! ### a def -/
def startR : List Str → List D → Rn
  | [], _ => []
  | x :: N, [] => (x, none) :: startR N []
  | x :: N, d :: ds => (x, some d) :: startR N ds
theorem startR_names : ∀ (N : List Str) (ds : List D), (startR N ds).map (·.1) = N
  | [], _ => rfl
  | x :: N, [] => by simp only [startR, List.map_cons, startR_names N []]
  | x :: N, d :: ds => by simp only [startR, List.map_cons, startR_names N ds]
theorem startR_envs {K : Frag} {F : Hp} : ∀ (N : List Str) (vs : List V) (ds : List D), vs.length ≤ N.length → Dens K F vs ds → Envs K F (start N vs) ((startR N ds).map (·.2))
  | N, _, _, hl, .nil => by
    refine ⟨?_, fun i d h => ?_⟩
    · have e := congrArg List.length (startR_names N [])
      rw [List.length_map] at e
      rw [List.length_map, e]
      unfold L2.start
      simp
    have key : ∀ (N : List Str) (i : Nat), ((startR N []).map (·.2))[i]? = some (some d) → False := by
      intro N
      induction N with
      | nil => intro i h; simp [startR] at h
      | cons x N ih =>
        intro i h
        cases i with
        | zero => simp [startR] at h
        | succ i => exact ih i (by simpa [startR] using h)
    exact (key N i h).elim
  | [], _, _, hl, .cons _ _ => by simp at hl
  | x :: N, v :: vs, d :: ds, hl, .cons q qs => by
    have ih := startR_envs (K := K) (F := F) N vs ds (by simpa using hl) qs
    have es : start (x :: N) (v :: vs) = some v :: start N vs := by
      unfold L2.start
      simp
    rw [es]
    refine ⟨by simp only [startR, List.map_cons, List.length_cons, ih.len], fun i e h => ?_⟩
    cases i with
    | zero =>
      have : e = d := by simp [startR] at h; exact h.symm
      subst this
      exact ⟨v, rfl, q⟩
    | succ i => exact ih.get i e (by simpa [startR] using h)
section
variable {P : Program} {w : World} {K : Frag} {mg : Str → Option Value} {base : Heap}
/-- THE RULE for a def that raises nothing -/
theorem def_ok {x qual : Str} {st : Stmt} {f : Addr} {fd : FuncData} {N ps : List Str} {k : Nat} {sp : SpD} (F : Fun K x qual st f fd) (S : FnScope N ps (defScope st)) (len : ∀ ds m R, sp ds m R → ds.length = ps.length)
    (body : ∀ (cdv : Value) (A : Around) (outer : List PySem.Env) (s : Shared) (H : Hp) (ds : List D) (m : Led) (R : D → Led → Prop), Room k (A.deeper (envOfC qual (defScope st) s.heap.objs.size f cdv)) → sp ds m R →
      SX ⟨(cxOf CX0 P w K mg base N qual (defScope st) f cdv A outer s H E0).nox, fun _ _ _ _ => False⟩ (defBody st) (startR N ds) m { nx := fun _ m2 => ∃ m3, m3.Sublist m2 ∧ R .non m3, rt := fun d m2 => ∃ m3, m3.Sublist m2 ∧ R d m3 }) : FnOk P w K mg base CX0 (k + 1) f fd ps (lift K sp) := by
  refine F.ok S (fun vs H Q E ⟨F0, m, ds, R, q, _, h, _⟩ => by rw [q.length]; exact len ds m R h) (fun cdv A outer s H vs Q E hr ⟨F0, m, ds, R, q, at_, h, k⟩ => ?_)
  refine ⟨_, pss_SS, ?_⟩
  have hb := body cdv A outer s H ds m R hr h
  have hl : vs.length ≤ N.length := by
    rw [q.length, len ds m R h]
    have := congrArg List.length S.pre
    rw [List.length_take] at this
    omega
  have en : DL.Env (cxOf CX0 P w K mg base N qual (defScope st) f cdv A outer s H E).nox F0 (start N vs) (startR N ds) := ⟨S.nd, startR_names N ds, startR_envs N vs ds hl q⟩
  refine (hb.run F0 (start N vs) H en (.quiet at_)).mono (fun σ2 H2 ⟨ρ2, F2, m2, s2, en2, m3, sl, r⟩ => ?_) (fun v H2 ⟨d, F2, m2, s2, q2, m3, sl, r⟩ => ?_) (fun _ _ ⟨_, _, _, _, _, z⟩ => z) (fun _ _ ⟨_, _, _, _, _, z⟩ => z)
  · exact k .non m3 .non F2 H2 r (s2.trans (Step.drop s2.at2 sl)) .non
  · exact k d m3 v F2 H2 r (s2.trans (Step.drop s2.at2 sl)) q2
end
/-- ghost: a list of the ledger is frozen between two statements -/
theorem s_freeze {X : CD} {sts : List Stmt} {ρ ρ' : Rn} {m : Led} {E : EndsD} {i n : Nat} {x : Str} {p : Addr} {ds : List D} (hm : m[n]? = some (p, .lst ds)) (hl : LookAt ρ i x (.ref p)) (hs : SetAt ρ i x (.lst ds) ρ') (h : SX X sts ρ' (m.eraseIdx n) E) : SX X sts ρ m E := .mk fun F σ H en at_ => by
  obtain ⟨F2, s2, q2⟩ := Step.freeze at_.toAt hm
  have en2 := (en.mono s2.ex).set hs q2
  obtain ⟨hN, v, e1, q⟩ := en.look hl
  cases q
  have e : σ.set i (some (.ref p)) = σ := by
    apply List.ext_getElem?
    intro j
    by_cases hj : i = j
    · subst hj
      rw [List.getElem?_set_self (List.getElem?_eq_some_iff.mp e1).1, e1]
    · rw [List.getElem?_set_ne hj]
  rw [e] at en2
  exact SSs.step s2 (h.run F2 σ H en2 (at_.to s2))
end DL


namespace DL
open PySem PySem.Spec PyProof.Rows L2 RZ
section
variable {X : CD} {a b e tg it : Expr} {es : List Expr} {ρ : Rn} {m : Led} {R : D → Led → Prop} {x : Str} {p pos tpos : Pos} {k n : Nat} {sp : SpD} {mg : Str → Option Value}
/-- built-ins by name: hm is found by its name -/
theorem c_cb {id : String} (hm : mg x = none) (hv : bootBuiltins x = some (.builtin id)) (h : AX X (e :: es) ρ m fun ds m1 => BX X (.builtin id) ds m1 R) (hX : X.mg = mg := by rfl) (hg : Gl X x := by rfl) (hn : x ≠ "__name__" := by decide) (hdb : (x == ("__debug__" : Str)) = false := by decide)
    (he : starEach (e :: es) X.env = (false, eval e X.env) :: starEach es X.env := by rfl) (hpl : (backTo pos (starEach es X.env)).any (·.1) = false := by rfl) : EX X (.Call (.Name x p) (e :: es) [] pos) ρ m R := by
  subst hX
  exact x_cb h hm hv hg hn hdb he hpl
theorem c_ct {T : String} (hm : mg x = none) (hv : bootBuiltins x = some (.type T)) (h : AX X (e :: es) ρ m fun ds m1 => BX X (.type T) ds m1 R) (hX : X.mg = mg := by rfl) (hg : Gl X x := by rfl) (hn : x ≠ "__name__" := by decide) (hdb : (x == ("__debug__" : Str)) = false := by decide)
    (he : starEach (e :: es) X.env = (false, eval e X.env) :: starEach es X.env := by rfl) (hpl : (backTo pos (starEach es X.env)).any (·.1) = false := by rfl) : EX X (.Call (.Name x p) (e :: es) [] pos) ρ m R := by
  subst hX
  exact x_ct h hm hv hg hn hdb he hpl
theorem c_ty {nn : String} (hm : mg x = none) (hv : bootBuiltins x = some (.type nn)) (kk : R (.ty nn) m) (hX : X.mg = mg := by rfl) (h : Gl X x := by rfl) (hn : x ≠ "__name__" := by decide) (hd : (x == ("__debug__" : Str)) = false := by decide) : EX X (.Name x pos) ρ m R := by
  subst hX
  exact x_ty kk hm hv h hn hd
theorem c_glob {K : Frag} {d : D} (hgc : GC K mg x d) (kk : R d m) (hX : X.mg = mg ∧ X.K = K := by exact ⟨rfl, rfl⟩) (h : Gl X x := by rfl) (hd : (x == ("__debug__" : Str)) = false := by decide) : EX X (.Name x pos) ρ m R := by
  obtain ⟨rfl, rfl⟩ := hX
  exact x_glob hgc kk h hd
theorem bt_int : bootBuiltins "int" = some (.type "int") := by decide +kernel
theorem bt_list : bootBuiltins "list" = some (.type "list") := by decide +kernel
theorem bt_tuple : bootBuiltins "tuple" = some (.type "tuple") := by decide +kernel
theorem bt_bool : bootBuiltins "bool" = some (.type "bool") := by decide +kernel
theorem bt_len : bootBuiltins "len" = some (.builtin "len") := by decide +kernel
theorem bt_max : bootBuiltins "max" = some (.builtin "max") := by decide +kernel
theorem bt_min : bootBuiltins "min" = some (.builtin "min") := by decide +kernel
theorem bt_abs : bootBuiltins "abs" = some (.builtin "abs") := by decide +kernel
theorem bt_sum : bootBuiltins "sum" = some (.builtin "sum") := by decide +kernel
theorem bt_all : bootBuiltins "all" = some (.builtin "all") := by decide +kernel
theorem bt_any : bootBuiltins "any" = some (.builtin "any") := by decide +kernel
theorem bt_sorted : bootBuiltins "sorted" = some (.builtin "sorted") := by decide +kernel
theorem bt_isinstance : bootBuiltins "isinstance" = some (.builtin "isinstance") := by decide +kernel
end
section
variable {X : CD} {a b e tg it : Expr} {ρ : Rn} {m : Led} {R : List D → Led → Prop} {p pos tpos : Pos} {mg : Str → Option Value}
theorem j_range1 (hm : mg "range" = none) (h : EX X a ρ m fun d m1 => ∃ j : Int, d = .int j ∧ -100000 ≤ j ∧ j ≤ 100000 ∧ R (rangeD 0 j.toNat) m1) (hX : X.mg = mg := by rfl) (hg : Gl X "range" := by rfl) (hs : starEach [a] X.env = [(false, eval a X.env)] := by rfl) : IX X tg (.Call (.Name "range" p) [a] [] pos) ρ m R := by
  subst hX
  exact ix_range1 h hm hg hs
end
/-! lists and tuples alike -/
def Seq (d : D) (ds : List D) : Prop := d = .lst ds ∨ d = .tup ds
def iSeq (X : CD) (it : Expr) : TI := fun σ H R => SE X it σ H fun x H1 => ∃ a, x = .ref a ∧ (((∃ xs, SqL X.K H1 a xs) ∧ R (Itl X.K a) H1) ∨ ((∃ xs, SqT X.K H1 a xs) ∧ R (Itt X.K a) H1))
/-! isinstance, by kinds -/
section
variable {X : CD} {m : Led} {R : D → Led → Prop}
end
/-! a statement, then the rest from a word between them -/
theorem S1.mono {X : CD} {st : Stmt} {ρ : Rn} {m : Led} {E E' : EndsD} (h : S1 X st ρ m E) (h1 : ∀ ρ m, E.nx ρ m → E'.nx ρ m) (h2 : ∀ d m, E.rt d m → E'.rt d m) (h3 : ∀ ρ m, E.bk ρ m → E'.bk ρ m) (h4 : ∀ ρ m, E.ct ρ m → E'.ct ρ m) : S1 X st ρ m E' := .mk fun F σ H en a =>
  (h.run F σ H en a).mono (fun σ H ⟨ρ, F2, m2, s, e, r⟩ => ⟨ρ, F2, m2, s, e, h1 _ _ r⟩) (fun v H ⟨d, F2, m2, s, e, r⟩ => ⟨d, F2, m2, s, e, h2 _ _ r⟩) (fun σ H ⟨ρ, F2, m2, s, e, r⟩ => ⟨ρ, F2, m2, s, e, h3 _ _ r⟩) (fun σ H ⟨ρ, F2, m2, s, e, r⟩ => ⟨ρ, F2, m2, s, e, h4 _ _ r⟩)
theorem Knows.mono {P : Program} {w : World} {K : Frag} {mg : Str → Option Value} {base : Heap} {j k n : Nat} {x : Str} {sp : SpD} (h : Knows P w K mg base j x n sp) (hk : j ≤ k) : Knows P w K mg base k x n sp := by
  obtain ⟨f, fd, ps, a, b, c, d, e⟩ := h.fn
  exact ⟨f, fd, ps, a.mono hk, b, c, d, e⟩
/-- the law's call -/
theorem law_start {K : Frag} {sp : SpD} {H : Hp} {a : Addr} {ns : List Int} {E : XK} (hS : SqL K H a (ns.map V.int)) (h : ∀ R : D → Led → Prop, (∀ m', R (.bl true) m') → sp [.lsk (ns.map D.int)] [] R) : lift K sp [.ref a] H (fun v _ => v = .bl true) E :=
  ⟨H, [], [.lsk (ns.map D.int)], fun d _ => d = .bl true, .cons (.lsk hS Dens.of_ints) .nil, ⟨Ex.refl _, fun _ h => (nomatch h), fun _ h => (nomatch h), List.nodup_nil⟩, h _ fun _ => rfl, fun d m2 v F2 H2 e _ q => by subst e; exact q.bl_inv⟩
end DL


namespace DL
open PySem PySem.Spec PySem.Calls PyProof.Rows L2 PySem.W

/-! ### an own exception class over ValueError whose __init__ begins with super().__init__(text) -/
/-- what the written part says of the class and of its __init__ -/
structure XIn (P : Program) (K : Frag) (mg : Str → Option Value) (C fI cc cda : Addr) (q : Str) (fd : FuncData) : Prop where
  T : OexC K C
  iC : findIn K (.ref C) "__init__" = some (some (.ref fI))
  tI : typeIn K (.ref fI) = some (.type "function")
  lf : ∃ oc od osl, K.lookup fI = some ⟨oc, od, .func fd, osl⟩
  lc : codeIn K (.ref cda) q = true
  fq : fd.qualname = q
  fc : fd.code = .ref cda
  fl : fd.closure = [(("__class__" : Str), cc)]
  fg : fd.globals = mainGlobals
  fb : fd.builtins = builtinsNs
  hcode : ∃ ccl cdd vs ccs file tf, K.lookup cda = some ⟨ccl, cdd, .fields vs, ccs⟩ ∧ vs[2]? = some (.str file tf) ∧ ((P.main.file : Str) == file) = true
  hcell : ∃ cl cld csl, K.lookup cc = some ⟨cl, cld, .cell (some (.ref C)), csl⟩
  sup : ks_superIn K C C "__init__" = some (some (.builtin "ValueError.__init__"))
  sub : mroIn K C (.ref C) = some true
  sVE : subIn K (.ref C) (.type "ValueError") = some true
  opq : nsIn K cStatics "thirdparty.any" = some none
  exi : excInitIn K C [.type "ValueError", .type "Exception", .type "BaseException", .type "object"] "ValueError.__new__" = true
  mgs : mg "super" = none
  top : (P.main.scope.names.lookup ("super" : Str)).isSome = false

section
variable {P : Program} {w : World} {K : Frag} {mg : Str → Option Value} {C fI cc cda : Addr} {q : Str} {fd : FuncData} {A : Around} {E : Value → Shared → Prop}
theorem call_mw {s : Shared} {u e t0 : Addr} {rest : List Value} {Q : Value → Shared → Prop} (Z : XIn P K mg C fI cc cda q fd) (X : K.In s.heap) (hu : s.heap.get? u = some (kxs_mw "ValueError.__init__" e)) (he : s.heap.get? e = some (HandSPX.excO C t0)) (hz : rest.length ≤ sizeLine)
    (h : ∀ h' t1, (∀ b o, b ≠ e → s.heap.get? b = some o → h'.get? b = some o) → h'.get? e = some (HandSPX.excO C t1) → Q .none { s with heap := h' }) : wpAny (model P w) A (call (.ref u) rest) Q E s := by
  obtain ⟨nm, N', qn, bs, bm, hdct, sn, sub, ab, col, dd, k0, k1, k2, k3, k5, hC, hT⟩ := excInit_of X Z.exi
  obtain ⟨hh, g, d, tk, os⟩ := s
  refine wpAny_call (codeAny_of_tree ?_)
  show wpAny _ A.in1 (callAny (.ref u) ⟨rest, []⟩) _ _ _
  simp only [callAny]
  refine wpAny_bind (wpAny_load hu ?_)
  simp only [kxs_mw, show (Value.type "method-wrapper" == Value.type "method" || Value.type "method-wrapper" == Value.type "builtin_function_or_method" || Value.type "method-wrapper" == Value.type "method-wrapper") = true by decide, if_true]
  refine KFB.if_so (by decide) ?_
  refine wpAny_bind (check_bound_init F.excBase_ValueError.toExcCallFacts hC he rfl ?_)
  refine wpAny_bind (wpAny_pure (wpAny_pure ?_))
  refine ⟨plainId_quiet F.excBase_ValueError.init.plain _, codeAny_builtin F.excBase_ValueError.initEntry ?_⟩
  exact exc_init_tree (cls := .ref C) (t0 := t0) (dv := none) (c2 := .none) (c3 := .none) (b4 := .bool false) he hz fun h' k e' t' => h h' _ k e'

/-- the statement super().__init__(text) -/
theorem super_stmt {s : Shared} {body : List Stmt} {L e t0 : Addr} {m mb : Str → Option Value} {ar : Arg} {msg : Str} {j : Nat} {p0 p1 p2 p3 p4 p5 : Pos} {Q : Flow → Shared → Prop} {pl : Sem Bool} (Z : XIn P K mg C fI cc cda q fd) (X : K.In s.heap)
    (glob : s.heap.Ns mainGlobals mg) (blt : s.heap.Ns builtinsNs mb) (hmb : mb "super" = bootBuiltins "super")
    (hks : fd.scope.names.lookup ("super" : Str) = some .globalImplicit) (hkc : fd.scope.names.lookup ("__class__" : Str) = some .free) (hka : fd.scope.names.lookup ar.arg = some .local) (hk : fd.scope.kind = .function)
    (hp : (fd.params.posonlyargs ++ fd.params.args).head? = some ar) (ns : s.heap.Ns L m) (hv : m ar.arg = some (.ref e)) (he : s.heap.get? e = some (HandSPX.excO C t0))
    (hev : eval (.Call (.Attribute (.Call (.Name "super" p0) [] [] p1) "__init__" p2) [.Constant (.str msg) j p3] [] p4) (callEnv fd L fI) = (do
      let ov ← attributeBase (.Call (.Name "super" p0) [] [] p1) "__init__" (callEnv fd L fI) (eval (.Call (.Name "super" p0) [] [] p1) (callEnv fd L fI))
      standAt p2.atName
      let (f, first) ← holding [ov] (getMethod ov "__init__" pl)
      callWith p4 f first (backTo p4 (starEach [.Constant (.str msg) j p3] (callEnv fd L fI))) []))
    (h : ∀ h' t1 tk, (∀ b o, b ≠ e → s.heap.get? b = some o → h'.get? b = some o) → h'.get? e = some (HandSPX.excO C t1) → Q .next { s with heap := h', toks := tk }) :
    _root_.PySem.wpAt (model P w) A (.func body (callEnv fd L fI)) (exec (.Expr (.Call (.Attribute (.Call (.Name "super" p0) [] [] p1) "__init__" p2) [.Constant (.str msg) j p3] [] p4) p5) (callEnv fd L fI)) Q E s := by
  obtain ⟨oc, od, osl, lf⟩ := Z.lf
  obtain ⟨ccl, cdd, vs, ccs, file, tf, lco, hvs, hfile⟩ := Z.hcode
  obtain ⟨cl, cld, csl, lce⟩ := Z.hcell
  have hc0 : ∃ cd, clsIn K C = some cd := by
    cases z : clsIn K C with
    | some cd => exact ⟨cd, rfl⟩
    | none => have := Z.sup; unfold ks_superIn at this; rw [z] at this; cases this
  obtain ⟨cd, hcd⟩ := hc0
  obtain ⟨oD, hD1, hD2⟩ : ∃ oD, s.heap.get? C = some oD ∧ oD.data = .cls cd := by
    have hcd' := hcd
    unfold clsIn at hcd'
    split at hcd'
    · rename_i c d cd' sl ho
      cases hcd'
      exact ⟨_, X _ _ ho, rfl⟩
    · cases hcd'
  have hsup := Z.sup
  unfold ks_superIn at hsup
  rw [hcd, Option.bind_some] at hsup
  have neC : e ≠ C := fun z => by
    rw [z, hD1] at he
    cases he
    cases hD2
  refine ks_wpAt_Expr_any (hi := by show (fd.scope.kind == .module && _) = false; rw [hk]; rfl) ?_
  refine ks_wpAt_MethodCall (he := hev) ?_
  refine ks_wpAt_super_base (env := callEnv fd L fI) hks hkc (by decide) rfl (X _ _ lf) rfl hp Z.fc (X _ _ lco) rfl hvs hfile Z.top ?_
  have hgl : (callEnv fd L fI).globals = mainGlobals := Z.fg
  have hbu : (callEnv fd L fI).builtins = builtinsNs := Z.fb
  refine ks_loadName_global hk hks (loadGlobal_builtin (env := callEnv fd L fI) (by rw [hgl]; exact glob) Z.mgs (by rw [hbu]; exact blt) (hmb.trans (show bootBuiltins "super" = some (.type "super") by decide +kernel)) ⟨rfl, ?_⟩)
  refine wpAny_loadName_free hk hkc (show (callEnv fd L fI).cells.lookup ("__class__" : Str) = some cc by (show List.lookup _ fd.closure = _; rw [Z.fl]; rfl)) ⟨_, X _ _ lce, rfl⟩ ?_
  refine wpAny_loadName_local hk hka ns hv ?_
  refine ks_wpAny_isType_cls hD1 hD2 ⟨rfl, ?_⟩
  obtain ⟨hh, g, d, tk, os⟩ := s
  refine ks_wpAny_call_super hD1 hD2 he rfl (fun c z => by cases z) (looks_mroIn X Z.sub) (fun h1 e1 k1 => ?_)
  have X1 : K.In h1 := X.keeps k1
  have he1 : h1.get? e = some (HandSPX.excO C t0) := k1 _ _ he
  have LI : Looks (model P w) h1 (isInstance (.ref e) (.type "ValueError")) true := by
    have I : InstAt h1 e (HandSPX.excO C t0) C none := ⟨he1, rfl, rfl, trivial⟩
    exact I.type.andThen (looks_subIn X1 Z.sVE)
  refine kxs_getMethod kxs_ValueError e1 (looks_opaque X1 Z.opq) (l₀ := cd.mro) (fun A Q E s k q => wpAny_bind ((looks_clsIn X1 hcd) A _ E s k (wpAny_pure q))) rfl X1 hsup LI neC (by decide) ?_
  have hm : (h1.push (kxs_mw "ValueError.__init__" e)).get? h1.objs.size = some (kxs_mw "ValueError.__init__" e) := Heap.get?_push_at rfl rfl
  have k2 : ∀ b o, h1.get? b = some o → (h1.push (kxs_mw "ValueError.__init__" e)).get? b = some o := fun b o z => Heap.get?_push_of_some _ z
  refine kxs_callWith (i := "ValueError.__init__") (x := e) rfl (evalArgs_plain ?_)
  refine spliced_more (wpAny_Constant_str (spliced_none ?_)) rfl
  refine ⟨hm, ?_⟩
  show wpAny _ _ (call (.ref h1.objs.size) _) _ _ _
  refine call_mw (s := ⟨h1.push (kxs_mw "ValueError.__init__" e), g, d, _, os⟩) Z (X1.keeps k2) hm (k2 _ _ he1) (by show 1 ≤ sizeLine; rw [sizeLine_eq]; omega) fun h' t1 k3 e3 => ?_
  exact h h' t1 _ (fun b o hb z => k3 b o hb (k2 _ _ (k1 _ _ z))) e3

/-- the scope of such an __init__ -/
structure XSc (fd : FuncData) (sf : Str) : Prop where
  ks : fd.scope.names.lookup ("super" : Str) = some .globalImplicit
  kc : fd.scope.names.lookup ("__class__" : Str) = some .free
  ka : fd.scope.names.lookup sf = some .local
  kk : fd.scope.kind = .function
  hp : ∃ ar : Arg, (fd.params.posonlyargs ++ fd.params.args).head? = some ar ∧ ar.arg = sf
  cell : ∀ x ∈ fd.scope.names, x.2 ≠ .cell
  co : fd.scope.isCoroutine = false
  gen : fd.scope.isGenerator = false
def supCall (msg : Str) (j : Nat) (p0 p1 p2 p3 p4 : Pos) : Expr := .Call (.Attribute (.Call (.Name "super" p0) [] [] p1) "__init__" p2) [.Constant (.str msg) j p3] [] p4
/-- how the call is read -/
def SupEv (fd : FuncData) (fI : Addr) (msg : Str) (j : Nat) (p0 p1 p2 p3 p4 : Pos) : Prop := ∃ pl : Sem Bool, ∀ L, eval (.Call (.Attribute (.Call (.Name "super" p0) [] [] p1) "__init__" p2) [.Constant (.str msg) j p3] [] p4) (callEnv fd L fI) = (do
      let ov ← attributeBase (.Call (.Name "super" p0) [] [] p1) "__init__" (callEnv fd L fI) (eval (.Call (.Name "super" p0) [] [] p1) (callEnv fd L fI))
      standAt p2.atName
      let (f, first) ← holding [ov] (getMethod ov "__init__" pl)
      callWith p4 f first (backTo p4 (starEach [.Constant (.str msg) j p3] (callEnv fd L fI))) [])
theorem ns_keep {h h' : Heap} {L e : Addr} {m : Str → Option Value} (ns : h.Ns L m) (ne : L ≠ e) (k : ∀ b o, b ≠ e → h.get? b = some o → h'.get? b = some o) : h'.Ns L m := by
  obtain ⟨o, es, ep, e1, r⟩ := ns
  exact ⟨o, es, ep, k _ _ ne e1, r⟩
theorem init_call0 {s : Shared} {R : Result → Shared → Prop} {e t0 : Addr} {mb : Str → Option Value} {sf msg : Str} {j : Nat} {p0 p1 p2 p3 p4 p5 : Pos} (Z : XIn P K mg C fI cc cda q fd) (X : K.In s.heap) (lim : s.heap.NoLimit)
    (glob : s.heap.Ns mainGlobals mg) (blt : s.heap.Ns builtinsNs mb) (hmb : mb "super" = bootBuiltins "super") (room : A.depth < recursionLimit) (S : XSc fd sf)
    (hev : SupEv fd fI msg j p0 p1 p2 p3 p4) (hbody : fd.body = .stmts [.Expr (.Call (.Attribute (.Call (.Name "super" p0) [] [] p1) "__init__" p2) [.Constant (.str msg) j p3] [] p4) p5])
    (hbind : BindsTo s fd ⟨[.ref e], []⟩ [(sf, .ref e)]) (he : s.heap.get? e = some (HandSPX.excO C t0))
    (h : ∀ h' t1 tk, (∀ b o, b ≠ e → s.heap.get? b = some o → h'.get? b = some o) → h'.get? e = some (HandSPX.excO C t1) → R (.ok (.ret .none)) { s with heap := h', toks := tk }) :
    codeAny (model P w) A (.call (.ref fI) ⟨[.ref e], []⟩) R s := by
  obtain ⟨oc, od, osl, lf⟩ := Z.lf
  obtain ⟨pl, hev⟩ := hev
  obtain ⟨ar, hp, har⟩ := S.hp
  have hcd : s.heap.CodeRec fd.code fd.qualname := by rw [Z.fc, Z.fq]; exact codeRec_of X Z.lc
  refine ks_codeAny_call_defAt (fd := fd) room (X _ _ lf) rfl lim hcd hbody hbind S.cell (fun x hx => by rw [List.mem_singleton.mp hx]; exact S.ka) (fun h0 ns k0 => ?_) S.co S.gen S.kk
  have he0 := k0 _ _ he
  refine ks_wpAt_execs_cons ?_
  refine super_stmt (s := { s with heap := h0, toks := s.toks + 1 }) (ar := ar) (e := e) (pl := pl) Z (X.keeps k0) (glob.keeps k0) (blt.keeps k0) hmb S.ks S.kc (by rw [har]; exact S.ka) S.kk hp ns (by rw [har]; simp) he0 (hev _) fun h' t1 tk k e1 => ?_
  exact wpAt_of_wpAny (wpAny_execs_nil (h h' t1 tk (fun b o hb z => k b o hb (k0 _ _ z)) e1))
theorem init_call1 {s : Shared} {R : Result → Shared → Prop} {e t0 : Addr} {u : Value} {mb : Str → Option Value} {sf par f msg : Str} {j : Nat} {p0 p1 p2 p3 p4 p5 q1 q2 q3 q4 : Pos} (Z : XIn P K mg C fI cc cda q fd) (X : K.In s.heap) (lim : s.heap.NoLimit)
    (glob : s.heap.Ns mainGlobals mg) (blt : s.heap.Ns builtinsNs mb) (hmb : mb "super" = bootBuiltins "super") (room : A.depth < recursionLimit) (S : XSc fd sf)
    (hev : SupEv fd fI msg j p0 p1 p2 p3 p4) (hpar : fd.scope.names.lookup par = some .local) (hne : par ≠ sf) (hno : findIn K (.ref C) f = some none) (hd1 : (sf == ("__debug__" : Str)) = false) (hd2 : (par == ("__debug__" : Str)) = false)
    (hsw : ∀ L, swapsWith (.Name par q4) (some (.Attribute (.Name sf q1) f q2)) q3.line (callEnv fd L fI) = pure false)
    (hbody : fd.body = .stmts [.Expr (.Call (.Attribute (.Call (.Name "super" p0) [] [] p1) "__init__" p2) [.Constant (.str msg) j p3] [] p4) p5, .Assign [.Attribute (.Name sf q1) f q2] (.Name par q4) q3])
    (heK : ∀ o, K.lookup e ≠ some o) (hbind : BindsTo s fd ⟨[.ref e, u], []⟩ [(sf, .ref e), (par, u)]) (he : s.heap.get? e = some (HandSPX.excO C t0))
    (h : ∀ h' t1 tk dx, (∀ b o, b ≠ e → s.heap.get? b = some o → h'.get? b = some o) → s.heap.objs.size ≤ dx → dx ≠ e → h'.get? e = some { cls := .ref C, dict := some dx, data := .fields #[.ref t1, .none, .none, .none, .bool false, .none] } → h'.Ns1 dx (fun y => if y = f then some u else none) → R (.ok (.ret .none)) { s with heap := h', toks := tk }) :
    codeAny (model P w) A (.call (.ref fI) ⟨[.ref e, u], []⟩) R s := by
  obtain ⟨oc, od, osl, lf⟩ := Z.lf
  obtain ⟨pl, hev⟩ := hev
  obtain ⟨ar, hp, har⟩ := S.hp
  obtain ⟨nm, qq, N, bs, bm, sn, sub, ab, col, dd, k0', k1, k2, k3, k5, hC, hbm⟩ := Z.T.cls
  have hcl : PySem.W.clsIn K C = some { name := nm, bases := bs, mro := .ref C :: bm, ns := N, qualname := qq, hasDict := true, slotNames := sn, subclasses := sub, abstract := ab, collection := col, hasDel := false } := by unfold PySem.W.clsIn; rw [hC] <;> rfl
  have hcd : s.heap.CodeRec fd.code fd.qualname := by rw [Z.fc, Z.fq]; exact codeRec_of X Z.lc
  refine ks_codeAny_call_defAt (fd := fd) room (X _ _ lf) rfl lim hcd hbody hbind S.cell (fun x hx => by
    rcases List.mem_cons.mp hx with z | z
    · rw [z]; exact S.ka
    · rw [List.mem_singleton.mp z]; exact hpar) (fun h0 ns k0 => ?_) S.co S.gen S.kk
  have he0 := k0 _ _ he
  have lkS : List.lookup sf [(par, u), (sf, Value.ref e)] = some (.ref e) := by
    rw [List.lookup_cons, show (sf == par) = false from beq_false_of_ne (Ne.symm hne)]; simp
  have lkP : List.lookup par [(par, u), (sf, Value.ref e)] = some u := by simp
  refine ks_wpAt_execs_cons ?_
  refine super_stmt (s := { s with heap := h0, toks := s.toks + 2 }) (ar := ar) (e := e) (pl := pl) Z (X.keeps k0) (glob.keeps k0) (blt.keeps k0) hmb S.ks S.kc (by rw [har]; exact S.ka) S.kk hp ns (by rw [har]; exact lkS) he0 (hev _) fun h' t1 tk k e1 => ?_
  have neL : s.heap.objs.size ≠ e := Nat.ne_of_gt (Heap.lt_size he)
  have ns' : h'.Ns s.heap.objs.size (fun x => [(par, u), (sf, Value.ref e)].lookup x) := ns_keep ns neL k
  refine ks_wpAt_execs_cons (ks_wpAt_Assign_Attr (wpAt_of_wpAny ?_) (hsw _))
  refine ldc S.kk hpar ns' lkP ?_ hd2
  refine ldc S.kk S.ka ns' lkS ?_ hd1
  have X' : K.In h' := fun b o z => k b o (fun y => heK o (y ▸ z)) (k0 _ _ (X b o z))
  refine PySem.W.set_plain X' (ox := { cls := .ref C, dict := none, data := .fields #[.ref t1, .none, .none, .none, .bool false, .none] }) (od := none) ⟨e1, rfl, rfl, trivial⟩ Z.T.sa ?_
  refine PySem.HandSPX.exc_osa X' e1 hcl (show PySem.HandSPX.refsVE (.ref C :: bm) = true from hbm) rfl hno (fun h2 tk' dx kk dn dne hx hn => ?_)
  refine wpAt_of_wpAny (wpAny_execs_nil (h h2 t1 tk' dx (fun b o hb z => kk b o hb (k b o hb (k0 _ _ z))) ?_ dne hx hn))
  obtain ⟨oL, es, ep, hL, _⟩ := ns'
  exact Nat.le_trans (Nat.le_of_lt (Heap.lt_size hL)) dn

/-- a class of exceptions as the data layer knows it: its text, the field (if it has one) -/
structure XK0 (P : Program) (w : World) (K : Frag) (mg : Str → Option Value) (nm : Str) (C : Addr) : Prop where
  mgC : mg nm = some (.ref C)
  T : OexC K C
  run : ∀ (A : Around) (s : Shared) (Q : Value → Shared → Prop) (E : Value → Shared → Prop) (mb : Str → Option Value), K.In s.heap → (∀ o, s.heap.objs.size ≤ s.heap.objs.size + 1 → K.lookup (s.heap.objs.size + 1) ≠ some o) → s.heap.NoLimit → s.heap.Ns mainGlobals mg → s.heap.Ns builtinsNs mb → mb "super" = bootBuiltins "super" → Room 1 A →
    (∀ h' t1 tk, (∀ b o, s.heap.get? b = some o → h'.get? b = some o) → h'.get? (s.heap.objs.size + 1) = some (HandSPX.excO C t1) → Q (.ref (s.heap.objs.size + 1)) { s with heap := h', toks := tk }) →
    wpAny (model P w) A (call (.ref C) []) Q E s
structure XK1 (P : Program) (w : World) (K : Frag) (mg : Str → Option Value) (nm f : Str) (C : Addr) : Prop where
  mgC : mg nm = some (.ref C)
  T : OexC K C
  run : ∀ (A : Around) (s : Shared) (u : Value) (Q : Value → Shared → Prop) (E : Value → Shared → Prop) (mb : Str → Option Value), K.In s.heap → (∀ o, s.heap.objs.size ≤ s.heap.objs.size + 1 → K.lookup (s.heap.objs.size + 1) ≠ some o) → s.heap.NoLimit → s.heap.Ns mainGlobals mg → s.heap.Ns builtinsNs mb → mb "super" = bootBuiltins "super" → Room 1 A →
    (∀ h' t1 tk dx, (∀ b o, s.heap.get? b = some o → h'.get? b = some o) → s.heap.objs.size ≤ dx → dx ≠ s.heap.objs.size + 1 → h'.get? (s.heap.objs.size + 1) = some { cls := .ref C, dict := some dx, data := .fields #[.ref t1, .none, .none, .none, .bool false, .none] } → h'.Ns1 dx (fun y => if y = f then some u else none) → Q (.ref (s.heap.objs.size + 1)) { s with heap := h', toks := tk }) →
    wpAny (model P w) A (call (.ref C) [u]) Q E s
theorem xk0_mk {nm sf msg : Str} {j : Nat} {p0 p1 p2 p3 p4 p5 : Pos} (mgC : mg nm = some (.ref C)) (Z : XIn P K mg C fI cc cda q fd) (S : XSc fd sf) (hev : SupEv fd fI msg j p0 p1 p2 p3 p4)
    (hbody : fd.body = .stmts [.Expr (.Call (.Attribute (.Call (.Name "super" p0) [] [] p1) "__init__" p2) [.Constant (.str msg) j p3] [] p4) p5]) (hbind : ∀ s e, BindsTo s fd ⟨[e], []⟩ [(sf, e)]) : XK0 P w K mg nm C := by
  refine ⟨mgC, Z.T, fun A s Q E mb X hK lim glob blt hmb room hq => ?_⟩
  obtain ⟨nm', qq, N, bs, bm, sn, sub, ab, col, dd, k0', k1, k2, k3, k5, hC, hbm⟩ := Z.T.cls
  obtain ⟨hp, g, d, tk, os⟩ := s
  have kk : ∀ b o, hp.get? b = some o → ((hp.push (PySem.W.kdv_tup [])).push (PySem.HandSPX.excO C hp.objs.size)).get? b = some o := fun b o e => Heap.get?_push_of_some _ (Heap.get?_push_of_some _ e)
  have hget : ((hp.push (PySem.W.kdv_tup [])).push (PySem.HandSPX.excO C hp.objs.size)).get? (hp.objs.size + 1) = some (PySem.HandSPX.excO C hp.objs.size) := by heap_get
  refine wpAny_call (PySem.HandSPX.call_own F.excBase_ValueError (fun Y => PySem.HandSPX.refsVE_contains Y bm hbm) (X _ _ hC) (PySem.W.looks_findIn X Z.iC) (fun self => PySem.W.bind_fn X self Z.tI) (Nat.zero_le _) ?_)
  refine init_call0 (s := ⟨(hp.push (PySem.W.kdv_tup [])).push (PySem.HandSPX.excO C hp.objs.size), g, d, tk, os⟩) Z (X.keeps kk) (lim.keeps kk) (glob.keeps kk) (blt.keeps kk) hmb (room.make C [] []).depth S hev hbody (hbind _ _) hget fun h' t1 tk' k e1 => ?_
  refine ⟨rfl, hq h' t1 tk' (fun b o z => k b o (fun y => ?_) (kk b o z)) e1⟩
  have := Heap.lt_size z
  rw [y] at this
  exact absurd this (show ¬ hp.objs.size + 1 < hp.objs.size by omega)
theorem xk1_mk {nm sf par f msg : Str} {j : Nat} {p0 p1 p2 p3 p4 p5 q1 q2 q3 q4 : Pos} (mgC : mg nm = some (.ref C)) (Z : XIn P K mg C fI cc cda q fd) (S : XSc fd sf) (hev : SupEv fd fI msg j p0 p1 p2 p3 p4)
    (hpar : fd.scope.names.lookup par = some .local) (hne : par ≠ sf) (hno : findIn K (.ref C) f = some none) (hd1 : (sf == ("__debug__" : Str)) = false) (hd2 : (par == ("__debug__" : Str)) = false)
    (hsw : ∀ L, swapsWith (.Name par q4) (some (.Attribute (.Name sf q1) f q2)) q3.line (callEnv fd L fI) = pure false)
    (hbody : fd.body = .stmts [.Expr (.Call (.Attribute (.Call (.Name "super" p0) [] [] p1) "__init__" p2) [.Constant (.str msg) j p3] [] p4) p5, .Assign [.Attribute (.Name sf q1) f q2] (.Name par q4) q3])
    (hbind : ∀ s e u, BindsTo s fd ⟨[e, u], []⟩ [(sf, e), (par, u)]) : XK1 P w K mg nm f C := by
  refine ⟨mgC, Z.T, fun A s u Q E mb X hK lim glob blt hmb room hq => ?_⟩
  obtain ⟨nm', qq, N, bs, bm, sn, sub, ab, col, dd, k0', k1, k2, k3, k5, hC, hbm⟩ := Z.T.cls
  obtain ⟨hp, g, d, tk, os⟩ := s
  have kk : ∀ b o, hp.get? b = some o → ((hp.push (PySem.W.kdv_tup [u])).push (PySem.HandSPX.excO C hp.objs.size)).get? b = some o := fun b o e => Heap.get?_push_of_some _ (Heap.get?_push_of_some _ e)
  have hget : ((hp.push (PySem.W.kdv_tup [u])).push (PySem.HandSPX.excO C hp.objs.size)).get? (hp.objs.size + 1) = some (PySem.HandSPX.excO C hp.objs.size) := by heap_get
  refine wpAny_call (PySem.HandSPX.call_own F.excBase_ValueError (fun Y => PySem.HandSPX.refsVE_contains Y bm hbm) (X _ _ hC) (PySem.W.looks_findIn X Z.iC) (fun self => PySem.W.bind_fn X self Z.tI) (by show 1 ≤ sizeLine; rw [sizeLine_eq]; omega) ?_)
  refine init_call1 (s := ⟨(hp.push (PySem.W.kdv_tup [u])).push (PySem.HandSPX.excO C hp.objs.size), g, d, tk, os⟩) Z (X.keeps kk) (lim.keeps kk) (glob.keeps kk) (blt.keeps kk) hmb (room.make C [u] []).depth S hev hpar hne hno hd1 hd2 hsw hbody (fun o => hK o (Nat.le_succ _)) (hbind _ _ _) hget fun h' t1 tk' dx k dn dne e1 n1 => ?_
  refine ⟨rfl, hq h' t1 tk' dx (fun b o z => k b o (fun y => ?_) (kk b o z)) ?_ dne e1 n1⟩
  · have := Heap.lt_size z
    rw [y] at this
    exact absurd this (show ¬ hp.objs.size + 1 < hp.objs.size by omega)
  · have dn' : ((hp.push (PySem.W.kdv_tup [u])).push (PySem.HandSPX.excO C hp.objs.size)).objs.size ≤ dx := dn
    rw [Heap.size_push, Heap.size_push] at dn'
    show hp.objs.size ≤ dx
    omega
end
end DL


namespace DL
open PySem PySem.Spec PySem.Calls PyProof.Rows L2

/-! ### raise of an own class -/
section
variable {X : Cx} {nm f : Str} {C : Addr} {e : Expr} {p pos : Pos}
theorem pmk0 (G : XK0 X.prog X.w X.K X.mg nm C) (hr : Room 1 X.A) (hg : Gl X nm) (hdb : (nm == ("__debug__" : Str)) = false := by decide) : PMk X (.Call (.Name nm p) [] [] pos) (fun _ H Q => Q (.ref C) none H) := by
  intro pins s σ H Q I h
  refine wpAny_Call_Name_kw (ld_glob I hg G.mgC ?_ hdb)
  refine PySem.W.callWith_K0 I.kIn G.T.kC ?_
  obtain ⟨mb, bN, hb⟩ := I.ok.mod.blt
  have ks : ∀ b o, X.base.get? b = some o → s.heap.get? b = some o := fun b o z => (I.bs b o z).1
  refine G.run X.A s _ _ mb I.kIn (fun o _ z => ?_) (I.ok.mod.nolimit.keeps ks) (I.ok.mod.glob.keeps ks) (bN.keeps ks) (hb _ (by decide)) hr fun h' t1 tk k e1 => ?_
  · exact absurd (Heap.lt_size (I.kIn _ _ z)) (Nat.not_lt_of_le (Nat.le_succ _))
  · have hn : s.heap.get? (s.heap.objs.size + 1) = none := by
      cases z : s.heap.get? (s.heap.objs.size + 1) with
      | none => rfl
      | some o => exact absurd (Heap.lt_size z) (Nat.not_lt_of_le (Nat.le_succ _))
    exact ⟨_, _, _, s, H, .ref C, none, rfl, I, k, hn, e1, ⟨rfl, rfl⟩, rfl, rfl, I.hok.fresh (Nat.le_succ _), rfl, I.bare, raises_own G.T.exC G.T.tyC, h⟩
theorem pmk1 (G : XK1 X.prog X.w X.K X.mg nm f C) (hr : Room 1 X.A) (hg : Gl X nm) (hdb : (nm == ("__debug__" : Str)) = false := by decide)
    (hst : starEach [e] X.env = (false, eval e X.env) :: starEach [] X.env := by rfl) :
    PMk X (.Call (.Name nm p) [e] [] pos) (fun σ H Q => SE X e σ H fun v H1 => ∀ dd, H1 dd = none → Q (.ref C) (some dd) (upd H1 dd (.xd [(f, v)]))) := by
  intro pins s σ H Q I h
  refine wpAny_Call_Name_kw (ld_glob I hg G.mgC ?_ hdb)
  have ha : PA X [e] (tCons (SE X e) tNil) := pa_cons pe_SE pa_nil hst
  have h0 : tCons (SE X e) tNil σ H fun vs H1 => ∃ v, vs = [v] ∧ ∀ dd, H1 dd = none → Q (.ref C) (some dd) (upd H1 dd (.xd [(f, v)])) := by
    exact SE.mono h fun v H1 q => ⟨v, rfl, q⟩
  refine PySem.W.callWith_K (h₀ := X.base) I.ok.mod.kin G.T.kC (thn (ha.run pos pins s σ H _ I h0) fun us s1 hh => ?_) hst rfl
  obtain ⟨vs, H1, I1, r1, v, ev, q⟩ := hh
  subst ev
  refine ⟨I1.kIn, ?_⟩
  cases r1 with
  | cons ru rn =>
    rename_i u us'
    cases rn
    show wpAny _ _ (call (.ref C) [u]) _ _ _
    obtain ⟨mb, bN, hb⟩ := I1.ok.mod.blt
    have ks : ∀ b o, X.base.get? b = some o → s1.heap.get? b = some o := fun b o z => (I1.bs b o z).1
    refine G.run X.A s1 u _ _ mb I1.kIn (fun o _ z => ?_) (I1.ok.mod.nolimit.keeps ks) (I1.ok.mod.glob.keeps ks) (bN.keeps ks) (hb _ (by decide)) hr fun h' t1 tk dx k dn dne e1 n1 => ?_
    · exact absurd (Heap.lt_size (I1.kIn _ _ z)) (Nat.not_lt_of_le (Nat.le_succ _))
    · obtain ⟨G', g1, g2⟩ := restrict h' fun b => decide (b ≠ s1.heap.objs.size + 1)
      have gk : ∀ b, b ≠ s1.heap.objs.size + 1 → G'.get? b = h'.get? b := fun b hb => g1 b (decide_eq_true hb)
      have ge : G'.get? (s1.heap.objs.size + 1) = none := g2 _ (by simp)
      have kG : ∀ b o, s1.heap.get? b = some o → G'.get? b = some o := fun b o z => by
        rw [gk b (fun y => absurd (Heap.lt_size (y ▸ z)) (Nat.not_lt_of_le (Nat.le_succ _)))]
        exact k b o z
      have nsG : G'.Ns1 dx (fun y => if y = f then some u else none) := by
        obtain ⟨o, es, ep, z, r⟩ := n1
        exact ⟨o, es, ep, by rw [gk dx dne]; exact z, r⟩
      have J : Inv X pins σ (upd H1 dx (.xd [(f, v)])) { s1 with heap := G', toks := tk } := I1.laid kG dn ⟨_, nsG, fun y => by
        show RelO (List.lookup y [(f, v)]) (if y = f then some u else none)
        by_cases hy : y = f
        · subst hy
          rw [if_pos rfl]
          simp [List.lookup_cons]
          exact ru
        · rw [if_neg hy, List.lookup_cons, show (y == f) = false from beq_false_of_ne hy]
          trivial⟩
      refine ⟨_, _, _, { s1 with heap := G', toks := tk }, _, .ref C, some dx, rfl, J, fun b o z => ?_, ge, e1, ⟨rfl, rfl⟩, rfl, rfl, ?_, rfl, I1.bare, raises_own G.T.exC G.T.tyC, q dx (I1.hok.fresh dn)⟩
      · by_cases hb : b = s1.heap.objs.size + 1
        · have z' : G'.get? b = some o := z
          rw [hb, ge] at z'
          cases z'
        · exact (gk b hb).symm.trans z
      · rw [upd_ne (Ne.symm dne)]
        exact I1.hok.fresh (Nat.le_succ _)
end
section
variable {X : CD} {nm f : Str} {C : Addr} {e : Expr} {p pos pos2 : Pos} {ρ : Rn} {m : Led} {E : EndsD}
theorem s_raise0 (G : XK0 X.prog X.w X.K X.mg nm C) (hr : Room 1 X.A) (h : X.xq nm none ρ m) (hc : X.calm = true := by rfl) (hg : Gl X nm := by rfl) (hdb : (nm == ("__debug__" : Str)) = false := by decide) : S1 X (.Raise (some (.Call (.Name nm p) [] [] pos)) none pos2) ρ m E := .mk fun F σ H en at_ =>
  SS.of (ps_raise hc at_.tk (pmk0 G hr hg hdb)) ⟨nm, C, none, ρ, F, m, G.mgC, rfl, Step.refl at_.toAt, en, rfl, h⟩
theorem s_raise1 (G : XK1 X.prog X.w X.K X.mg nm f C) (hr : Room 1 X.A) (h : EX X e ρ m fun d m1 => X.xq nm (some (f, d)) ρ m1) (hc : X.calm = true := by rfl) (hg : Gl X nm := by rfl) (hdb : (nm == ("__debug__" : Str)) = false := by decide)
    (hst : starEach [e] X.env = (false, eval e X.env) :: starEach [] X.env := by rfl) : S1 X (.Raise (some (.Call (.Name nm p) [e] [] pos)) none pos2) ρ m E := .mk fun F σ H en at_ =>
  SS.of (ps_raise hc at_.tk (pmk1 G hr hg hdb hst)) (h.go en at_ fun v d F1 m1 H1 s1 en1 q r => fun dd hdd => by
    have nw := Step.new (o := .xd [(f, v)]) s1.at2.toAt hdd
    exact ⟨nm, C, some (f, d), ρ, _, m1, G.mgC, rfl, s1.trans nw, en1.mono nw.ex, ⟨dd, v, rfl, upd_same, q.mono nw.ex⟩, r⟩)
end

/-! ### defs that may raise -/
abbrev SpX := List D → Led → (D → Led → Prop) → (Str → Option (Str × D) → Led → Prop) → Prop
def liftX (K : Frag) (mg : Str → Option Value) (sp : SpX) : Sp := fun vs H Q E => ∃ F m ds R XR, Dens K F vs ds ∧ At K F m H ∧ sp ds m R XR ∧ (∀ d m2 v F2 H2, R d m2 → Step K F m H F2 m2 H2 → Den K F2 v d → Q v H2) ∧
  ∀ nm C fd F2 m2 H2 d, XR nm fd m2 → mg nm = some (.ref C) → Step K F m H F2 m2 H2 → FdD K F2 d fd → E (.ref C) d H2
structure KnowsX (P : Program) (w : World) (K : Frag) (mg : Str → Option Value) (base : Heap) (k : Nat) (x : Str) (n : Nat) (dd : List D) (sp : SpX) : Prop where
  fn : ∃ f fd ps ds dvs, FnOk P w K mg base (L2.CX P w) k f fd ps (liftX K mg sp) ∧ mg x = some (.ref f) ∧ PySem.W.keepIn K (.ref f) = true ∧ Binds K fd ps ds ∧ Vals dvs ds ∧ (∀ F, Dens K F dvs dd) ∧ ps.length = n
theorem KnowsX.mono {P : Program} {w : World} {K : Frag} {mg : Str → Option Value} {base : Heap} {k j : Nat} {x : Str} {n : Nat} {dd : List D} {sp : SpX} (G : KnowsX P w K mg base k x n dd sp) (h : k ≤ j) : KnowsX P w K mg base j x n dd sp := by
  obtain ⟨f, fd, ps, ds, dvs, FO, r⟩ := G.fn
  exact ⟨f, fd, ps, ds, dvs, FO.mono h, r⟩
section
variable {X : CD} {e : Expr} {es : List Expr} {ρ : Rn} {m : Led} {R : D → Led → Prop} {x : Str} {p pos : Pos} {k n : Nat} {dd : List D} {sp : SpX}
end
section
variable {P : Program} {w : World} {K : Frag} {mg : Str → Option Value} {base : Heap}
end

/-! ### try .. except X [as n] -/
/-- the class x of the program is caught by a clause that names c -/
def XM (K : Frag) (mg : Str → Option Value) (x c : Str) (b : Bool) : Prop := ∃ C Cc, mg x = some (.ref C) ∧ mg c = some (.ref Cc) ∧ PySem.W.exmOne K (.ref C) (.ref Cc) = some b
theorem Env.cast {X Y : Cx} {F : Hp} {σ : L2.St} {ρ : Rn} (e : DL.Env X F σ ρ) (h1 : Y.N = X.N := by rfl) (h2 : Y.K = X.K := by rfl) : DL.Env Y F σ ρ := ⟨by rw [h1]; exact e.nd, by rw [h1]; exact e.nm, by rw [h2]; exact e.ev⟩
section
variable {X Y : CD} {F H : Hp} {m : Led} {σ : L2.St} {E : EndsD}
theorem PN.cast {R : Rn → Led → Prop} {H2 : Hp} (h : PN X F m H R σ H2) (h1 : Y.N = X.N := by rfl) (h2 : Y.K = X.K := by rfl) : PN Y F m H R σ H2 := by
  obtain ⟨ρ2, F2, m2, s, e, r⟩ := h
  exact ⟨ρ2, F2, m2, by rw [h2]; exact s, e.cast h1 h2, r⟩
theorem SSs.cast {Z : Cx} {sts : List Stmt} {H2 : Hp} (h : SSs Z sts (ED X F m H E) σ H2) (h1 : Y.N = X.N := by rfl) (h2 : Y.K = X.K := by rfl) : SSs Z sts (ED Y F m H E) σ H2 :=
  h.mono (fun _ _ q => q.cast h1 h2) (fun _ _ q => by show PQ Y.K F m H E.rt _ _; rw [h2]; exact q) (fun _ _ q => q.cast h1 h2) fun _ _ q => q.cast h1 h2
end
section
variable {X : CD} {x n : Str} {i : Nat} {body sts : List Stmt} {b₀ : Stmt} {np pos pos' : Pos} {ρ : Rn} {m : Led} {E : EndsD}
abbrev CD.tr (X : CD) (pn : List (Addr × Obj)) (xe : Value → Shared → Prop) (q : XQ) : CD := ⟨X.toCx.tr pn xe, q⟩
abbrev CD.suite (X : CD) (a : Addr) (pn : List (Addr × Obj)) : CD := ⟨X.toCx.suite a pn, fun _ _ _ _ => False⟩
/-- what is wished of an exception in the body of: try .. except x -/
def qOnly (X : CD) (x : Str) (sts : List Stmt) (E : EndsD) : XQ := fun nm fd ρ2 m2 => ∃ b, XM X.K X.mg nm x b ∧ (b = true → ∀ a oe pn, SX (X.suite a ((a, oe) :: pn)) sts ρ2 m2 E) ∧ (b = false → X.xq nm fd ρ2 m2)
def tBody (X : CD) (body : List Stmt) (W : L2.WX) : TS := fun D σ H => ∀ pn xe, Takes (X.toCx.tr pn xe) W → PassesOwn (model X.prog X.w) X.A X.env xe → SSs (X.toCx.tr pn xe) body D σ H
/-- the exception as a value of the clause's name -/
def ExD (a : Addr) : Option (Str × D) → Addr → D
  | none, _ => .ref a
  | some (f, x), dd => .exc a dd f x
/-- an except suite with the exception named: what is known of its object -/
def SuOk (K : Frag) (mg : Str → Option Value) (nm : Str) (fd : Option (Str × D)) (dd : Addr) (oe : Obj) : Prop := ∃ C, mg nm = some (.ref C) ∧ Zc (.ref C) (fd.map fun _ => dd) oe ∧ ∃ vs, oe.data = .fields vs
inductive DelAt : Rn → Nat → Str → Rn → Prop
  | here {x : Str} {o : Option D} {r : Rn} : DelAt ((x, o) :: r) 0 x ((x, none) :: r)
  | there {x : Str} {r r' : Rn} {q : Str × Option D} {i : Nat} : DelAt r i x r' → DelAt (q :: r) (i + 1) x (q :: r')
/-- what is wished of an exception in the body of: try .. except x as n -/
def qAs (X : CD) (x n : Str) (i : Nat) (sts : List Stmt) (E : EndsD) : XQ := fun nm fd ρ2 m2 => ∃ b, XM X.K X.mg nm x b ∧ (b = true → ∀ a dd oe pn, SuOk X.K X.mg nm fd dd oe → ∃ ρ3, SetAt ρ2 i n (ExD a fd dd) ρ3 ∧
    SX (X.suite a ((a, oe) :: pn)) sts ρ3 m2 { nx := fun ρ4 m4 => ∃ ρ5, DelAt ρ4 i n ρ5 ∧ E.nx ρ5 m4, rt := E.rt, bk := fun ρ4 m4 => ∃ ρ5, DelAt ρ4 i n ρ5 ∧ E.bk ρ5 m4, ct := fun ρ4 m4 => ∃ ρ5, DelAt ρ4 i n ρ5 ∧ E.ct ρ5 m4 }) ∧ (b = false → X.xq nm fd ρ2 m2)
theorem DelAt.eq : ∀ {ρ ρ' : Rn} {i : Nat} {x : Str}, DelAt ρ i x ρ' → ρ' = ρ.set i (x, none) ∧ (ρ.map (·.1))[i]? = some x
  | _, _, _, _, .here => ⟨rfl, rfl⟩
  | _, _, _, _, .there h => by
    obtain ⟨h1, h2⟩ := h.eq
    exact ⟨by rw [List.set_cons_succ, h1], by rw [List.map_cons, List.getElem?_cons_succ]; exact h2⟩
end
end DL


namespace DL
open PySem PySem.Spec PySem.Calls PyProof.Rows L2

section
variable {P : Program} {w : World} {K : Frag} {mg : Str → Option Value} {base : Heap}
/-- a def by its written form, defaults and all -/
abbrev FnD (K : Frag) (x qual : Str) (st : Stmt) (dvs : List V) (f : Addr) (fd : FuncData) : Prop := FunD K x qual (defArgs st) (defBody st) (defScope st) dvs [] f fd
theorem fnD_mk {x qual : Str} {st : Stmt} {f : Addr} {oc : Value} {od an : Option Addr} {osl : Array (Option Value)} {kV doc pm cdv ct : Value} (l : K.lookup f = some ⟨oc, od, .func (PySem.W.fnOf x qual (defArgs st) (defBody st) (defScope st) .none kV doc pm an cdv ct), osl⟩)
    (c : PySem.W.codeIn K cdv qual = true) (k : PySem.W.keepIn K (.ref f) = true) : FnD K x qual st [] f (PySem.W.fnOf x qual (defArgs st) (defBody st) (defScope st) .none kV doc pm an cdv ct) := ⟨⟨oc, od, .none, kV, doc, pm, an, cdv, ct, osl, rfl, l, c, .inl ⟨rfl, rfl⟩, .inl rfl⟩, k⟩
theorem fnD_mk1 {x qual : Str} {st : Stmt} {f T : Addr} {oc : Value} {od an : Option Addr} {osl : Array (Option Value)} {kV doc pm cdv ct : Value} {v : V} {u : Value} {o : Obj} {n : Nat} (l : K.lookup f = some ⟨oc, od, .func (PySem.W.fnOf x qual (defArgs st) (defBody st) (defScope st) (.ref T) kV doc pm an cdv ct), osl⟩)
    (c : PySem.W.codeIn K cdv qual = true) (k : PySem.W.keepIn K (.ref f) = true) (lT : K.lookup T = some o) (oT : o.data = .seq [u].toArray n) (r : RelV v u) :
    FnD K x qual st [v] f (PySem.W.fnOf x qual (defArgs st) (defBody st) (defScope st) (.ref T) kV doc pm an cdv ct) := ⟨⟨oc, od, .ref T, kV, doc, pm, an, cdv, ct, osl, rfl, l, c, .inr ⟨by simp, T, o, [u], n, rfl, lT, oT, .cons r .nil⟩, .inl rfl⟩, k⟩
/-- THE RULE for a def that may raise, with defaults -/
theorem def_okD {x qual : Str} {st : Stmt} {f : Addr} {fd : FuncData} {dvs : List V} {N ps : List Str} {k : Nat} {sp : SpX} (F : FnD K x qual st dvs f fd) (S : FnScope N ps (defScope st)) (len : ∀ ds m R XR, sp ds m R XR → ds.length = ps.length)
    (body : ∀ (cdv : Value) (A : Around) (outer : List PySem.Env) (s : Shared) (H : Hp) (E : XK) (ds : List D) (m : Led) (R : D → Led → Prop) (XR : Str → Option (Str × D) → Led → Prop), Room k (A.deeper (envOfC qual (defScope st) s.heap.objs.size f cdv)) → sp ds m R XR →
      SX ⟨cxOf (L2.CX P w) P w K mg base N qual (defScope st) f cdv A outer s H E, fun nm fd _ m2 => ∃ m3, m3.Sublist m2 ∧ XR nm fd m3⟩ (defBody st) (startR N ds) m { nx := fun _ m2 => ∃ m3, m3.Sublist m2 ∧ R .non m3, rt := fun d m2 => ∃ m3, m3.Sublist m2 ∧ R d m3 }) : FnOk P w K mg base (L2.CX P w) (k + 1) f fd ps (liftX K mg sp) := by
  refine F.ok S (fun vs H Q E ⟨F0, m, ds, R, XR, q, _, h, _⟩ => by rw [q.length]; exact len ds m R XR h) (fun cdv A outer s H vs Q E hr ⟨F0, m, ds, R, XR, q, at_, h, k, kx⟩ => ?_)
  refine ⟨_, pss_SS, ?_⟩
  have hb := body cdv A outer s H E ds m R XR hr h
  have hl : vs.length ≤ N.length := by
    rw [q.length, len ds m R XR h]
    have := congrArg List.length S.pre
    rw [List.length_take] at this
    omega
  have en : DL.Env (cxOf (L2.CX P w) P w K mg base N qual (defScope st) f cdv A outer s H E) F0 (start N vs) (startR N ds) := ⟨S.nd, startR_names N ds, startR_envs N vs ds hl q⟩
  have ax : AtX ⟨cxOf (L2.CX P w) P w K mg base N qual (defScope st) f cdv A outer s H E, fun nm fd _ m2 => ∃ m3, m3.Sublist m2 ∧ XR nm fd m3⟩ F0 m H := by
    refine ⟨at_, ?_, passes_of rfl⟩
    refine (takes_of (E := E) rfl rfl rfl rfl).imp fun cls d σ H2 ⟨nm, C, fd', ρ2, F2, m2, h1, h2, h3, h4, h5, m3, sl, xr⟩ => ?_
    subst h2
    exact kx nm C fd' F2 m3 H2 d xr h1 (h3.trans (Step.drop h3.at2 sl)) h5
  refine (hb.run F0 (start N vs) H en ax).mono (fun σ2 H2 ⟨ρ2, F2, m2, s2, en2, m3, sl, r⟩ => ?_) (fun v H2 ⟨d, F2, m2, s2, q2, m3, sl, r⟩ => ?_) (fun _ _ ⟨_, _, _, _, _, z⟩ => z) (fun _ _ ⟨_, _, _, _, _, z⟩ => z)
  · exact k .non m3 .non F2 H2 r (s2.trans (Step.drop s2.at2 sl)) .non
  · exact k d m3 v F2 H2 r (s2.trans (Step.drop s2.at2 sl)) q2
end

/-! ### a call with keywords alone -/
structure KnowsK (P : Program) (w : World) (K : Frag) (mg : Str → Option Value) (base : Heap) (k : Nat) (x : Str) (ks : List Str) (gD : List D → List D) (sp : SpX) : Prop where
  fn : ∃ f fd ps g gV, FnOk P w K mg base (L2.CX P w) k f fd ps (liftX K mg sp) ∧ mg x = some (.ref f) ∧ PySem.W.keepIn K (.ref f) = true ∧ KBn K fd ps 0 ks g gV ∧ ∀ F zs ds, Dens K F zs ds → zs.length = ks.length → Dens K F (gV [] zs) (gD ds)
theorem KnowsK.mono {P : Program} {w : World} {K : Frag} {mg : Str → Option Value} {base : Heap} {k j : Nat} {x : Str} {ks : List Str} {gD : List D → List D} {sp : SpX} (G : KnowsK P w K mg base k x ks gD sp) (h : k ≤ j) : KnowsK P w K mg base j x ks gD sp := by
  obtain ⟨f, fd, ps, g, gV, FO, r⟩ := G.fn
  exact ⟨f, fd, ps, g, gV, FO.mono h, r⟩

def SK (X : Cx) (kws : List Keyword) (σ : L2.St) (H : Hp) (Q : List V → Hp → Prop) : Prop := ∀ pos pins s, Inv X pins σ H s → wpAny (model X.prog X.w) X.A (evalAll ((backToKw pos (keywordEach kws X.env)).map (·.2))) (AP X pins σ Q) X.xe s
theorem SK.of {X : Cx} {kws : List Keyword} {σ : L2.St} {H : Hp} {t : TA} {Q : List V → Hp → Prop} (h : PK X kws t) (q : t σ H Q) : SK X kws σ H Q := fun pos pins s I => h.run pos pins s σ H Q I q
theorem SK.mono {X : Cx} {kws : List Keyword} {σ : L2.St} {H : Hp} {Q Q' : List V → Hp → Prop} (h : SK X kws σ H Q) (q : ∀ v H', Q v H' → Q' v H') : SK X kws σ H Q' := fun pos pins s I => thn (h pos pins s I) fun u s' ⟨v, H', I', r, k⟩ => ⟨v, H', I', r, q v H' k⟩
structure KX (X : CD) (kws : List Keyword) (ρ : Rn) (m : Led) (R : List D → Led → Prop) : Prop where
  run : ∀ F σ H, Env X F σ ρ → AtX X F m H → SK X kws σ H (PL X.K F m H R)
section
variable {X : CD} {e : Expr} {kws : List Keyword} {ks : List Str} {nm : Option Str} {gD : List D → List D} {ρ : Rn} {m : Led} {R : D → Led → Prop} {x : Str} {p pos kpos : Pos} {k : Nat} {sp : SpX}
end

/-! ### a def called within an except suite -/
structure KnowsP (P : Program) (w : World) (K : Frag) (mg : Str → Option Value) (base : Heap) (k : Nat) (x : Str) (n : Nat) (sp : SpD) : Prop where
  fn : ∃ (f : Addr) (fd : FuncData) (ps : List Str), (∀ (A : Around) (outer : List PySem.Env) (s : Shared) (H : Hp) (args : Args) (us : List Value) (vs : List V) (Q : VK) (E : XK) (p : Addr × Obj), L2H.RoomH k A → L2H.PinOk outer H s p → Env0 P w K mg base A outer s H → BindsTo s fd args (ps.zip us) → Vals vs us → lift K sp vs H Q E →
      codeAny (model P w) A (.call (.ref f) args) (CR CX0 outer P w H s Q E) s) ∧ mg x = some (.ref f) ∧ PySem.W.keepIn K (.ref f) = true ∧ Binds K fd ps [] ∧ ps.length = n ∧ ∀ ds m R, sp ds m R → ds.length = n
section
variable {P : Program} {w : World} {K : Frag} {mg : Str → Option Value} {base : Heap}
end
section
variable {X : CD} {e : Expr} {es : List Expr} {ρ : Rn} {m : Led} {R : D → Led → Prop} {x : Str} {p pos : Pos} {k n : Nat} {sp : SpD} {a : Addr} {oe : Obj} {pn : List (Addr × Obj)}
end
end DL


namespace DL
open PySem PySem.Spec PyProof.Rows L2 RZ

/-! ### comprehensions over pairs -/
section
variable {X : CD} {elt it : Expr} {scope : Scope} {ρ : Rn} {m : Led} {R : D → Led → Prop} {pos p0 p1 p2 : Pos} {y z : Str} {j k n0 : Nat}
theorem Den.pair_inv {K : Frag} {F : Hp} {v : V} {d1 d2 : D} (q : Den K F v (.tup [d1, d2])) : ∃ a v1 v2, v = .ref a ∧ SqT K F a [v1, v2] ∧ Den K F v1 d1 ∧ Den K F v2 d2 := by
  cases q with
  | tup h hs =>
    cases hs with
    | cons q1 r =>
      cases r with
      | cons q2 r2 =>
        cases r2
        exact ⟨_, _, _, rfl, h, q1, q2⟩
theorem wipe2 {F : Hp} {σ : L2.St} {ρ1 ρ2 : Rn} {d1 d2 : D} {v1 v2 : V} (en : Env X F σ ρ) (h1 : SetAt ρ j y d1 ρ1) (q1 : Den X.K F v1 d1) (h2 : SetAt ρ1 k z d2 ρ2) (q2 : Den X.K F v2 d2) : Env X F (((L2.wipe σ [j, k]).set j (some v1)).set k (some v2)) ρ2 := by
  have e : ((L2.wipe σ [j, k]).set j (some v1)).set k (some v2) = (σ.set j (some v1)).set k (some v2) := by
    show ((((σ.set k none).set j none).set j (some v1)).set k (some v2)) = _
    rw [List.set_set]
    by_cases hjk : k = j
    · subst hjk
      rw [List.set_set, List.set_set, List.set_set]
    · rw [List.set_comm _ _ hjk, List.set_set]
  rw [e]
  exact (en.set h1 q1).set h2 q2
def CompP (X : CD) (scope : Scope) (ifs : List Expr) (elt : Expr) (y : Str) (j : Nat) (z : Str) (k : Nat) (ρ : Rn) (R : List D → Led → Prop) (ds : List D) (m1 : Led) : Prop := ∃ I : Nat → List D → Led → Prop, I 0 [] m1 ∧
  (∀ i d acc m', ds[i]? = some d → I i acc m' → ∃ d1 d2 ρ1 ρ2, d = .tup [d1, d2] ∧ SetAt ρ j y d1 ρ1 ∧ SetAt ρ1 k z d2 ρ2 ∧ ∀ (s : Shared) (H0 : Hp) (C : Addr) (cl : List (Str × Addr)) (fp : List Addr),
    match ifs with
    | [] => EX (X.blk s H0 scope (compEnvC scope cl C X.env) fp) elt ρ2 m' fun z m3 => acc.length < 100000 ∧ I (i + 1) (acc ++ [z]) m3
    | [c] => TX (X.blk s H0 scope (compEnvC scope cl C X.env) fp) c ρ2 m' fun k m2 => (k = true → ∀ (s : Shared) (H0 : Hp) (C : Addr) (cl : List (Str × Addr)) (fp : List Addr), EX (X.blk s H0 scope (compEnvC scope cl C X.env) fp) elt ρ2 m2 fun z m3 => acc.length < 100000 ∧ I (i + 1) (acc ++ [z]) m3) ∧ (k = false → I (i + 1) acc m2)
    | _ => False) ∧ ∀ acc m', I ds.length acc m' → R acc m'
/-- the reading of a comprehension over pairs -/
theorem lc_readP {ifs : List Expr} {F σ H} (hl1 : ifs.length ≤ 1) (en : Env X F σ ρ) (at_ : AtX X F m H) (R : List D → Led → Prop) (QQ : VK) (h : IX X (.Tuple [.Name y p1, .Name z p2] n0 p0) it ρ m (CompP X scope ifs elt y j z k ρ R))
    (fin : ∀ Dl acc vs F1 m1 H1 F' m' H', Step X.K F m H F1 m1 H1 → H1 Dl = none → Step X.K F1 m1 H1 F' m' H' → F' Dl = none → Dl ∉ keys m' → H' Dl = some (.lst vs) → Dens X.K F' vs acc → R acc m' → QQ (.ref Dl) H') : tLc (SI X (.Tuple [.Name y p1, .Name z p2] n0 p0) it) (gTup X.K 2 (gCons (gName j) (gCons (gName k) gNil))) (STs X scope ifs) (SEb X scope elt) [j, k] σ H QQ := by
  refine (h.run F σ H en at_).mono fun J H1 ⟨ds, F1, m1, st, ⟨I, i0, turn, done⟩, w⟩ => fun Dl hDl => ?_
  have hF1 : F1 Dl = none := st.at2.sub.free hDl
  have hk1 : Dl ∉ keys m1 := st.at2.notkey hDl
  refine lc_it w (fun i H' => ∃ acc vs F' m', Step X.K F1 m1 H1 F' m' H' ∧ H' Dl = some (.lst vs) ∧ Dens X.K F' vs acc ∧ I i acc m' ∧ F' Dl = none ∧ Dl ∉ keys m') ⟨[], [], F1, m1, (Step.refl st.at2).poke hDl hF1 hk1, upd_same, .nil, i0, hF1, hk1⟩
    (fun i H' _ ⟨acc, vs, F', m', s', _⟩ => s'.ex.trans s'.at2.sub) (fun i x H' H'' hi ⟨acc, vs, F', m', s', hl, hs, hI, hF', hk'⟩ yy => ?_) (fun H' ⟨acc, vs, F', m', s', hl, hs, hI, hF', hk'⟩ => ?_)
  · obtain ⟨F3, d, hd, s3, q⟩ := yy F' m' s'.ex s'.at2
    obtain ⟨d1, d2, ρ1, ρ2, rfl, hset, hset2, turn⟩ := turn i d acc m' hd hI
    obtain ⟨a, v1, v2, rfl, hq0, q1, q2⟩ := q.pair_inv
    obtain ⟨a1, a2, a3⟩ := s3.stay hF' hk' hl
    have en2 := wipe2 (en.mono (st.ex.trans (s'.ex.trans s3.ex))) hset q1 hset2 q2
    have fin : ∀ {F4 m4 H4 v zz}, Step X.K F3 m' H'' F4 m4 H4 → Den X.K F4 v zz → acc.length < 100000 ∧ I (i + 1) (acc ++ [zz]) m4 → ∃ acc, H4 Dl = some (.lst acc) ∧ acc.length < sizeLine ∧ ∃ acc_1 vs F' m', Step X.K F1 m1 H1 F' m' (upd H4 Dl (.lst (acc ++ [v]))) ∧ upd H4 Dl (.lst (acc ++ [v])) Dl = some (.lst vs) ∧ Dens X.K F' vs acc_1 ∧ I (i + 1) acc_1 m' ∧ F' Dl = none ∧ Dl ∉ keys m' := fun {F4 m4 H4 v zz} s4 q4 hh => by
      obtain ⟨b1, b2, b3⟩ := s4.stay a2 a3 a1
      exact ⟨vs, b1, lenLt (by rw [hs.length]; exact hh.1), acc ++ [zz], vs ++ [v], F4, m4, ((s'.trans s3).trans s4).poke hDl b2 b3, upd_same, (hs.mono (s3.ex.trans s4.ex)).snoc q4, hh.2, b2, b3⟩
    refine ⟨a, [v1, v2], rfl, s3.at2.sub.sqT hq0, rfl, v1, [v2], rfl, v2, [], rfl, rfl, ?_⟩
    refine ⟨by rw [wipe_set (by simp), wipe_set (by simp), wipe_wipe _ _ fun _ q => q], ?_⟩
    match ifs, turn with
    | [], turn =>
      unfold STs
      dsimp only
      rw [if_pos rfl]
      intro s H0 C cl fp
      exact EX.go (turn s H0 C cl fp) en2.blk (.quiet s3.at2) fun v z F4 m4 H4 s4 _ q4 hh => fin s4 q4 hh
    | [c], turn =>
      show ∀ s H0 C cl fp, ST (X.blk s H0 scope (compEnvC scope cl C X.env) fp) c _ H'' _
      intro s H0 C cl fp
      refine TX.go (turn s H0 C cl fp) en2.blk (.quiet s3.at2) fun k F4 m4 H4 s4 _ r => ?_
      cases k with
      | true =>
        rw [if_pos rfl]
        intro s' H0' C' cl' fp'
        exact EX.go (r.1 rfl s' H0' C' cl' fp') (en2.mono s4.ex).blk (.quiet s4.at2.toAt) fun v z F5 m5 H5 s5 _ q5 hh => fin (s4.st.trans s5.st) q5 hh
      | false =>
        rw [if_neg Bool.false_ne_true]
        obtain ⟨b1, b2, b3⟩ := Step.stay s4.st a2 a3 a1
        exact ⟨acc, vs, F4, m4, (s'.trans s3).trans s4, b1, hs.mono (s3.ex.trans s4.ex), r.2 rfl, b2, b3⟩
    | _ :: _ :: _, turn => exact absurd hl1 (by simp)
  · exact fin Dl acc vs F1 m1 H1 F' m' H' st hDl s' hF' hk' hl hs (done acc m' (by simpa using hI))
/-- x = [..] on one line, x a local -/
theorem s_setLcP {ifs : List Expr} {E : EndsD} {x : Str} {i : Nat} {px spos : Pos} (hj : SlotAt ρ j y) (hk0 : SlotAt ρ k z) (hi : SlotAt ρ i x) (h : IX X (.Tuple [.Name y p1, .Name z p2] n0 p0) it ρ m (CompP X scope ifs elt y j z k ρ fun acc m' => ∃ ρ', SetAt ρ i x (.lst acc) ρ' ∧ E.nx ρ' m'))
    (hxl : X.env.scope.names.lookup x = some .local := by rfl) (ha : (scope.names.any fun (n, k) => n == x && (k == .local || k == .cell)) = false := by decide +kernel) (hk : X.env.scope.kind = .function := by rfl) (hln : (px.line == pos.line) = true := by rfl)
    (hl1 : ifs.length ≤ 1 := by decide) (hok : blkC X.N X.env.scope scope [(y, j), (z, k)] = true := by kernel_rfl)
    (hx : ∀ cl C, Loc (compEnvC scope cl C X.env).scope y := by intro _ _; first | exact Or.inl rfl | exact Or.inr rfl) (hx2 : ∀ cl C, Loc (compEnvC scope cl C X.env).scope z := by intro _ _; first | exact Or.inl rfl | exact Or.inr rfl) (hf : ∀ cl C, (scope.names.lookup y == some .cell) = true ∨ (compEnvC scope cl C X.env).scope.names.lookup y = some .local := by intro _ _; first | exact .inl rfl | exact .inr rfl) (hf2 : ∀ cl C, (scope.names.lookup z == some .cell) = true ∨ (compEnvC scope cl C X.env).scope.names.lookup z = some .local := by intro _ _; first | exact .inl rfl | exact .inr rfl)
    (hc : X.calm = true := by rfl) (hs : ∀ x, foldedSetIterable it X.env x = pure x := by intro _; rfl) : S1 X (.Assign [.Name x px] (.ListComp elt [⟨.Tuple [.Name y p1, .Name z p2] n0 p0, it, ifs, 0⟩] scope pos) spos) ρ m E := .mk fun F σ H en at_ =>
  SS.of (ps_setLc (i := i) (own := [(y, j), (z, k)]) hc en.nd (by rw [← en.nm]; exact hi.ix) hxl (sw_true hk hxl hln ha) (pi_SI (it := it)) (blkOk_by hok) (fun s H0 C cl fp => pg_tup (X := X.blk s H0 scope (compEnvC scope cl C X.env) fp) hc (pgs_cons (pg_name (X := X.blk s H0 scope (compEnvC scope cl C X.env) fp) (i := j) en.nd (by show X.N[j]? = some y; rw [← en.nm]; exact hj.ix) (hx cl C) (hf cl C)) (pgs_cons (pg_name (X := X.blk s H0 scope (compEnvC scope cl C X.env) fp) (i := k) en.nd (by show X.N[k]? = some z; rw [← en.nm]; exact hk0.ix) (hx2 cl C) (hf2 cl C)) pgs_nil))) (fun s H0 C cl fp => pts_STs s H0 C cl fp) (fun s H0 C cl fp => pe_SEb s H0 C cl fp) hs)
    (lc_readP hl1 en at_ _ _ h (fun Dl acc vs F1 m1 H1 F' m' H' st hD s' hF hk hl hs ⟨ρ', hset, r⟩ => let ⟨F2, st2, q⟩ := lc_frz (R := fun _ _ => True) st hD s' hF hk hl hs; ⟨ρ', F2, m', st2, (en.mono st2.ex).set hset q, r⟩))
theorem s_setLcPM {ifs : List Expr} {E : EndsD} {x : Str} {i : Nat} {px spos : Pos} (hj : SlotAt ρ j y) (hk0 : SlotAt ρ k z) (hi : SlotAt ρ i x) (h : IX X (.Tuple [.Name y p1, .Name z p2] n0 p0) it ρ m (CompP X scope ifs elt y j z k ρ fun acc m' => ∀ p, ∃ ρ', SetAt ρ i x (.ref p) ρ' ∧ E.nx ρ' (m' ++ [(p, .lst acc)])))
    (hxl : X.env.scope.names.lookup x = some .local := by rfl) (ha : (scope.names.any fun (n, k) => n == x && (k == .local || k == .cell)) = false := by decide +kernel) (hk : X.env.scope.kind = .function := by rfl) (hln : (px.line == pos.line) = true := by rfl)
    (hl1 : ifs.length ≤ 1 := by decide) (hok : blkC X.N X.env.scope scope [(y, j), (z, k)] = true := by kernel_rfl)
    (hx : ∀ cl C, Loc (compEnvC scope cl C X.env).scope y := by intro _ _; first | exact Or.inl rfl | exact Or.inr rfl) (hx2 : ∀ cl C, Loc (compEnvC scope cl C X.env).scope z := by intro _ _; first | exact Or.inl rfl | exact Or.inr rfl) (hf : ∀ cl C, (scope.names.lookup y == some .cell) = true ∨ (compEnvC scope cl C X.env).scope.names.lookup y = some .local := by intro _ _; first | exact .inl rfl | exact .inr rfl) (hf2 : ∀ cl C, (scope.names.lookup z == some .cell) = true ∨ (compEnvC scope cl C X.env).scope.names.lookup z = some .local := by intro _ _; first | exact .inl rfl | exact .inr rfl)
    (hc : X.calm = true := by rfl) (hs : ∀ x, foldedSetIterable it X.env x = pure x := by intro _; rfl) : S1 X (.Assign [.Name x px] (.ListComp elt [⟨.Tuple [.Name y p1, .Name z p2] n0 p0, it, ifs, 0⟩] scope pos) spos) ρ m E := .mk fun F σ H en at_ =>
  SS.of (ps_setLc (i := i) (own := [(y, j), (z, k)]) hc en.nd (by rw [← en.nm]; exact hi.ix) hxl (sw_true hk hxl hln ha) (pi_SI (it := it)) (blkOk_by hok) (fun s H0 C cl fp => pg_tup (X := X.blk s H0 scope (compEnvC scope cl C X.env) fp) hc (pgs_cons (pg_name (X := X.blk s H0 scope (compEnvC scope cl C X.env) fp) (i := j) en.nd (by show X.N[j]? = some y; rw [← en.nm]; exact hj.ix) (hx cl C) (hf cl C)) (pgs_cons (pg_name (X := X.blk s H0 scope (compEnvC scope cl C X.env) fp) (i := k) en.nd (by show X.N[k]? = some z; rw [← en.nm]; exact hk0.ix) (hx2 cl C) (hf2 cl C)) pgs_nil))) (fun s H0 C cl fp => pts_STs s H0 C cl fp) (fun s H0 C cl fp => pe_SEb s H0 C cl fp) hs)
    (lc_readP hl1 en at_ _ _ h (fun Dl acc vs F1 m1 H1 F' m' H' st hD s' hF hk hl hs r => let ⟨ρ', hset, r2⟩ := r Dl; have st2 := st.trans (s'.takeM hD hF hk hl (mo := .lst acc) ⟨vs, rfl, hs⟩); ⟨ρ', F', _, st2, (en.mono st2.ex).set hset (.ref Dl), r2⟩))
end
end DL


namespace DL
open PySem PySem.Spec PyProof.Rows L2 RZ

/-! ### == through the ledger, at any depth -/
mutual
inductive DW (m : Led) : D → D → Prop
  | now (d : D) : DW m d d
  | led {i : Nat} {a : Addr} {ds es : List D} : m[i]? = some (a, .lst ds) → DWs m ds es → DW m (.ref a) (.lst es)
  | tup {ds es : List D} : DWs m ds es → DW m (.tup ds) (.tup es)
inductive DWs (m : Led) : List D → List D → Prop
  | nil : DWs m [] []
  | cons {d e : D} {ds es : List D} : DW m d e → DWs m ds es → DWs m (d :: ds) (e :: es)
end
theorem DWs.now {m : Led} : ∀ ds : List D, DWs m ds ds
  | [] => .nil
  | d :: ds => .cons (.now d) (DWs.now ds)
mutual
theorem DW.dp {K : Frag} {F H : Hp} {m : Led} (at_ : At K F m H) : ∀ {d d' : D} {v : V} (n : Nat), DW m d d' → Sh n d' → Den K F v d → Dp K H v (py d')
  | _, _, v, n, .now d, hs, q => Dp.up at_.sub (q.dp n _ _ hs)
  | _, _, v, 0, .led _ _, hs, _ => hs.elim
  | _, _, v, n + 1, .led hi h, hs, q => by
    cases q
    obtain ⟨hh, ⟨xs, rfl, qs⟩, e⟩ := at_.get hi
    exact .lst (.inl (.inl e)) (DWs.dp at_ n h hs qs)
  | _, _, v, 0, .tup _, hs, _ => hs.elim
  | _, _, v, n + 1, .tup h, hs, q => by
    cases q with
    | tup q qs => exact .tup (at_.sub.sqT q) (DWs.dp at_ n h hs qs)
theorem DWs.dp {K : Frag} {F H : Hp} {m : Led} (at_ : At K F m H) : ∀ {ds es : List D} {vs : List V} (n : Nat), DWs m ds es → (∀ x ∈ es, Sh n x) → Dens K F vs ds → DpAll K H vs (pys es)
  | _, _, _, n, .nil, _, .nil => .nil
  | _, _, _, n, .cons h hs, k, .cons q qs => .cons (DW.dp at_ n h (k _ List.mem_cons_self) q) (DWs.dp at_ n hs (fun x hx => k x (List.mem_cons_of_mem _ hx)) qs)
end
section
variable {X : CD} {d1 d2 e1 e2 : D} {m : Led} {R : D → Led → Prop}
end

section
variable {X : CD} {d : D} {m : Led} {R : D → Led → Prop}
end

/-! ### the forms that the walker takes -/
section
variable {X : CD} {e : Expr} {es : List Expr} {kws : List Keyword} {ρ : Rn} {m : Led} {R : D → Led → Prop} {E : EndsD} {x nm f : Str} {p pos pos2 np pos' : Pos} {k n : Nat} {dd : List D} {sp : SpX} {mg : Str → Option Value} {P : Program} {w : World} {K : Frag} {base : Heap} {C : Addr} {ks : List Str} {gD : List D → List D}
theorem c_raise0 (G : XK0 P w K mg nm C) (hr : Room 1 X.A) (h : X.xq nm none ρ m) (hX : X.prog = P ∧ X.w = w ∧ X.K = K ∧ X.mg = mg := by exact ⟨rfl, rfl, rfl, rfl⟩) (hc : X.calm = true := by rfl) (hg : Gl X nm := by rfl) (hdb : (nm == ("__debug__" : Str)) = false := by decide) : S1 X (.Raise (some (.Call (.Name nm p) [] [] pos)) none pos2) ρ m E := by
  obtain ⟨rfl, rfl, rfl, rfl⟩ := hX
  exact s_raise0 G hr h hc hg hdb
theorem c_raise1 (G : XK1 P w K mg nm f C) (hr : Room 1 X.A) (h : EX X e ρ m fun d m1 => X.xq nm (some (f, d)) ρ m1) (hX : X.prog = P ∧ X.w = w ∧ X.K = K ∧ X.mg = mg := by exact ⟨rfl, rfl, rfl, rfl⟩) (hc : X.calm = true := by rfl) (hg : Gl X nm := by rfl) (hdb : (nm == ("__debug__" : Str)) = false := by decide)
    (hst : starEach [e] X.env = (false, eval e X.env) :: starEach [] X.env := by rfl) : S1 X (.Raise (some (.Call (.Name nm p) [e] [] pos)) none pos2) ρ m E := by
  obtain ⟨rfl, rfl, rfl, rfl⟩ := hX
  exact s_raise1 G hr h hc hg hdb hst
end
/-- a class's own __init__ (the j-th statement of the class's body) -/
def inClass (st : Stmt) (j : Nat) : Stmt := match st with
  | .ClassDef _ _ _ body _ _ _ _ _ _ _ => body.getD j (.Pass ⟨0, 0, 0, 0⟩)
  | _ => .Pass ⟨0, 0, 0, 0⟩
end DL


namespace DL
open PySem PySem.Spec PySem.Calls PyProof.Rows L2 RZ

/-! ### dicts whose keys are tuples of ints -/
abbrev kI (P : Program) (w : World) : HeapKind P w (List Int) := tupleKind (PySem.intKind P w)
theorem ints_are {P : Program} {w : World} : ∀ {k : List Int} {its : List Value}, Vals (k.map V.int) its → ItemsAre (PySem.intKind P w) k its
  | [], _, .nil => .nil
  | i :: k, _, .cons r t => .cons (by obtain ⟨t, e⟩ := r; subst e; simp [PySem.intKind, Value.isInt]) (ints_are t)
theorem keyI {X : Cx} {pins : List (Addr × Obj)} {σ : L2.St} {H : Hp} {s : Shared} {b : Addr} {k : List Int} (I : Inv X pins σ H s) (h : SqT X.K H b (k.map V.int)) : (kI X.prog X.w).is s.heap k b := by
  obtain ⟨its, r, ⟨o, e1, e2, n, e3⟩, _⟩ := I.tuple h
  exact ⟨o, its.toArray, n, e1, e2, e3, by simpa using ints_are r⟩
theorem objO_get {P : Program} {w : World} {H : Hp} {h : Heap} {a : Addr} {o : Obj} (ok : HOk P w H h) (e : H a = some (objO a o)) : h.get? a = some o := (ok a _ e).1
theorem objO_ok {P : Program} {w : World} {H : Hp} {h : Heap} {a : Addr} {o : Obj} (e : h.get? a = some o) : ObjOk P w H h a (objO a o) := ⟨e, ⟨o, e⟩, fun h1 h2 e1 k => k o e1⟩
theorem dictI {X : Cx} {pins : List (Addr × Obj)} {σ : L2.St} {H : Hp} {s : Shared} {a : Addr} {o : Obj} {xs : List (List Int × Addr × Value)} (I : Inv X pins σ H s) (h : H a = some (objO a o)) (d : DictObj a o xs) (t : ∀ x ∈ xs, SqT X.K H x.2.1 (x.1.map V.int)) : s.heap.DictOfH (kI X.prog X.w) a xs := by
  obtain ⟨ep, e⟩ := d.dat
  exact ⟨o, _, ep, objO_get I.hok h, d.ex, e, by simp; intro a b c _; rfl, fun x hx => keyI I (t x hx), d.nod⟩
theorem dictObj_of {P : Program} {w : World} {h : Heap} {a : Addr} {xs : List (List Int × Addr × Value)} (d : h.DictOfH (kI P w) a xs) (hl : xs.length ≤ sizeLine) (hs : (a == sysModules) = false) : ∃ o, h.get? a = some o ∧ DictObj a o xs := by
  obtain ⟨o, es, ep, h1, h2, h3, h4, _, h6⟩ := d
  refine ⟨o, h1, h2, ⟨ep, ?_⟩, h6, hl, hs⟩
  rw [h3]
  congr 1
  have : es = es.toList.toArray := by simp
  rw [this, h4]
  rfl
/-- the dict's data -/
structure DictD (K : Frag) (F : Hp) (a : Addr) (H : Hp) (ks : List (List Int)) (ds : List D) : Prop where
  ex : ∃ (o : Obj) (xs : List (List Int × Addr × Value)) (vs : List V), H a = some (objO a o) ∧ DictObj a o xs ∧ xs.map (·.1) = ks ∧ (∀ x ∈ xs, SqT K H x.2.1 (x.1.map V.int)) ∧ Vals vs (xs.map (·.2.2)) ∧ Dens K F vs ds
def DicV (m : Led) (d : D) (ks : List (List Int)) (ds : List D) : Prop := d = .dI ks ds ∨ ∃ (i : Nat) (a : Addr), d = .ref a ∧ m[i]? = some (a, .dI ks ds)
theorem DicV.read {K : Frag} {F H : Hp} {m : Led} {d : D} {ks : List (List Int)} {ds : List D} {v : V} (h : DicV m d ks ds) (a : At K F m H) (q : Den K F v d) : ∃ p, v = .ref p ∧ DictD K F p H ks ds := by
  rcases h with rfl | ⟨i, p, rfl, hi⟩
  · cases q with
    | dI h ho hk ht hv hs => exact ⟨_, rfl, _, _, _, a.sub _ _ h, ho, hk, fun x hx => a.sub.sqT (ht x hx), hv, hs⟩
  · cases q
    obtain ⟨hh, ⟨o, xs, vs, rfl, ho, hk, ht, hv, hs⟩, e⟩ := a.get hi
    exact ⟨p, rfl, o, xs, vs, e, ho, hk, fun x hx => a.sub.sqT (ht x hx), hv, hs⟩
theorem DictD.length {K : Frag} {F H : Hp} {a : Addr} {ks : List (List Int)} {ds : List D} (h : DictD K F a H ks ds) : ks.length = ds.length := by
  obtain ⟨o, xs, vs, _, _, rfl, _, hv, hs⟩ := h.ex
  rw [← hs.length, hv.length]
  simp
theorem atKey_at {xs : List (List Int × Addr × Value)} (nd : (xs.map (·.1)).Nodup) : ∀ {i : Nat} {x : List Int × Addr × Value}, xs[i]? = some x → atKey xs x.1 = some x.2 := by
  induction xs with
  | nil => intro i x h; simp at h
  | cons y ys ih =>
    intro i x h
    rw [List.map_cons, List.nodup_cons] at nd
    cases i with
    | zero =>
      simp at h
      subst h
      simp [atKey]
    | succ i =>
      have h' : ys[i]? = some x := by simpa using h
      have ne : y.1 ≠ x.1 := fun e => nd.1 (e ▸ List.mem_map.mpr ⟨x, List.mem_of_getElem? h', rfl⟩)
      have := ih nd.2 h'
      simpa [atKey, ne] using this
theorem atKey_none {xs : List (List Int × Addr × Value)} {k : List Int} (h : k ∉ xs.map (·.1)) : atKey xs k = none := by
  simp only [atKey, Option.map_eq_none_iff, List.find?_eq_none, decide_eq_true_eq]
  intro x hx e
  exact h (e ▸ List.mem_map.mpr ⟨x, hx, rfl⟩)
theorem DictD.at {K : Frag} {F H : Hp} {a : Addr} {ks : List (List Int)} {ds : List D} {i : Nat} {k : List Int} {d : D} (h : DictD K F a H ks ds) (hk : ks[i]? = some k) (hd : ds[i]? = some d) :
    ∃ (o : Obj) (xs : List (List Int × Addr × Value)) (b : Addr) (u : Value) (v : V), H a = some (objO a o) ∧ DictObj a o xs ∧ xs.map (·.1) = ks ∧ (∀ x ∈ xs, SqT K H x.2.1 (x.1.map V.int)) ∧ atKey xs k = some (b, u) ∧ RelV v u ∧ Den K F v d := by
  obtain ⟨o, xs, vs, h1, h2, rfl, h4, hv, hs⟩ := h.ex
  obtain ⟨v, hv1, q⟩ := hs.get hd
  obtain ⟨u, hu, ru⟩ := hv.get hv1
  rw [List.getElem?_map] at hk hu
  cases e : xs[i]? with
  | none => rw [e] at hk; cases hk
  | some x =>
    rw [e] at hk hu
    obtain rfl : x.1 = k := Option.some.inj hk
    obtain rfl : x.2.2 = u := Option.some.inj hu
    exact ⟨o, xs, x.2.1, x.2.2, v, h1, h2, rfl, h4, atKey_at h2.nod e, ru, q⟩
section
variable {X : CD} {m : Led} {R : D → Led → Prop} {E : XR} {d d1 d2 : D} {ks : List (List Int)} {ds : List D} {k : List Int} {i : Nat}
theorem key_read {K : Frag} {F H : Hp} {v : V} (at_ : At K F m H) (q : Den K F v (.tup (k.map D.int))) : ∃ b, v = .ref b ∧ SqT K H b (k.map V.int) := by
  obtain ⟨b, xs, rfl, h, hs⟩ := tup_read at_ q
  rw [hs.ints] at h
  exact ⟨b, rfl, h⟩
theorem roomI {A : Around} (hu : A.units + 64 < cLine) {P : Program} {w : World} : (kI P w).room A.in1 := by
  show A.units + 1 < cLine
  omega
theorem subTail_dict {prog : Program} {w : World} {A : Around} {E : Value → Shared → Prop} {s : Shared} {value slice : Expr} {o i : Value} {Q : Value → Shared → Prop} (hT : s.TypeIs o "dict") (hs : subscripted slice false o i = operate [o, i] (getItem o i))
    (h : wpAny (model prog w) A (getItem o i) Q E s) : wpAny (model prog w) A (subscriptTail value slice o i) Q E s := by
  unfold subscriptTail
  refine wpAny_bind ?_
  rw [getitemInPython_of_ne hT.not_modules]
  refine wpAny_bind (wpAny_specialOf hT PySem.F.slot_dict_getitem.lookup ?_)
  have fin : wpAny (model prog w) A (subscripted slice false o i) (fun r s₃ => wpAny (model prog w) A (letTemporaryGo value o r >>= fun _ => pure r) Q E s₃) E s := by
    rw [hs]
    exact wpAny_operating (wpAny_mono h (fun r s₃ h₃ => wpAny_bind (wpAny_letTemporaryGo (wpAny_pure h₃))) fun _ _ x => x)
  first
    | exact wpAny_pure (wpAny_bind fin)
    | exact wpAny_bind (wpAny_pure (wpAny_bind fin))
    | exact wpAny_bind fin
theorem i_dic {x : D} (hu : X.A.units + 64 < cLine) (h : DicV m d1 ks ds) (hk : ks[i]? = some k) (hd : ds[i]? = some x) (kk : R x m) : IxX X d1 (.tup (k.map D.int)) m R := .mk fun value slice F σ H a b pins s v u q1 q2 at_ I rx ry hs => by
  obtain ⟨p, rfl, dd⟩ := h.read at_.toAt q1
  obtain ⟨c, rfl, sq⟩ := key_read at_.toAt q2
  obtain ⟨o, xs, b', u', w', h1, h2, h3, h4, h5, ru, qd⟩ := dd.at hk hd
  cases rx
  cases ry
  have dh := dictI I h1 h2 h4
  refine subTail_dict dh.typeIs hs ?_
  exact wpAny_getItem_heap (roomI hu) (keyI I sq) dh h5 ⟨w', H, I.tok _, ru, PQ.now at_.toAt qd kk⟩
theorem DictD.has {K : Frag} {F H : Hp} {a : Addr} {ks : List (List Int)} {ds : List D} (h : DictD K F a H ks ds) (k : List Int) : ∃ (o : Obj) (xs : List (List Int × Addr × Value)), H a = some (objO a o) ∧ DictObj a o xs ∧ xs.map (·.1) = ks ∧ (∀ x ∈ xs, SqT K H x.2.1 (x.1.map V.int)) ∧ (atKey xs k).isSome = decide (k ∈ ks) := by
  obtain ⟨o, xs, vs, h1, h2, h3, h4, hv, hs⟩ := h.ex
  refine ⟨o, xs, h1, h2, h3, h4, ?_⟩
  by_cases hm : k ∈ ks
  · rw [decide_eq_true hm]
    rw [← h3] at hm
    obtain ⟨x, hx, e⟩ := List.mem_map.mp hm
    obtain ⟨i, hi⟩ := List.mem_iff_getElem?.mp hx
    rw [← e, atKey_at h2.nod hi]
    rfl
  · rw [decide_eq_false hm, atKey_none (by rw [h3]; exact hm)]
    rfl
theorem o_inD (hu : X.A.units + 64 < cLine) (h : DicV m d2 ks ds) (kk : R (.bl (decide (k ∈ ks))) m) : OX X (compareOp .In) (.tup (k.map D.int)) d2 m R := .mk fun F σ H x y pins s v u q1 q2 at_ I rx ry => by
  obtain ⟨p, rfl, dd⟩ := h.read at_.toAt q2
  obtain ⟨c, rfl, sq⟩ := key_read at_.toAt q1
  obtain ⟨o, xs, h1, h2, h3, h4, h5⟩ := dd.has k
  cases rx
  cases ry
  refine wpAny_in_heap (roomI hu) (keyI I sq) h2.sys (dictI I h1 h2 h4) ?_
  rw [h5]
  exact ⟨.bl _, H, I.tok _, rfl, PQ.now at_.toAt (.bl _) kk⟩
theorem o_notinD (hu : X.A.units + 64 < cLine) (h : DicV m d2 ks ds) (kk : R (.bl (!decide (k ∈ ks))) m) : OX X (compareOp .NotIn) (.tup (k.map D.int)) d2 m R := .mk fun F σ H x y pins s v u q1 q2 at_ I rx ry => by
  obtain ⟨p, rfl, dd⟩ := h.read at_.toAt q2
  obtain ⟨c, rfl, sq⟩ := key_read at_.toAt q1
  obtain ⟨o, xs, h1, h2, h3, h4, h5⟩ := dd.has k
  cases rx
  cases ry
  refine wpAny_notIn_heap (roomI hu) (keyI I sq) h2.sys (dictI I h1 h2 h4) ?_
  rw [h5]
  exact ⟨.bl _, H, I.tok _, rfl, PQ.now at_.toAt (.bl _) kk⟩
theorem b_lenD (h : DicV m d ks ds) (kk : R (.int (ks.length : Nat)) m) : BX X (.builtin "len") [d] m R := .mk fun F σ H xs pins s us qs at_ I rs => by
  obtain ⟨v, rfl, q⟩ := qs.one
  obtain ⟨p, rfl, dd⟩ := h.read at_.toAt q
  obtain ⟨o, xs, h1, h2, h3, h4, _⟩ := dd.has []
  obtain ⟨u, rfl, rx⟩ := vals1 rs
  obtain rfl : u = .ref p := rx
  have hz := h2.len
  refine call_len_dictH h2.sys (dictI I h1 h2 h4) (by rw [sizeLine_eq] at hz; omega) ?_
  have e : xs.length = ks.length := by rw [← h3]; simp
  rw [e]
  exact ⟨.int _, H, I.tok _, ⟨_, rfl⟩, PQ.now at_.toAt (.int _) kk⟩
end
end DL


namespace DL
open PySem PySem.Spec PySem.Calls PyProof.Rows L2 RZ

/-! ### the keys of a dict, walked -/
def Itx (d : Addr) (o : Obj) (xs : List (List Int × Addr × Value)) : It :=
  ⟨fun i H => H d = some (objO d o) ∧ i < xs.length, fun i H x H' => H' = H ∧ ∃ y, xs[i]? = some y ∧ x = .ref y.2.1, fun i H => H d = some (objO d o) ∧ xs.length ≤ i⟩
theorem entI_at {xs : List (List Int × Addr × Value)} {i : Nat} {y : List Int × Addr × Value} (h : xs[i]? = some y) : (xs.map entI).toArray[i]? = some (entI y) := by
  simp [h]
theorem turn_Itx {P : Program} {w : World} {K : PySem.W.Frag} {tg : Expr} {d : Addr} {o : Obj} {ep : Nat} {xs : List (List Int × Addr × Value)} (it : Addr) (hod : o.data = .dict (xs.map entI).toArray ep) : Turn P w K tg (Itx d o xs) [it] it (fun i h => h.IsKeyIter it d i xs.length ep) where
  mem := by simp
  obj := fun i h st b hb => by
    have e : b = it := by simpa using hb
    subst e
    obtain ⟨oi, e, c, dd⟩ := st
    exact ⟨oi, e, fun v z => by rw [dd] at z; cases z⟩
  keep := fun i h h' st k => st.at fun oi e => k it (by simp) oi e
  item := by
    intro X hP hw hK hc i pins s σ H E I hf st hg
    subst hP hw hK
    obtain ⟨hd, hi⟩ := hg
    obtain ⟨f0, f1, f2, f3, f4, f5⟩ := hf it (by simp)
    have hgd := objO_get I.hok hd
    have hy : xs[i]? = some xs[i] := List.getElem?_eq_getElem hi
    refine next_key_item st hgd hod (by simp) (entI_at hy) fun h' st' sb => ?_
    have I1 : Inv X pins σ H { s with heap := h' } := I.turned (t' := s.toks) (fun b ob hb e => (sb.2 b hb).trans e) f0 f1 f3 f4 f5
    obtain ⟨oi, e, c, dd⟩ := id st'
    exact ⟨(entI xs[i]).key, rfl, go_of (s := { s with heap := h' }) e c dd (by decide) ⟨.ref xs[i].2.1, H, I1, rfl, ⟨rfl, _, hy, rfl⟩, st', fun b hb => (hf b hb).1⟩⟩
  done := by
    intro X hP hw hK hc i pins s σ H E I hf st hg
    subst hP hw hK
    obtain ⟨hd, hi⟩ := hg
    obtain ⟨f0, f1, f2, f3, f4, f5⟩ := hf it (by simp)
    have hgd := objO_get I.hok hd
    exact next_key_end (I.ok.hd hc) st hgd hod (by simp) hi fun h' eb => ⟨rfl, I.turned (t' := s.toks) (fun b ob hb e => eb b ob hb e) f0 f1 f3 f4 f5⟩
  self := fun A i s Q E st h => by
    refine wpAny_pyIter_slot st.typeIs F.slot_dict_keyiterator_iter (wpAny_call_entry F.slot_dict_keyiterator_iter st.typeIs F.entry_dict_keyiterator_iter ?_ (F.args_dict_keyiterator_iter_1 _))
    show wpAny _ _ (ret (.ref it)) _ _ s
    exact wpAny_pure ⟨_, rfl, "dict_keyiterator", _, st.typeIs, F.slot_dict_keyiterator_next.lookup, h⟩
theorem walk_Itx {d : Addr} {o : Obj} {xs : List (List Int × Addr × Value)} : Walk (Itx d o xs) xs.length (fun H => H d = some (objO d o)) (YAt (xs.map fun y => .ref y.2.1)) :=
  ⟨fun i _ hi q => ⟨q, hi⟩, fun _ q => ⟨q, Nat.le_refl _⟩, fun i H x H' hi q ⟨e, y, hy, ex⟩ => ⟨e, by rw [List.getElem?_map, hy, ex]; rfl⟩⟩
/-- lists, tuples and dicts alike -/
def keyD (k : List Int) : D := .tup (k.map .int)
theorem keys_dens {K : Frag} {F : Hp} : ∀ {xs : List (List Int × Addr × Value)}, (∀ x ∈ xs, SqT K F x.2.1 (x.1.map V.int)) → Dens K F (xs.map fun y => .ref y.2.1) ((xs.map (·.1)).map keyD)
  | [], _ => .nil
  | x :: xs, h => .cons (.tup (h x (by simp)) Dens.of_ints) (keys_dens fun y hy => h y (by simp [hy]))
def iSeqD (X : CD) (it : Expr) : TI := fun σ H R => SE X it σ H fun x H1 => ∃ a, x = .ref a ∧ (((∃ xs, SqL X.K H1 a xs) ∧ R (Itl X.K a) H1) ∨ ((∃ xs, SqT X.K H1 a xs) ∧ R (Itt X.K a) H1) ∨ ∃ o xs, H1 a = some (objO a o) ∧ DictObj a o xs ∧ R (Itx a o xs) H1)
theorem pi_seqD {X : CD} {tg l : Expr} : PI X tg l (iSeqD X l) := by
  refine ⟨fun pins s σ H R I h => ?_⟩
  refine thn (h pins s I) fun v s1 ⟨x, H1, I1, r1, q1⟩ => ?_
  obtain ⟨a, e, ⟨⟨xs, hq⟩, q⟩ | ⟨⟨xs, hq⟩, q⟩ | ⟨o, xs, ho, hd, q⟩⟩ := q1
  · subst e
    cases r1
    obtain ⟨its, rv, p, hz⟩ := I1.list hq
    refine wpAny_pyIter_list p.isList ?_
    exact pi_one (tk := s1.toks) I1 _ (turn_list a _) ⟨_, Heap.get?_push_size _ rfl, rfl, rfl⟩ q
  · subst e
    cases r1
    obtain ⟨its, rv, p, hz⟩ := I1.tuple hq
    refine wpAny_pyIter_tuple (show s1.heap.IsTuple a its.toArray from p) ?_
    exact pi_one (tk := s1.toks) I1 _ (turn_tuple a _) ⟨_, Heap.get?_push_size _ rfl, rfl, rfl⟩ q
  · subst e
    cases r1
    obtain ⟨ep, hdt⟩ := hd.dat
    refine iter_keys hd.sys (objO_get I1.hok ho) hd.ex hdt (pi_one (tk := s1.toks) I1 _ (turn_Itx _ hdt) ⟨_, Heap.get?_push_size _ rfl, rfl, ?_⟩ q)
    simp
def SeqD (d : D) (ds : List D) : Prop := d = .lst ds ∨ d = .tup ds ∨ ∃ ks vs, d = .dI ks vs ∧ ds = ks.map keyD
theorem ix_seqD {X : CD} {tg it : Expr} {ρ : Rn} {m : Led} {R : List D → Led → Prop} (h : EX X it ρ m fun d m1 => ∃ ds, SeqD d ds ∧ R ds m1) : IX X tg it ρ m R := .mk fun F σ H en at_ =>
  SI.of pi_seqD (h.go en at_ fun v d F1 m1 H1 s1 en1 q ⟨ds, ed, r⟩ => by
    rcases ed with rfl | rfl | ⟨ks, vs, rfl, rfl⟩
    · cases q with
      | lst hq hs => exact ⟨_, rfl, .inl ⟨⟨_, .inl (s1.at2.sub.rd hq)⟩, ds, F1, m1, s1, r, by rw [← hs.length]; exact walk_list.mono (fun H' e => .inl (e.rd hq)) fun i H' x H'' _ _ y => yd_at hs y⟩⟩
    · cases q with
      | tup hq hs => exact ⟨_, rfl, .inr (.inl ⟨⟨_, s1.at2.sub.sqT hq⟩, ds, F1, m1, s1, r, by rw [← hs.length]; exact walk_tup.mono (fun H' e => e.sqT hq) fun i H' x H'' _ _ y => yd_at hs y⟩)⟩
    · cases q with
      | dI ho hd hk ht hv hs =>
        subst hk
        refine ⟨_, rfl, .inr (.inr ⟨_, _, s1.at2.sub _ _ ho, hd, _, F1, m1, s1, r, ?_⟩)⟩
        rw [List.length_map, List.length_map]
        exact walk_Itx.mono (fun H' e => e _ _ ho) fun i H' x H'' _ _ y => yd_at (keys_dens ht) y)
end DL


namespace DL
open PySem PySem.Spec PySem.Calls PyProof.Rows L2 RZ

/-! ### new dicts -/
/-- the data of a dict, ready to be laid -/
structure DicX (K : Frag) (F : Hp) (xs : List (List Int × Addr × Value)) (ks : List (List Int)) (ds : List D) : Prop where
  ex : ∃ vs, xs.map (·.1) = ks ∧ (∀ x ∈ xs, SqT K F x.2.1 (x.1.map V.int)) ∧ Vals vs (xs.map (·.2.2)) ∧ Dens K F vs ds
theorem DicX.mono {K : Frag} {F F' : Hp} {xs : List (List Int × Addr × Value)} {ks : List (List Int)} {ds : List D} (h : DicX K F xs ks ds) (e : Ex F F') : DicX K F' xs ks ds := by
  obtain ⟨vs, h1, h2, h3, h4⟩ := h.ex
  exact ⟨vs, h1, fun x hx => e.sqT (h2 x hx), h3, h4.mono e⟩
theorem DicX.den {K : Frag} {F : Hp} {p : Addr} {o : Obj} {xs : List (List Int × Addr × Value)} {ks : List (List Int)} {ds : List D} (h : DicX K F xs ks ds) (hp : F p = some (objO p o)) (hd : DictObj p o xs) : Den K F (.ref p) (.dI ks ds) := by
  obtain ⟨vs, h1, h2, h3, h4⟩ := h.ex
  exact .dI hp hd h1 h2 h3 h4
theorem DicX.mden {K : Frag} {F : Hp} {p : Addr} {o : Obj} {xs : List (List Int × Addr × Value)} {ks : List (List Int)} {ds : List D} (h : DicX K F xs ks ds) (hd : DictObj p o xs) : MDen K F p (.dI ks ds) (objO p o) := by
  obtain ⟨vs, h1, h2, h3, h4⟩ := h.ex
  exact ⟨o, xs, vs, rfl, hd, h1, h2, h3, h4⟩
def RNew (R : D → Led → Prop) (m : Led) (ks : List (List Int)) (ds : List D) : Bool → Prop
  | false => R (.dI ks ds) m
  | true => ∀ p, R (.ref p) (m ++ [(p, .dI ks ds)])
theorem new_dict {K : Frag} {F H : Hp} {m : Led} {p : Addr} {o : Obj} {xs : List (List Int × Addr × Value)} {ks : List (List Int)} {ds : List D} {R : D → Led → Prop} {b : Bool} (at_ : At K F m H) (hp : H p = none) (h : DicX K F xs ks ds) (hd : DictObj p o xs) (k : RNew R m ks ds b) : PQ K F m H R (.ref p) (upd H p (objO p o)) := by
  cases b with
  | false =>
    have nw := Step.new (o := objO p o) at_ hp
    exact ⟨_, _, _, nw, (h.mono nw.ex).den upd_same hd, k⟩
  | true =>
    have nw := Step.newM (o := objO p o) (mo := .dI ks ds) at_ hp (h.mden hd)
    exact ⟨_, _, _, nw, .ref p, k p⟩
def pairD (p : List Int × D) : D := .tup [keyD p.1, p.2]
section
variable {X : CD} {m : Led} {R : D → Led → Prop} {d : D} {b : Bool}
end
end DL


namespace DL
open PySem PySem.Spec PySem.Calls PyProof.Rows L2 RZ

/-! ### == of dicts whose keys are tuples of ints -/
def rowsH (f : Value → Value → Bool) (kb : List (List Int × Addr × Value)) (ka : List (List Int × Addr × Value)) : Bool := ka.all fun x => match atKey kb x.1 with
  | some y => f x.2.2 y.2
  | none => false
theorem at_of {xs : List (List Int × Addr × Value)} (nd : (xs.map (·.1)).Nodup) {j : Nat} {k : List Int} {p : Addr × Value} (h : xs[j]? = some (k, p)) : atKey xs k = some p := atKey_at nd h
theorem at_none {xs : List (List Int × Addr × Value)} {k : List Int} (h : ∀ (j : Nat) (p : Addr × Value), xs[j]? ≠ some (k, p)) : atKey xs k = none := by
  refine atKey_none fun hm => ?_
  obtain ⟨x, hx, e⟩ := List.mem_map.mp hm
  obtain ⟨j, hj⟩ := List.mem_iff_getElem?.mp hx
  exact h j x.2 (by rw [hj, ← e])
section
variable {prog : Program} {w : World} {A : Around} {E : Value → Shared → Prop} {s : Shared}
theorem samePairsH {nm : String} {a b : Addr} {ka kb : List (List Int × Addr × Value)} {f : Value → Value → Bool} {Q : Bool → Shared → Prop} (hu : A.units < cLine) (ha : (a == sysModules) = false) (hb : (b == sysModules) = false)
    (da : s.heap.DictOfH (kI prog w) a ka) (db : s.heap.DictOfH (kI prog w) b kb) (hits : ∀ x ∈ ka, ∀ y, atKey kb x.1 = some y → SeqAt.EqAt A s x.2.2 y.2 (f x.2.2 y.2)) (h : Q (ka.length == kb.length && rowsH f kb ka) s) :
    wpAny (model prog w) A (Builtin.Dict.samePairs nm a b) Q E s := by
  obtain ⟨oa, es, ep, hoa, _, hda, hka, hia, _⟩ := da
  obtain ⟨ob, es', ep', hob, _, hdb, hkb, hib, hnb⟩ := db
  have hla : es.size = ka.length := size_of_entries hka
  have hlb : es'.size = kb.length := size_of_entries hkb
  unfold Builtin.Dict.samePairs Builtin.Dict.showsAll
  rw [if_neg (show ¬ (a == sysModules) = true by rw [ha]; exact Bool.false_ne_true), if_neg (show ¬ (b == sysModules) = true by rw [hb]; exact Bool.false_ne_true)]
  refine wpAny_bind (wpAny_pure (wpAny_bind (wpAny_pure ?_)))
  refine wpAny_bind (wpAny_dictEntries hoa hda ?_)
  dsimp only
  refine wpAny_bind (wpAny_dictEntries hob hdb ?_)
  rw [← hla, ← hlb] at h
  by_cases hsz : es.size = es'.size
  case neg =>
    rw [if_pos (by simpa using hsz)]
    have hbf : (es.size == es'.size) = false := by simpa using hsz
    rw [hbf, Bool.false_and] at h
    exact wpAny_bind (wpAny_rule (wpAny_pure h))
  case pos =>
    have h' : Q (rowsH f kb ka) s := by simpa [hsz] using h
    rw [if_neg (by rw [hsz]; simp)]
    refine wpAny_bind (wpAny_dictEpoch hoa hda ?_)
    refine wpAny_bind ?_
    rw [Std.Legacy.Range.forIn_eq_forIn_range']
    simp only [Std.Legacy.Range.size, Nat.sub_zero, Nat.add_sub_cancel, Nat.div_one]
    refine wpAny_forIn_list _
      (fun rest q s' => s' = s ∧ q = (none, ()) ∧ ∃ i, rest = List.range' i (es.size - i) ∧ i ≤ es.size ∧ rowsH f kb ka = rowsH f kb (ka.drop i))
      _ ?_ ?_ _ _ ⟨rfl, rfl, 0, by simp, Nat.zero_le _, by simp⟩
    · rintro x rest q s' ⟨rfl, rfl, i, hr, hi, hpre⟩
      have hlt : i < es.size := by
        rcases Nat.lt_or_ge i es.size with h | h
        · exact h
        · rw [Nat.sub_eq_zero_of_le h] at hr; simp at hr
      obtain ⟨rfl, hrest⟩ : x = i ∧ rest = List.range' (i + 1) (es.size - (i + 1)) := by
        have e : es.size - i = (es.size - (i + 1)) + 1 := by omega
        rw [e, List.range'_succ] at hr
        injection hr with h1 h2
        exact ⟨h1, h2⟩
      refine wpAny_bind (wpAny_dictEntries hoa hda ?_)
      have hlt' : x < ka.length := by rw [← hla]; exact hlt
      have hee : es[x]? = some (entryOfKey (kI prog w) ka[x]) := by rw [entry_at hka x, List.getElem?_eq_getElem hlt']; rfl
      rw [hee]
      have hdrop : ka.drop x = ka[x] :: ka.drop (x + 1) := List.drop_eq_getElem_cons hlt'
      have hmem : ka[x] ∈ ka := List.getElem_mem hlt'
      rw [hdrop] at hpre
      have hrow : ∀ l, rowsH f kb (ka[x] :: l) = ((match atKey kb ka[x].1 with | some y => f ka[x].2.2 y.2 | none => false) && rowsH f kb l) := fun l => by simp only [rowsH, List.all_cons]
      show wpAny _ _ (holding [Value.ref ka[x].2.1, ka[x].2.2] _ >>= _) _ _ _
      refine wpAny_bind (wpAny_holding (wpAny_bind (wpAny_dictFind_heap (knd := kI prog w) hu (hia _ hmem) hob hdb hkb hib hnb ?_ ?_)))
      · intro hnone
        have hn := at_none hnone
        rw [hpre, hrow, hn, Bool.false_and] at h'
        refine wpAny_pure ?_
        show wpAny _ _ (if (!false) = true then _ else _) _ _ _
        rw [if_pos (by decide)]
        exact wpAny_pure (wpAny_pure h')
      · intro j p hj
        have hv' := at_of hnb hj
        have hjl : j < es'.size := by rw [hlb]; exact (List.getElem?_eq_some_iff.mp hj).1
        refine wpAny_bind (wpAny_dictEntries hob hdb ?_)
        have hee' : es'[j]? = some (entryOfKey (kI prog w) (ka[x].1, p)) := by rw [entry_at hkb j, hj]; rfl
        rw [hee']
        have he := hits _ hmem _ hv'
        refine wpAny_holding (he prog w _ _ ?_)
        rw [hrow, hv'] at hpre
        dsimp only at hpre
        cases e : f ka[x].2.2 p.2 with
        | false =>
          rw [e, Bool.false_and] at hpre
          rw [hpre] at h'
          show wpAny _ _ (if (!false) = true then _ else _) _ _ _
          rw [if_pos (by decide)]
          exact wpAny_pure (wpAny_pure h')
        | true =>
          rw [e, Bool.true_and] at hpre
          show wpAny _ _ (if (!true) = true then _ else _) _ _ _
          rw [if_neg (by decide)]
          refine wpAny_bind (wpAny_dictEpoch hoa hda ?_)
          rw [if_neg (by simp)]
          exact wpAny_pure ⟨rfl, rfl, x + 1, hrest, hlt, hpre⟩
    · rintro q s' ⟨rfl, rfl, i, hr, hi, hpre⟩
      have hin : i = es.size := by
        rcases Nat.lt_or_ge i es.size with h | h
        · have e : es.size - i = (es.size - (i + 1)) + 1 := by omega
          rw [e, List.range'_succ] at hr; exact nomatch hr
        · exact Nat.le_antisymm hi h
      refine wpAny_pure ?_
      rw [hin, hla, List.drop_length] at hpre
      have : rowsH f kb [] = true := rfl
      rw [hpre, this] at h'
      exact h'
theorem eqH {a b : Addr} {ka kb : List (List Int × Addr × Value)} {f : Value → Value → Bool} {Q : Value → Shared → Prop} (hu : A.units + 1 < cLine) (ha : (a == sysModules) = false) (hb : (b == sysModules) = false)
    (da : s.heap.DictOfH (kI prog w) a ka) (db : s.heap.DictOfH (kI prog w) b kb) (hits : ∀ x ∈ ka, ∀ y, atKey kb x.1 = some y → SeqAt.EqAt A.in1 s x.2.2 y.2 (f x.2.2 y.2)) (h : Q (.bool (ka.length == kb.length && rowsH f kb ka)) s) :
    wpAny (model prog w) A (compareOp .Eq (.ref a) (.ref b)) Q E s := by
  refine wpAny_richCompare_same_room (op := .Eq) da.typeIs db.typeIs PySem.F.slot_dict_eq (wpAny_call_entry PySem.F.slot_dict_eq da.typeIs PySem.F.entry_dict_eq ?_ (PySem.F.args_dict_eq_2 _ _)) (by omega)
  show wpAny _ _ (Builtin.Dict.dictSlotArgs "__eq__" ⟨[.ref a, .ref b], []⟩ >>= _) _ _ s
  refine wpAny_bind ?_
  unfold Builtin.Dict.dictSlotArgs
  refine wpAny_bind (wpAny_notOrdered_dict da.typeIs ?_)
  show wpAny _ _ (pure (Value.ref a, Value.ref b)) _ _ s
  refine wpAny_pure ?_
  refine wpAny_bind (wpAny_isInstance (T := "dict") db.typeIs PySem.F.sub_dict_dict ?_)
  simp only [Bool.not_true, Bool.false_eq_true, if_false]
  refine wpAny_bind (wpAny_pure (wpAny_bind (wpAny_pure ?_)))
  refine wpAny_bind (samePairsH (by show A.units + 1 < cLine; exact hu) ha hb da db hits ?_)
  refine wpAny_pure ⟨_, rfl, ?_, ?_⟩
  · exact fun x => nomatch x
  · simpa using h
theorem neH {a b : Addr} {ka kb : List (List Int × Addr × Value)} {f : Value → Value → Bool} {Q : Value → Shared → Prop} (hu : A.units + 1 < cLine) (ha : (a == sysModules) = false) (hb : (b == sysModules) = false)
    (da : s.heap.DictOfH (kI prog w) a ka) (db : s.heap.DictOfH (kI prog w) b kb) (hits : ∀ x ∈ ka, ∀ y, atKey kb x.1 = some y → SeqAt.EqAt A.in1 s x.2.2 y.2 (f x.2.2 y.2)) (h : Q (.bool (!(ka.length == kb.length && rowsH f kb ka))) s) :
    wpAny (model prog w) A (compareOp .NotEq (.ref a) (.ref b)) Q E s := by
  refine wpAny_richCompare_same_room (op := .NotEq) da.typeIs db.typeIs PySem.F.slot_dict_ne (wpAny_call_entry PySem.F.slot_dict_ne da.typeIs PySem.F.entry_dict_ne ?_ (PySem.F.args_dict_ne_2 _ _)) (by omega)
  show wpAny _ _ (Builtin.Dict.dictSlotArgs "__ne__" ⟨[.ref a, .ref b], []⟩ >>= _) _ _ s
  refine wpAny_bind ?_
  unfold Builtin.Dict.dictSlotArgs
  refine wpAny_bind (wpAny_notOrdered_dict da.typeIs ?_)
  show wpAny _ _ (pure (Value.ref a, Value.ref b)) _ _ s
  refine wpAny_pure ?_
  refine wpAny_bind (wpAny_isInstance (T := "dict") db.typeIs PySem.F.sub_dict_dict ?_)
  simp only [Bool.not_true, Bool.false_eq_true, if_false]
  refine wpAny_bind (wpAny_pure (wpAny_bind (wpAny_pure ?_)))
  refine wpAny_bind (samePairsH (by show A.units + 1 < cLine; exact hu) ha hb da db hits ?_)
  refine wpAny_pure ⟨_, rfl, ?_, ?_⟩
  · exact fun x => nomatch x
  · simpa using h
end
end DL


namespace DL
open PySem PySem.Spec PySem.Calls PyProof.Rows L2 RZ

/-! ### dicts compared, over data -/
def lookD : List (List Int) → List D → List Int → Option D
  | k :: ks, d :: ds, x => if k = x then some d else lookD ks ds x
  | _, _, _ => none
def rowsD (ls : List (List Int)) (es : List D) : List (List Int) → List D → Bool
  | k :: ks, d :: ds => (match lookD ls es k with | some e => PyData.eqv (py d) (py e) | none => false) && rowsD ls es ks ds
  | _, _ => true
def eqDic (ks : List (List Int)) (ds : List D) (ls : List (List Int)) (es : List D) : Bool := ks.length == ls.length && rowsD ls es ks ds
/-- the entries' values read as the data -/
inductive Rds (h : Heap) : List (List Int × Addr × Value) → List (List Int) → List D → Prop
  | nil : Rds h [] [] []
  | cons {x : List Int × Addr × Value} {xs : List (List Int × Addr × Value)} {ks : List (List Int)} {d : D} {ds : List D} {as : List Addr} : Reads h x.2.2 (py d) as → (py d).plain = true → (py d).depth ≤ 20 → Rds h xs ks ds → Rds h (x :: xs) (x.1 :: ks) (d :: ds)
theorem rds_of {X : CD} {pins : List (Addr × Obj)} {σ : L2.St} {H : Hp} {s : Shared} (I : Inv X pins σ H s) : ∀ {xs : List (List Int × Addr × Value)} {vs : List V} {ds : List D}, (∀ d ∈ ds, Sh 20 d) → DpAll X.K H vs (pys ds) → Vals vs (xs.map (·.2.2)) → Rds s.heap xs (xs.map (·.1)) ds
  | [], _, [], _, _, .nil => .nil
  | [], _, d :: ds, _, h, r => by cases h; cases r
  | x :: xs, _, [], _, h, r => by cases h; cases r
  | x :: xs, _, d :: ds, hs, .cons h1 h2, .cons r1 r2 => by
    obtain ⟨as, rd⟩ := Dp.reads I _ _ _ h1 r1
    have ok := (hs d (by simp)).ok
    exact .cons rd ok.1 ok.2 (rds_of I (fun e he => hs e (by simp [he])) h2 r2)
theorem Rds.sm {h : Heap} {k : List Int} : ∀ {xs : List (List Int × Addr × Value)} {ks : List (List Int)} {ds : List D}, Rds h xs ks ds → ∀ {y : Addr × Value}, atKey xs k = some y → ∃ d as, lookD ks ds k = some d ∧ Reads h y.2 (py d) as ∧ (py d).plain = true ∧ (py d).depth ≤ 20
  | _, _, _, .nil, y, e => by simp [atKey] at e
  | x :: xs, _, _, .cons (ks := ks) (d := d) (ds := ds) h1 h2 h3 hs, y, e => by
    by_cases q : x.1 = k
    · have : x.2 = y := by simpa [atKey, q] using e
      subst this
      exact ⟨d, _, by simp [lookD, q], h1, h2, h3⟩
    · have e' : atKey xs k = .some y := by simpa [atKey, q] using e
      obtain ⟨d', as', g1, g2⟩ := hs.sm e'
      exact ⟨d', as', by simp [lookD, q, g1], g2⟩
theorem Rds.nn {h : Heap} {k : List Int} : ∀ {xs : List (List Int × Addr × Value)} {ks : List (List Int)} {ds : List D}, Rds h xs ks ds → atKey xs k = none → lookD ks ds k = none
  | _, _, _, .nil, e => rfl
  | x :: xs, _, _, .cons (ks := ks) (d := d) (ds := ds) h1 h2 h3 hs, e => by
    by_cases q : x.1 = k
    · simp [atKey, q] at e
    · have e' : atKey xs k = Option.none := by simpa [atKey, q] using e
      have := hs.nn e'
      simp [lookD, q, this]
theorem Rds.rows {h : Heap} {kb : List (List Int × Addr × Value)} {ls : List (List Int)} {es : List D} (hb : Rds h kb ls es) : ∀ {ka : List (List Int × Addr × Value)} {ks : List (List Int)} {ds : List D}, Rds h ka ks ds →
    rowsH (fun u v => PyData.eqv (SeqAt.readOf h u) (SeqAt.readOf h v)) kb ka = rowsD ls es ks ds
  | _, _, _, .nil => rfl
  | x :: ka, _, _, .cons (ks := ks) (d := d) (ds := ds) h1 h2 h3 hs => by
    have ih := hb.rows hs
    have e1 : rowsH (fun u v => PyData.eqv (SeqAt.readOf h u) (SeqAt.readOf h v)) kb (x :: ka) = ((match atKey kb x.1 with | some y => PyData.eqv (SeqAt.readOf h x.2.2) (SeqAt.readOf h y.2) | none => false) && rowsH (fun u v => PyData.eqv (SeqAt.readOf h u) (SeqAt.readOf h v)) kb ka) := by simp only [rowsH, List.all_cons] <;> rfl
    rw [e1, ih]
    simp only [rowsD]
    congr 1
    cases e : atKey kb x.1 with
    | none => rw [hb.nn e]
    | some y =>
      obtain ⟨d', as', g1, g2, g3, _⟩ := hb.sm e
      rw [g1]
      simp only [SeqAt.readOf_plain h2 h1, SeqAt.readOf_plain g3 g2]
theorem Rds.len {h : Heap} : ∀ {xs : List (List Int × Addr × Value)} {ks : List (List Int)} {ds : List D}, Rds h xs ks ds → xs.length = ks.length
  | _, _, _, .nil => rfl
  | _, _, _, .cons _ _ _ hs => by simp [hs.len]
theorem Rds.mem {h : Heap} : ∀ {xs : List (List Int × Addr × Value)} {ks : List (List Int)} {ds : List D}, Rds h xs ks ds → ∀ {x}, x ∈ xs → ∃ d as, Reads h x.2.2 (py d) as ∧ (py d).plain = true ∧ (py d).depth ≤ 20
  | _, _, _, .nil, x, hx => by simp at hx
  | _, _, _, .cons h1 h2 h3 hs, x, hx => by
    rcases List.mem_cons.mp hx with rfl | hx
    · exact ⟨_, _, h1, h2, h3⟩
    · exact hs.mem hx
theorem Rds.hits {kb ka : List (List Int × Addr × Value)} {s : Shared} {ls ks : List (List Int)} {es ds : List D} {A : Around} (hu : A.units + 30 < cLine) (hb : Rds s.heap kb ls es) (ha : Rds s.heap ka ks ds) : ∀ x ∈ ka, ∀ y, atKey kb x.1 = some y → SeqAt.EqAt A s x.2.2 y.2 (PyData.eqv (SeqAt.readOf s.heap x.2.2) (SeqAt.readOf s.heap y.2)) := fun x hx y hy => by
  obtain ⟨d, as, h1, h2, h3⟩ := ha.mem hx
  obtain ⟨d', as', _, g2, g3, g4⟩ := hb.sm hy
  rw [SeqAt.readOf_plain h2 h1, SeqAt.readOf_plain g3 g2]
  have : min (py d).depth (py d').depth ≤ (py d).depth := Nat.min_le_left _ _
  exact SeqAt.eqAt_plain _ _ A s _ _ as as' h1 g2 h2 g3 (by omega)
theorem Dens.dpAll {K : Frag} {F H : Hp} {m : Led} (at_ : At K F m H) {vs : List V} {ds : List D} (h : ∀ d ∈ ds, Sh 20 d) (q : Dens K F vs ds) : DpAll K H vs (pys ds) := DWs.dp at_ 20 (DWs.now ds) h q
section
variable {X : CD} {m : Led} {R : D → Led → Prop} {d d1 d2 : D} {ks ls : List (List Int)} {ds es : List D} {b : Bool}
theorem o_eqDic (hu : X.A.units + 64 < cLine) (h1 : DicV m d1 ks ds) (h2 : DicV m d2 ls es) (s1 : ∀ d ∈ ds, Sh 20 d) (s2 : ∀ d ∈ es, Sh 20 d) (k : R (.bl (eqDic ks ds ls es)) m) : OX X (compareOp .Eq) d1 d2 m R := .mk fun F σ H x y pins s v u q1 q2 at_ I rx ry => by
  obtain ⟨p, rfl, ⟨o, xs, vs, a1, a2, a3, a4, a5, a6⟩⟩ := h1.read at_.toAt q1
  obtain ⟨q, rfl, ⟨o', ys, ws, b1, b2, b3, b4, b5, b6⟩⟩ := h2.read at_.toAt q2
  cases rx
  cases ry
  have ra := rds_of I s1 (Dens.dpAll at_.toAt s1 a6) a5
  have rb := rds_of I s2 (Dens.dpAll at_.toAt s2 b6) b5
  rw [a3] at ra
  rw [b3] at rb
  refine eqH (f := fun u v => PyData.eqv (SeqAt.readOf s.heap u) (SeqAt.readOf s.heap v)) (by omega) a2.sys b2.sys (dictI I a1 a2 a4) (dictI I b1 b2 b4) (rb.hits (A := X.A.in1) (by show X.A.units + 1 + 30 < cLine; omega) ra) ?_
  rw [rb.rows ra, ra.len, rb.len]
  exact ⟨.bl _, H, I, rfl, PQ.now at_.toAt (.bl _) k⟩
theorem o_neDic (hu : X.A.units + 64 < cLine) (h1 : DicV m d1 ks ds) (h2 : DicV m d2 ls es) (s1 : ∀ d ∈ ds, Sh 20 d) (s2 : ∀ d ∈ es, Sh 20 d) (k : R (.bl (!eqDic ks ds ls es)) m) : OX X (compareOp .NotEq) d1 d2 m R := .mk fun F σ H x y pins s v u q1 q2 at_ I rx ry => by
  obtain ⟨p, rfl, ⟨o, xs, vs, a1, a2, a3, a4, a5, a6⟩⟩ := h1.read at_.toAt q1
  obtain ⟨q, rfl, ⟨o', ys, ws, b1, b2, b3, b4, b5, b6⟩⟩ := h2.read at_.toAt q2
  cases rx
  cases ry
  have ra := rds_of I s1 (Dens.dpAll at_.toAt s1 a6) a5
  have rb := rds_of I s2 (Dens.dpAll at_.toAt s2 b6) b5
  rw [a3] at ra
  rw [b3] at rb
  refine neH (f := fun u v => PyData.eqv (SeqAt.readOf s.heap u) (SeqAt.readOf s.heap v)) (by omega) a2.sys b2.sys (dictI I a1 a2 a4) (dictI I b1 b2 b4) (rb.hits (A := X.A.in1) (by show X.A.units + 1 + 30 < cLine; omega) ra) ?_
  rw [rb.rows ra, ra.len, rb.len]
  exact ⟨.bl _, H, I, rfl, PQ.now at_.toAt (.bl _) k⟩
/-! d[k] = v -/
theorem putAt_set {xs : List (List Int × Addr × Value)} (nd : (xs.map (·.1)).Nodup) {i : Nat} {x : List Int × Addr × Value} {u : Value} (h : xs[i]? = some x) : xs.map (putAt x.1 u) = xs.set i (x.1, x.2.1, u) := by
  apply List.ext_getElem?
  intro j
  rw [List.getElem?_map]
  by_cases hj : i = j
  · subst hj
    rw [h, List.getElem?_set_self (List.getElem?_eq_some_iff.mp h).1]
    simp [putAt]
  · rw [List.getElem?_set_ne hj]
    cases e : xs[j]? with
    | none => rfl
    | some y =>
      have ne : ¬ y.1 = x.1 := fun q => by
        have h1 : (xs.map (·.1))[i]? = some x.1 := by rw [List.getElem?_map, h]; rfl
        have h2 : (xs.map (·.1))[j]? = some x.1 := by rw [List.getElem?_map, e, ← q]; rfl
        exact hj ((List.getElem?_inj (List.getElem?_eq_some_iff.mp h1).1 nd).mp (h1.trans h2.symm))
      simp [putAt, ne]
theorem vals_set : ∀ {vs : List V} {us : List Value} {i : Nat} {v : V} {u : Value}, Vals vs us → RelV v u → Vals (vs.set i v) (us.set i u)
  | _, _, _, _, _, .nil, _ => .nil
  | _, _, 0, _, _, .cons _ t, r => .cons r t
  | _, _, i + 1, _, _, .cons q t, r => .cons q (vals_set t r)
theorem DicX.old {K : Frag} {F : Hp} {xs : List (List Int × Addr × Value)} {i : Nat} {k : List Int} {v : V} {u : Value} {d : D} (h : DicX K F xs ks ds) (nd : (xs.map (·.1)).Nodup) (hk : ks[i]? = some k) (rv : RelV v u) (q : Den K F v d) (c : Addr) : DicX K F (storedH xs k c u) ks (ds.set i d) := by
  obtain ⟨vs, rfl, h2, h3, h4⟩ := h.ex
  rw [List.getElem?_map] at hk
  cases e : xs[i]? with
  | none => rw [e] at hk; cases hk
  | some x =>
    rw [e] at hk
    obtain rfl : x.1 = k := Option.some.inj hk
    rw [storedH_old (atKey_at nd e), putAt_set nd e]
    refine ⟨vs.set i v, ?_, fun y hy => ?_, ?_, h4.set i q⟩
    · rw [List.map_set]
      apply List.ext_getElem?
      intro j
      by_cases hj : i = j
      · subst hj
        rw [List.getElem?_set_self (by simpa using (List.getElem?_eq_some_iff.mp e).1), List.getElem?_map, e]; rfl
      · rw [List.getElem?_set_ne hj]
    · rcases List.mem_or_eq_of_mem_set hy with hy | rfl
      · exact h2 y hy
      · exact h2 x (List.mem_of_getElem? e)
    · rw [List.map_set]
      exact vals_set h3 rv
theorem DicX.new {K : Frag} {F : Hp} {xs : List (List Int × Addr × Value)} {k : List Int} {v : V} {u : Value} {c : Addr} {d : D} (h : DicX K F xs ks ds) (hk : k ∉ ks) (sq : SqT K F c (k.map V.int)) (rv : RelV v u) (q : Den K F v d) : DicX K F (storedH xs k c u) (ks ++ [k]) (ds ++ [d]) := by
  obtain ⟨vs, rfl, h2, h3, h4⟩ := h.ex
  rw [storedH_new (atKey_none hk)]
  refine ⟨vs ++ [v], by simp, fun y hy => ?_, ?_, h4.snoc q⟩
  · rcases List.mem_append.mp hy with hy | hy
    · exact h2 y hy
    · obtain rfl : y = (k, c, u) := by simpa using hy
      exact sq
  · rw [List.map_append]
    exact h3.append (.cons rv .nil)
def tSetI : TSet := fun o ix v H Q => ∃ (a c : Addr) (ob : Obj) (xs : List (List Int × Addr × Value)) (k : List Int), o = .ref a ∧ ix = .ref c ∧ H a = some (objO a ob) ∧ DictObj a ob xs ∧ xs.length < sizeLine ∧ Q H
theorem set_dict {K : Frag} (hu : X.A.units + 64 < cLine) : PSet X fun o ix v H Q => ∃ (a c : Addr) (ob : Obj) (xs : List (List Int × Addr × Value)) (k : List Int), o = .ref a ∧ ix = .ref c ∧ H a = some (objO a ob) ∧ DictObj a ob xs ∧ (∀ x ∈ xs, SqT X.K H x.2.1 (x.1.map V.int)) ∧ SqT X.K H c (k.map V.int) ∧ xs.length < sizeLine ∧
    ∀ u ob', RelV v u → DictObj a ob' (storedH xs k c u) → Q (upd H a (objO a ob')) := by
  intro pins s σ H o i v ov iv u Q I r1 r2 r3 ⟨a, c, ob, xs, k, e1, e2, h1, h2, h3, h4, hl, q⟩
  subst e1 e2
  cases r1
  cases r2
  refine wpAny_setItem_heap (hsz := h2.len) (roomI hu) (keyI I h4) (dictI I h1 h2 h3) fun h' hd hs => ?_
  obtain ⟨ob', ho', dobj⟩ := dictObj_of hd (by have := storedH_length xs k c u; omega) h2.sys
  exact ⟨_, I.write (x := a) (e := a) (by rw [h1]; exact True.intro) (.inl rfl) (fun b ub hb e => (hs.2 b hb).trans e) ⟨_, ho'⟩ (objO_ok ho'), q u ob' r3 dobj⟩
theorem st_dict {a : Addr} {n : Nat} {k : List Int} {d : D} {R : Led → Prop} (hu : X.A.units + 64 < cLine) (hm : m[n]? = some (a, .dI ks ds)) (hl : ks.length < 100000)
    (kk : (∃ i, ks[i]? = some k ∧ R (m.set n (a, .dI ks (ds.set i d)))) ∨ (k ∉ ks ∧ R (m.set n (a, .dI (ks ++ [k]) (ds ++ [d]))))) : StX X (.ref a) (keyD k) d m R := .mk ⟨_, set_dict (K := X.K) hu, fun F H o ix v q1 q2 q3 at_ => by
  cases q1
  obtain ⟨c, rfl, sq⟩ := key_read at_.toAt q2
  obtain ⟨hh, ⟨ob, xs, vs, rfl, h1, h2, h3, h4, h5⟩, e⟩ := at_.get hm
  have hlx : xs.length = ks.length := by rw [← h2, List.length_map]
  refine ⟨a, c, ob, xs, k, rfl, rfl, e, h1, fun x hx => at_.sub.sqT (h3 x hx), sq, lenLt (by rw [hlx]; exact hl), fun u ob' ru dobj => ?_⟩
  have dx : DicX X.K F xs ks ds := ⟨vs, h2, h3, h4, h5⟩
  have sqF : SqT X.K F c (k.map V.int) := by
    cases q2 with
    | tup h hs => rw [hs.ints] at h; exact h
  rcases kk with ⟨i, hi, r⟩ | ⟨hk, r⟩
  · exact ⟨F, _, Step.write (o' := .dI ks (ds.set i d)) at_.toAt hm ((dx.old h1.nod hi ru q3 c).mden dobj), r⟩
  · exact ⟨F, _, Step.write (o' := .dI (ks ++ [k]) (ds ++ [d])) at_.toAt hm ((dx.new hk sqF ru q3).mden dobj), r⟩⟩
/-! isinstance -/
end
end DL


namespace DL
open PySem PySem.Spec PySem.Calls PyProof.Rows L2 RZ

/-! ### {k: v for ..}: keys that are tuples of ints -/
abbrev eD : Obj := { cls := .type "dict", data := .dict #[] }
theorem emptyDict_obj {p : Addr} (h : (p == sysModules) = false) : DictObj p eD [] := ⟨⟨rfl, rfl, rfl⟩, ⟨_, rfl⟩, by simp, Nat.zero_le _, h⟩
/-- the turn's end: what is put, what stands then -/
def DcPut (K : Frag) (p : Addr) (y z : V) (H : Hp) (Nx : Hp → Prop) : Prop := ∃ (c : Addr) (k : List Int) (o : Obj) (xs : List (List Int × Addr × Value)), y = .ref c ∧ SqT K H c (k.map V.int) ∧ H p = some (objO p o) ∧ DictObj p o xs ∧ (∀ x ∈ xs, SqT K H x.2.1 (x.1.map V.int)) ∧ xs.length < sizeLine ∧
  ∀ u o', RelV z u → DictObj p o' (storedH xs k c u) → Nx (upd H p (objO p o'))
def tDcI (K : Frag) (wi : TI) (g : TG) (tt : TT) (tk tv : TE) (vs : List Nat) : TE := fun σ H Q => wi σ H fun J H1 => ∀ p o, H1 p = none → DictObj p o [] → ∃ W : Nat → Nat → Hp → Prop, (∃ m, W 0 m (upd H1 p (objO p o))) ∧ ∀ i m H, W i m H →
  (J.stop i H ∧ Q (.ref p) H) ∨ (J.go i H ∧ ∃ Nx : Hp → Prop, (∀ H', Nx H' → ∃ m', m' < m ∧ W (i + 1) m' H') ∧ ∀ x H', J.yld i H x H' → g x (wipe σ vs) H' fun σ2 H2 => wipe σ2 vs = wipe σ vs ∧ tt σ2 H2 fun b H3 =>
    if b = true then tk σ2 H3 fun y H4 => tv σ2 H4 fun z H5 => DcPut K p y z H5 Nx else Nx H3)
end DL


namespace DL
open PySem PySem.Spec PySem.Calls PyProof.Rows L2 RZ

/-! ### dict comprehensions over data -/
/-- what the put asks over data -/
def PutD (ks : List (List Int)) (vs : List D) (k v : D) (P : List (List Int) → List D → Prop) : Prop := ∃ kk, k = keyD kk ∧ ks.length < 100000 ∧ ((kk ∉ ks ∧ P (ks ++ [kk]) (vs ++ [v])) ∨ ∃ n, ks[n]? = some kk ∧ P ks (vs.set n v))
def CompD (X : CD) (scope : Scope) (ifs : List Expr) (kx vx : Expr) (y : Str) (j : Nat) (ρ : Rn) (R : List (List Int) → List D → Led → Prop) (ds : List D) (m1 : Led) : Prop := ∃ I : Nat → List (List Int) → List D → Led → Prop, I 0 [] [] m1 ∧
  (∀ i d ks vs m', ds[i]? = some d → I i ks vs m' → ∃ ρ2, SetAt ρ j y d ρ2 ∧ ∀ (s : Shared) (H0 : Hp) (C : Addr) (cl : List (Str × Addr)) (fp : List Addr),
    match ifs with
    | [] => EX (X.blk s H0 scope (compEnvC scope cl C X.env) fp) kx ρ2 m' fun k m2 => ∀ (s : Shared) (H0 : Hp) (C : Addr) (cl : List (Str × Addr)) (fp : List Addr), EX (X.blk s H0 scope (compEnvC scope cl C X.env) fp) vx ρ2 m2 fun v m3 => PutD ks vs k v fun ks vs => I (i + 1) ks vs m3
    | [c] => TX (X.blk s H0 scope (compEnvC scope cl C X.env) fp) c ρ2 m' fun b m1 => (b = true → ∀ (s : Shared) (H0 : Hp) (C : Addr) (cl : List (Str × Addr)) (fp : List Addr), EX (X.blk s H0 scope (compEnvC scope cl C X.env) fp) kx ρ2 m1 fun k m2 => ∀ (s : Shared) (H0 : Hp) (C : Addr) (cl : List (Str × Addr)) (fp : List Addr), EX (X.blk s H0 scope (compEnvC scope cl C X.env) fp) vx ρ2 m2 fun v m3 => PutD ks vs k v fun ks vs => I (i + 1) ks vs m3) ∧ (b = false → I (i + 1) ks vs m1)
    | _ => False) ∧ ∀ ks vs m', I ds.length ks vs m' → R ks vs m'
section
variable {X : CD} {kx vx it : Expr} {scope : Scope} {ρ : Rn} {m : Led} {R : D → Led → Prop} {pos py : Pos} {y : Str} {j : Nat}
end
end DL


namespace DL
open PySem PySem.Spec PySem.Calls PyProof.Rows L2 RZ

/-! ### dict(d) -/
section
variable {X : CD} {m : Led} {R : D → Led → Prop} {d : D} {ks : List (List Int)} {ds : List D} {b : Bool}
/-- a dict's entries over the frozen part -/
theorem DicV.readF {K : Frag} {F H : Hp} {v : V} (h : DicV m d ks ds) (a : At K F m H) (q : Den K F v d) : ∃ p o xs, v = .ref p ∧ H p = some (objO p o) ∧ DictObj p o xs ∧ DicX K F xs ks ds := by
  rcases h with rfl | ⟨i, p, rfl, hi⟩
  · cases q with
    | dI h ho hk ht hv hs => exact ⟨_, _, _, rfl, a.sub _ _ h, ho, ⟨_, hk, ht, hv, hs⟩⟩
  · cases q
    obtain ⟨hh, ⟨o, xs, vs, rfl, ho, hk, ht, hv, hs⟩, e⟩ := a.get hi
    exact ⟨p, o, xs, rfl, e, ho, ⟨_, hk, ht, hv, hs⟩⟩
/-! list(d) -/
def RNewL (R : D → Led → Prop) (m : Led) (ds : List D) : Bool → Prop
  | false => R (.lst ds) m
  | true => ∀ p, R (.ref p) (m ++ [(p, .lst ds)])
theorem new_lstB {K : Frag} {F H : Hp} {p : Addr} {xs : List V} {ds : List D} {b : Bool} (at_ : At K F m H) (hp : H p = none) (hs : Dens K F xs ds) (k : RNewL R m ds b) : PQ K F m H R (.ref p) (upd H p (.lst xs)) := by
  cases b with
  | false => exact new_lst at_ hp hs k
  | true => exact new_lstM at_ hp hs k
theorem b_listD (hc : X.calm = true) (h : DicV m d ks ds) (k : RNewL R m (ks.map keyD) b) : BX X (.type "list") [d] m R := .mk fun F σ H xs pins s us qs at_ I rs => by
  obtain ⟨v, rfl, q⟩ := qs.one
  obtain ⟨u, rfl, rx⟩ := vals1 rs
  obtain ⟨p, o, xs, rfl, e1, dobj, dx⟩ := h.readF at_.toAt q
  cases rx
  obtain ⟨vs, rfl, f2, f3, f4⟩ := dx.ex
  obtain ⟨ep, hdt⟩ := dobj.dat
  refine PySem.W.kdl_call (kdl_raw dobj.sys dobj.ex hdt) (I.ok.hd hc) (objO_get I.hok e1) (by simp; exact dobj.len) fun h' tk acc' c' kp e it => ?_
  have ea : acc'.toList = (xs.map fun x => x.2.1).map Value.ref := by
    have hl : acc'.toList.length = xs.length := by rw [Array.length_toList, it.1]; simp
    apply List.ext_getElem?
    intro j
    rw [List.getElem?_map, List.getElem?_map]
    cases hj : acc'.toList[j]? with
    | none =>
      have h1 := List.getElem?_eq_none_iff.mp hj
      rw [List.getElem?_eq_none (by omega)]
      rfl
    | some v =>
      obtain ⟨en, hen, hv⟩ := it.2 j v (by rw [← Array.getElem?_toList]; exact hj)
      have hen' : (xs.map entI)[j]? = some en := by simpa using hen
      rw [List.getElem?_map] at hen'
      cases hb : xs[j]? with
      | none => rw [hb] at hen'; cases hen'
      | some y =>
        rw [hb] at hen'
        obtain rfl : entI y = en := Option.some.inj hen'
        rw [hv]
        rfl
  have rv : Vals (xs.map fun y => V.ref y.2.1) acc'.toList := by
    rw [ea]
    have := vals_refs (xs.map fun x => x.2.1)
    rwa [List.map_map] at this
  refine ⟨.ref s.heap.objs.size, _, I.laid (t' := tk) (o := .lst (xs.map fun y => V.ref y.2.1)) kp (Nat.le_refl _) ?_, rfl, new_lstB at_.toAt (I.hok.fresh (Nat.le_refl _)) (keys_dens f2) k⟩
  exact ⟨by rw [List.length_map]; exact dobj.len, acc'.toList, c', rv, by rw [Array.toArray_toList]; exact e⟩
end
end DL


namespace DL
open PySem PySem.Spec PySem.Calls PyProof.Rows L2 RZ

/-! ### a dict of the ledger read as a frozen one for a while -/
mutual
def noD : D → Bool
  | .lst xs => noDs xs
  | .tup xs => noDs xs
  | .lsk xs => noDs xs
  | .dI _ _ => false
  | .dK _ vs => noDs vs
  | .obj _ _ vs => noDs vs
  | .exc _ _ _ x => noD x
  | _ => true
def noDs : List D → Bool
  | [] => true
  | x :: xs => noD x && noDs xs
end
def noDM : MO → Bool
  | .lst ds => noDs ds
  | .ins _ _ _ ds => noDs ds
  | .own _ => true
  | .dI _ ds => noDs ds
  | .dK _ ds => noDs ds
def noDL (m : Led) : Prop := ∀ p ∈ m, noDM p.2 = true
def cut (F : Hp) (a : Addr) : Hp := fun b => if b = a then none else F b
/-- the other part is the same but for things told by their object -/
def Nx (F F' : Hp) : Prop := ∀ b o, F b = some o → (∀ φ, o ≠ .ext φ) → F' b = some o
section
variable {K : Frag} {F F' : Hp}
theorem Nx.rd {a : Addr} {u : HO} (n : Nx F F') (hu : ∀ φ, u ≠ .ext φ) (h : Rd F a u) : Rd F' a u := by
  rcases h with h | ⟨o, h⟩
  · exact .inl (n a _ h hu)
  · exact .inr ⟨o, n a _ h (fun _ z => nomatch z)⟩
theorem Nx.sqT {a : Addr} {xs : List V} (n : Nx F F') (h : SqT K F a xs) : SqT K F' a xs := h.elim (fun h => .inl (n.rd (fun _ z => nomatch z) h)) .inr
theorem Nx.sqL {a : Addr} {xs : List V} (n : Nx F F') (h : SqL K F a xs) : SqL K F' a xs := h.elim (fun h => .inl (n.rd (fun _ z => nomatch z) h)) .inr
theorem Nx.lst {a : Addr} {xs : List V} (n : Nx F F') (h : Rd F a (.lst xs)) : Rd F' a (.lst xs) := n.rd (fun _ z => nomatch z) h
theorem Nx.dK {a : Addr} {xs : List (Key × V)} (n : Nx F F') (h : Rd F a (.dK xs)) : Rd F' a (.dK xs) := n.rd (fun _ z => nomatch z) h
theorem Nx.ins {a C dx : Addr} {fs : List (Str × V)} (n : Nx F F') (h : F a = some (.ins C dx fs)) : F' a = some (.ins C dx fs) := n _ _ h (fun _ z => nomatch z)
theorem Nx.xd {a : Addr} {fs : List (Str × V)} (n : Nx F F') (h : F a = some (.xd fs)) : F' a = some (.xd fs) := n _ _ h (fun _ z => nomatch z)
theorem noD_dI {ks : List (List Int)} {ds : List D} {P : Prop} (h : noD (.dI ks ds) = true) : P := by simp [noD] at h
theorem noD_lst {ds : List D} (h : noD (.lst ds) = true) : noDs ds = true := by simpa only [noD] using h
theorem noD_tup {ds : List D} (h : noD (.tup ds) = true) : noDs ds = true := by simpa only [noD] using h
theorem noD_lsk {ds : List D} (h : noD (.lsk ds) = true) : noDs ds = true := by simpa only [noD] using h
theorem noD_dK {ks : List Key} {ds : List D} (h : noD (.dK ks ds) = true) : noDs ds = true := by simpa only [noD] using h
theorem noD_obj {n : Str} {ks : List Str} {ds : List D} (h : noD (.obj n ks ds) = true) : noDs ds = true := by simpa only [noD] using h
theorem noD_exc {a b : Addr} {n : Str} {d : D} (h : noD (.exc a b n d) = true) : noD d = true := by simpa only [noD] using h
theorem noDs_cons {d : D} {ds : List D} (h : noDs (d :: ds) = true) : noD d = true ∧ noDs ds = true := by simpa only [noDs, Bool.and_eq_true] using h
mutual
theorem Den.nx (n : Nx F F') : ∀ {v : V} {d : D}, Den K F v d → noD d = true → Den K F' v d
  | _, _, .non, _ => .non
  | _, _, .bl b, _ => .bl b
  | _, _, .int i, _ => .int i
  | _, _, .str x, _ => .str x
  | _, _, .ty t, _ => .ty t
  | _, _, .lst h hs, e => .lst (n.lst h) (Dens.nx n hs (noD_lst e))
  | _, _, .tup h hs, e => .tup (n.sqT h) (Dens.nx n hs (noD_tup e))
  | _, _, .lsk h hs, e => .lsk (n.sqL h) (Dens.nx n hs (noD_lsk e))
  | _, _, .dI h ho hk ht hv hs, e => noD_dI e
  | _, _, .dK h hk hs, e => .dK (n.dK h) hk (Dens.nx n hs (noD_dK e))
  | _, _, .obj h hn hk hs, e => .obj (n.ins h) hn hk (Dens.nx n hs (noD_obj e))
  | _, _, .ref a, _ => .ref a
  | _, _, .exc h q, e => .exc (n.xd h) (Den.nx n q (noD_exc e))
  | _, _, .cls h, _ => .cls h
theorem Dens.nx (n : Nx F F') : ∀ {vs : List V} {ds : List D}, Dens K F vs ds → noDs ds = true → Dens K F' vs ds
  | _, _, .nil, _ => .nil
  | _, _, .cons h hs, e => .cons (Den.nx n h (noDs_cons e).1) (Dens.nx n hs (noDs_cons e).2)
end
theorem MDen.nx {a : Addr} (n : Nx F F') : ∀ {o : MO} {h : HO}, MDen K F a o h → noDM o = true → MDen K F' a o h
  | .lst _, _, ⟨xs, q, hs⟩, e => ⟨xs, q, hs.nx n e⟩
  | .ins .., _, ⟨C, fs, q, nm, k, hs⟩, e => ⟨C, fs, q, nm, k, hs.nx n e⟩
  | .own _, _, q, _ => q
  | .dI .., _, ⟨o, xs, vs, q, d, k, t, v, hs⟩, e => ⟨o, xs, vs, q, d, k, fun x hx => n.sqT (t x hx), v, hs.nx n e⟩
  | .dK .., _, ⟨fs, q, k, hs⟩, e => ⟨fs, q, k, hs.nx n e⟩
variable {H : Hp} {m : Led}
/-- anything of the ledger frozen -/
theorem Step.frz {i : Nat} {p : Addr} {o : MO} (a : At K F m H) (h : m[i]? = some (p, o)) : ∃ hh, MDen K F p o hh ∧ F p = none ∧ H p = some hh ∧ Step K F m H (upd F p hh) (m.eraseIdx i) H := by
  obtain ⟨hh, md, e⟩ := a.get h
  have hin : (p, o) ∈ m := List.mem_of_getElem? h
  have hF : F p = none := a.dis _ hin
  have sl : (m.eraseIdx i).Sublist m := List.eraseIdx_sublist ..
  refine ⟨hh, md, hF, e, ⟨⟨fun x u q => ?_, fun q hq => ?_, fun q hq => ?_, a.nod.sublist (sl.map _)⟩, Ex.new hF, fun _ _ e _ => e, fun x u q n => ?_, fun x hx => .inl ((sl.map _).subset hx)⟩⟩
  · by_cases hx : x = p
    · subst hx; rw [upd_same] at q; cases q; exact e
    · rw [upd_ne hx] at q; exact a.sub x u q
  · obtain ⟨hh, e1, e2⟩ := a.led q (sl.subset hq)
    exact ⟨hh, e1.mono (Ex.new hF), e2⟩
  · have : q.1 ≠ p := fun z => by
      obtain ⟨j, hj⟩ := List.mem_iff_getElem?.mp hq
      have k2 : (keys m)[i]? = some p := by rw [List.getElem?_map, h]; rfl
      rw [List.getElem?_eraseIdx] at hj
      split at hj
      · have k1 : (keys m)[j]? = some p := by rw [List.getElem?_map, hj]; exact congrArg some z
        have := nd_ix a.nod k2 k1
        omega
      · have k1 : (keys m)[j + 1]? = some p := by rw [List.getElem?_map, hj]; exact congrArg some z
        have := nd_ix a.nod k2 k1
        omega
    rw [upd_ne this]; exact a.dis q (sl.subset hq)
  · by_cases hx : x = p
    · subst hx; exact .inr (List.mem_map.mpr ⟨_, hin, rfl⟩)
    · rw [upd_ne hx, n] at q; cases q
theorem Step.freezeD {i : Nat} {p : Addr} {ks : List (List Int)} {ds : List D} (a : At K F m H) (h : m[i]? = some (p, .dI ks ds)) : ∃ F2, Step K F m H F2 (m.eraseIdx i) H ∧ Den K F2 (.ref p) (.dI ks ds) := by
  obtain ⟨hh, ⟨o, xs, vs, rfl, h1, h2, h3, h4, h5⟩, hF, e, st⟩ := Step.frz a h
  exact ⟨_, st, .dI upd_same h1 h2 (fun x hx => st.ex.sqT (h3 x hx)) h4 (h5.mono st.ex)⟩
end
section
variable {X : CD} {e : Expr} {ρ ρ' : Rn} {m : Led} {R : D → Led → Prop} {x : Str} {i n : Nat} {p : Addr} {ks : List (List Int)} {ds : List D}
theorem look_same {F : Hp} {σ : L2.St} {d : D} (en : Env X F σ ρ) (hl : LookAt ρ i x (.ref p)) (hs : SetAt ρ i x d ρ') (q : Den X.K F (.ref p) d) : Env X F σ ρ' := by
  have en2 := en.set hs q
  obtain ⟨hN, v, e1, q1⟩ := en.look hl
  cases q1
  have e : σ.set i (some (.ref p)) = σ := by
    apply List.ext_getElem?
    intro j
    by_cases hj : i = j
    · subst hj
      rw [List.getElem?_set_self (List.getElem?_eq_some_iff.mp e1).1, e1]
    · rw [List.getElem?_set_ne hj]
  rwa [e] at en2
end
end DL


namespace DL
open PySem PySem.Spec PySem.Calls PyProof.Rows L2 RZ

/-! ### instances -/
abbrev CnIs (K : Frag) (cn : Str) (C : Addr) : Prop := PySem.W.nsIn K mainGlobals cn = some (some (.ref C))
theorem CnIs.inj {K : Frag} {cn : Str} {C C' : Addr} (h : CnIs K cn C) (h' : CnIs K cn C') : C = C' := by
  have := h.symm.trans h'
  cases this
  rfl
structure KnowsC (P : Program) (w : World) (K : Frag) (mg : Str → Option Value) (base : Heap) (k : Nat) (cn : Str) (n : Nat) (sp : SpX) : Prop where
  fn : ∃ C f fd ps, FnOk P w K mg base (L2.CX P w) k f fd ps (liftX K mg sp) ∧ mg cn = some (.ref C) ∧ CnIs K cn C ∧ Mk K C f ∧ Binds K fd ps [] ∧ ps.length = n + 1
structure KnowsM (P : Program) (w : World) (K : Frag) (mg : Str → Option Value) (base : Heap) (k : Nat) (cn mt : Str) (n : Nat) (sp : SpX) : Prop where
  fn : ∃ C f fd ps, FnOk P w K mg base (L2.CX P w) k f fd ps (liftX K mg sp) ∧ CnIs K cn C ∧ Cls K C ∧ Meth K C mt f ∧ Binds K fd ps [] ∧ ps.length = n + 1
structure AttF (K : Frag) (cn f : Str) : Prop where
  ex : ∃ C, CnIs K cn C ∧ Cls K C ∧ NoAttr K C f
theorem KnowsC.mono {P : Program} {w : World} {K : Frag} {mg : Str → Option Value} {base : Heap} {k j : Nat} {cn : Str} {n : Nat} {sp : SpX} (G : KnowsC P w K mg base k cn n sp) (h : k ≤ j) : KnowsC P w K mg base j cn n sp := by
  obtain ⟨C, f, fd, ps, FO, r⟩ := G.fn
  exact ⟨C, f, fd, ps, FO.mono h, r⟩
theorem KnowsM.mono {P : Program} {w : World} {K : Frag} {mg : Str → Option Value} {base : Heap} {k j : Nat} {cn mt : Str} {n : Nat} {sp : SpX} (G : KnowsM P w K mg base k cn mt n sp) (h : k ≤ j) : KnowsM P w K mg base j cn mt n sp := by
  obtain ⟨C, f, fd, ps, FO, r⟩ := G.fn
  exact ⟨C, f, fd, ps, FO.mono h, r⟩
/-- what C(..) asks: __init__ on a new instance, which is frozen then -/
def makeM (cn : Str) (sp : SpX) (ds : List D) (m : Led) (R : D → Led → Prop) (E : Str → Option (Str × D) → Led → Prop) : Prop := ∀ x dx, sp (.ref x :: ds) (m ++ [(dx, .own x), (x, .ins cn dx [] [])])
  (fun d m2 => d = .non ∧ ∃ ns vs, m2[m.length + 1]? = some (x, .ins cn dx ns vs) ∧ R (.obj cn ns vs) (m2.take m.length)) fun nm fd m2 => E nm fd (m2.take m.length)
section
variable {X : CD} {o e : Expr} {es : List Expr} {ρ : Rn} {m : Led} {R : D → Led → Prop} {E : Str → Option (Str × D) → Led → Prop} {cn mt f : Str} {p pos apos : Pos} {k n : Nat} {sp : SpX}
end
end DL


namespace DL
open PySem PySem.Spec PySem.Calls PyProof.Rows L2 RZ

def lookF : List Str → List D → Str → Option D
  | n :: ns, v :: vs, f => if n = f then some v else lookF ns vs f
  | _, _, _ => none
def putN : List Str → Str → List Str
  | [], f => [f]
  | n :: ns, f => if n = f then n :: ns else n :: putN ns f
def putV : List Str → List D → Str → D → List D
  | n :: ns, v :: vs, f, d => if n = f then d :: vs else v :: putV ns vs f d
  | _, _, _, d => [d]
def ObjV (m : Led) (d : D) (cn : Str) (ns : List Str) (vs : List D) : Prop := d = .obj cn ns vs ∨ ∃ (n : Nat) (a dx : Addr), d = .ref a ∧ m[n]? = some (a, .ins cn dx ns vs)
theorem ObjV.read {K : Frag} {F H : Hp} {m : Led} {d : D} {cn : Str} {ns : List Str} {vs : List D} {v : V} (h : ObjV m d cn ns vs) (at_ : At K F m H) (q : Den K F v d) : ∃ a C dx fs, v = .ref a ∧ H a = some (.ins C dx fs) ∧ CnIs K cn C ∧ fs.map (·.1) = ns ∧ Dens K F (fs.map (·.2)) vs := by
  rcases h with rfl | ⟨n, a, dx, rfl, hi⟩
  · cases q with
    | obj h hn hk hs => exact ⟨_, _, _, _, rfl, at_.sub _ _ h, hn, hk, hs⟩
  · cases q
    obtain ⟨hh, ⟨C, fs, rfl, hn, hk, hs⟩, e⟩ := at_.get hi
    exact ⟨_, _, _, _, rfl, e, hn, hk, hs⟩
section
variable {X : CD} {o e : Expr} {es : List Expr} {ρ : Rn} {m : Led} {R : D → Led → Prop} {E : Str → Option (Str × D) → Led → Prop} {cn mt f : Str} {p pos apos pos' : Pos} {k n : Nat} {sp : SpX}
end
end DL


namespace DL
open PySem PySem.Spec PySem.Calls PyProof.Rows L2 RZ

/-! ### subscripts with the caller's slots known: own __getitem__ may raise -/
structure IxE (X : CD) (d1 d2 : D) (ρ : Rn) (m : Led) (R : D → Led → Prop) : Prop where
  run : ∀ value slice F σ H x y pins s v u, Env X F σ ρ → Den X.K F x d1 → Den X.K F y d2 → AtX X F m H → Inv X pins σ H s → RelV x v → RelV y u →
  (∀ o i, subscripted slice false o i = operate [o, i] (getItem o i)) → (∀ o i, subscripted slice true o i = runValue (.builtin "lifetime.subscript" ⟨[o, i], []⟩)) → wpAny (model X.prog X.w) X.A (subscriptTail value slice v u) (EP X pins σ (PQ X.K F m H R)) X.xe s
section
variable {X : CD} {a b e : Expr} {ρ : Rn} {m : Led} {R : D → Led → Prop} {E : Str → Option (Str × D) → Led → Prop} {cn mt f : Str} {pos : Pos} {k n : Nat} {sp : SpX} {d d1 d2 : D}
theorem IxE.mono {R' : D → Led → Prop} (h : IxE X d1 d2 ρ m R) (kk : ∀ d m, R d m → R' d m) : IxE X d1 d2 ρ m R' := .mk fun value slice F σ H x y pins s v u en q1 q2 at_ I rx ry hs h2 => thn (h.run value slice F σ H x y pins s v u en q1 q2 at_ I rx ry hs h2) fun w s3 ⟨v3, H3, I3, r3, d, F3, m3, st, q, k⟩ => ⟨v3, H3, I3, r3, d, F3, m3, st, q, kk _ _ k⟩
theorem inst_at {pins : List (Addr × Obj)} {σ : L2.St} {H : Hp} {s : Shared} {x C dx : Addr} {fs : List (Str × V)} (I : Inv X pins σ H s) (h : H x = some (.ins C dx fs)) : ∃ ox od, PySem.W.InstAt s.heap x ox C (some od) := by
  obtain ⟨mA, O, _⟩ := ins_get I.hok h
  obtain ⟨od, J, _⟩ := O.look
  exact ⟨_, _, J⟩
/-! ### isinstance, any kind of data -/
inductive KindD (m : Led) : D → String → Prop
  | plain {d : D} {t : String} : tyD d = some t → KindD m d t
  | led {i : Nat} {a : Addr} {ds : List D} : m[i]? = some (a, .lst ds) → KindD m (.ref a) "list"
  | dic {d : D} {ks : List (List Int)} {ds : List D} : DicV m d ks ds → KindD m d "dict"
  | dicK {ks : List Key} {ds : List D} : KindD m (.dK ks ds) "dict"
/-- own classes: no built-in one -/
structure ObjK (K : Frag) (cn : Str) : Prop where
  ex : ∃ C, CnIs K cn C ∧ Cls K C ∧ PySem.W.findIn K (.ref C) "__class__" = some (some (.builtin "object.__class__")) ∧ PySem.W.specialIn K (.builtin "object.__class__") "__get__" = some (some (.builtin "getset_descriptor.__get__")) ∧ PySem.W.takesIn K (.builtin "object.__class__") = some true ∧ PySem.W.mroIn K C (.type "object") = some true ∧
    (∀ n ∈ ["int", "bool", "list", "tuple", "dict", "str"], PySem.W.kitOne K (.ref C) (.type n) = some false) ∧ PySem.W.kitOne K (.ref C) (.ref C) = some true ∧ ∀ t ∈ ["NoneType", "bool", "int", "str", "list", "tuple", "dict"], PySem.W.kitOne K (.type t) (.ref C) = some false
/-- what a value is, for isinstance: a built-in kind, or an instance of an own class -/
inductive KindV (K : Frag) (m : Led) (d : D) (t : Value) : Prop
  | kind {n : String} : KindD m d n → t = .type n → KindV K m d t
  | own {cn : Str} {C : Addr} {ns : List Str} {vs : List D} : ObjK K cn → CnIs K cn C → ObjV m d cn ns vs → t = .ref C → KindV K m d t
theorem KindV.kit {pins : List (Addr × Obj)} {σ : L2.St} {F H : Hp} {s : Shared} {v : V} {u t : Value} (h : KindV X.K m d t) (I : Inv X pins σ H s) (at_ : At X.K F m H) (q : Den X.K F v d) (r : RelV v u) : ∃ P : Heap → Prop, PySem.W.KitX X.K u t P ∧ P s.heap ∧ u ≠ .builtin "__main__.__loader__#opaque" := by
  cases h with
  | kind h et =>
    subst et
    cases h with
    | plain h => exact kit_of I r (q.tyx at_ h)
    | led h =>
      cases q
      obtain ⟨hh, ⟨xs, rfl, hs⟩, e2⟩ := at_.get h
      exact kit_of I r (.base (.lst e2))
    | dic h =>
      obtain ⟨p, o, xs, rfl, e1, dobj, dx⟩ := h.readF at_ q
      cases r
      exact ⟨_, PySem.W.kitx_dict, ⟨o, objO_get I.hok e1, dobj.ex.1⟩, fun z => nomatch z⟩
    | dicK =>
      cases q with
      | dK h hk hs =>
        rcases at_.sub.rd h with h | ⟨o, h⟩
        · exact kit_of I r (.base (.dK h))
        · exact kit_of I r (.fDict h)
  | own hk hc hv et =>
    subst et
    obtain ⟨C', hC', c, h1, h2, h3, h4, _⟩ := hk.ex
    obtain ⟨p, C2, dx, fs, rfl, e1, hn, rfl, hd⟩ := hv.read at_ q
    obtain rfl := hn.inj hc
    obtain rfl := hn.inj hC'
    cases r
    obtain ⟨ox, od, J⟩ := inst_at I e1
    exact ⟨_, PySem.W.kitx_own (c.get _) c.hd h1 h2 h3 h4, J, fun z => nomatch z⟩
theorem b_isiV {t : Value} {nn : String} {c : Bool} (h : KindV X.K m d t) (hk : PySem.W.kitOne X.K t (.type nn) = some c) (kk : R (.bl c) m) : BX X (.builtin "isinstance") [d, .ty nn] m R := .mk fun F σ H xs pins s us qs at_ I rs => by
  obtain ⟨v, w, rfl, q, q2⟩ := qs.two
  obtain ⟨u, u2, rfl, rx, ry⟩ := vals2 rs
  cases q2
  cases ry
  obtain ⟨P, Z, pp, hx⟩ := h.kit I at_.toAt q rx
  exact PySem.W.kia_one Z I.kIn pp hk hx fun tk => ⟨.bl c, H, I.tok tk, rfl, PQ.now at_.toAt (.bl _) kk⟩
theorem b_isiC {t : Value} {cn : Str} {C : Addr} {c : Bool} (h : KindV X.K m d t) (hC : CnIs X.K cn C) (hk : PySem.W.kitOne X.K t (.ref C) = some c) (kk : R (.bl c) m) : BX X (.builtin "isinstance") [d, .cls cn] m R := .mk fun F σ H xs pins s us qs at_ I rs => by
  obtain ⟨v, w, rfl, q, q2⟩ := qs.two
  obtain ⟨u, u2, rfl, rx, ry⟩ := vals2 rs
  cases q2 with
  | cls hn =>
    cases ry
    obtain rfl := CnIs.inj hn hC
    obtain ⟨P, Z, pp, hx⟩ := h.kit I at_.toAt q rx
    exact PySem.W.kia_one Z I.kIn pp hk hx fun tk => ⟨.bl c, H, I.tok tk, rfl, PQ.now at_.toAt (.bl _) kk⟩
theorem tys_dens {K : Frag} {F : Hp} : ∀ {ts : List String} {xs : List V}, Dens K F xs (ts.map D.ty) → xs = ts.map V.ty
  | [], _, .nil => rfl
  | t :: ts, _, .cons (.ty _) r => by rw [tys_dens r]; rfl
theorem tys_vals : ∀ {ts : List String} {us : List Value}, Vals (ts.map V.ty) us → us = ts.map Value.type
  | [], _, .nil => rfl
  | t :: ts, _, .cons r rs => by rw [tys_vals rs]; cases (show _ = Value.type t from r); rfl
theorem b_isiVT {t : Value} {ts : List String} {c : Bool} (h : KindV X.K m d t) (hk : PySem.W.kitAny X.K t (ts.map Value.type) = some c) (kk : R (.bl c) m) : BX X (.builtin "isinstance") [d, .tup (ts.map D.ty)] m R := .mk fun F σ H xs pins s us qs at_ I rs => by
  obtain ⟨v, w, rfl, q, q2⟩ := qs.two
  obtain ⟨u, u2, rfl, rx, ry⟩ := vals2 rs
  obtain ⟨tp, ys, rfl, e1, s1⟩ := tup_read at_.toAt q2
  have ey := tys_dens s1
  subst ey
  cases ry
  obtain ⟨P, Z, pp, hx⟩ := h.kit I at_.toAt q rx
  obtain ⟨its, rv, ⟨o, h1, h2, n, h3⟩, _⟩ := I.tuple e1
  have e3 := tys_vals rv
  subst e3
  obtain ⟨oc, od, dt, sl⟩ := o
  simp only at h2 h3
  subst h2 h3
  exact PySem.W.kia_tup Z I.kIn pp h1 hk hx fun tk => ⟨.bl c, H, I.tok tk, rfl, PQ.now at_.toAt (.bl _) kk⟩
end
end DL


namespace DL
open PySem PySem.Spec PySem.Calls PyProof.Rows L2 RZ

/-! ### sorted, of tuples of ints of any lengths -/
def lexI : List Int → List Int → Bool
  | [], [] => false
  | [], _ :: _ => true
  | _ :: _, [] => false
  | a :: as, b :: bs => if a = b then lexI as bs else decide (a < b)
theorem lexI_asym : ∀ {a b : List Int}, lexI a b = true → lexI b a = false
  | [], [], h => by simp [lexI] at h
  | [], _ :: _, _ => rfl
  | _ :: _, [], h => by simp [lexI] at h
  | x :: a, y :: b, h => by
    simp only [lexI] at h ⊢
    by_cases e : x = y
    · rw [if_pos e] at h; rw [if_pos e.symm]; exact lexI_asym h
    · rw [if_neg e] at h; rw [if_neg (Ne.symm e)]
      have := of_decide_eq_true h
      exact decide_eq_false (by omega)
theorem lexI_tr : ∀ {a b c : List Int}, lexI a b = false → lexI b c = false → lexI a c = false
  | [], [], c, _, h => h
  | [], _ :: _, _, h, _ => by simp [lexI] at h
  | _ :: _, [], [], _, _ => rfl
  | _ :: _, [], _ :: _, _, h => by simp [lexI] at h
  | _ :: _, _ :: _, [], _, _ => rfl
  | x :: a, y :: b, z :: c, h1, h2 => by
    simp only [lexI] at h1 h2 ⊢
    by_cases e1 : x = y
    · subst e1
      rw [if_pos rfl] at h1
      by_cases e2 : x = z
      · rw [if_pos e2] at h2 ⊢; exact lexI_tr h1 h2
      · rw [if_neg e2] at h2 ⊢; exact h2
    · rw [if_neg e1] at h1
      have h1 := of_decide_eq_false h1
      by_cases e2 : y = z
      · subst e2
        rw [if_neg e1]
        exact decide_eq_false h1
      · rw [if_neg e2] at h2
        have h2 := of_decide_eq_false h2
        rw [if_neg (by omega)]
        exact decide_eq_false (by omega)
theorem lexI_eq : ∀ {a b : List Int}, lexI a b = false → lexI b a = false → a = b
  | [], [], _, _ => rfl
  | [], _ :: _, h, _ => by simp [lexI] at h
  | _ :: _, [], _, h => by simp [lexI] at h
  | x :: a, y :: b, h1, h2 => by
    simp only [lexI] at h1 h2
    by_cases e : x = y
    · subst e
      rw [if_pos rfl] at h1 h2
      rw [lexI_eq h1 h2]
    · rw [if_neg e] at h1
      rw [if_neg (Ne.symm e)] at h2
      have := of_decide_eq_false h1
      have := of_decide_eq_false h2
      omega
theorem swo_I (k : Value → List Int) : SrtO.Swo fun v u => lexI (k v) (k u) := ⟨fun x y h => lexI_asym h, fun x y z h1 h2 => lexI_tr h2 h1⟩
/-- the library's reading of < by places, against ours -/
theorem lexAt_I : ∀ (a b : List Int) (e r : Nat → Bool) (i : Nat), (∀ j, j < a.length → j < b.length → e (i + j) = decide (a[j]? = b[j]?)) → (∀ j x y, a[j]? = some x → b[j]? = some y → e (i + j) = false → r (i + j) = decide (x < y)) →
    Ob.lexAt e r (decide (a.length < b.length)) i (min a.length b.length) = lexI a b
  | [], [], e, r, i, _, _ => by simp [Ob.lexAt, lexI]
  | [], _ :: _, e, r, i, _, _ => by simp [Ob.lexAt, lexI]
  | _ :: _, [], e, r, i, _, _ => by simp [Ob.lexAt, lexI]
  | x :: a, y :: b, e, r, i, he, hr => by
    have e0 := he 0 (by simp) (by simp)
    have r0 := hr 0 x y rfl rfl
    rw [Nat.add_zero] at e0 r0
    have ih := lexAt_I a b e r (i + 1) (fun j h1 h2 => by
      have := he (j + 1) (by simpa using h1) (by simpa using h2)
      rw [show i + 1 + j = i + (j + 1) by omega, this]
      simp) (fun j u v h1 h2 h3 => by
      rw [show i + 1 + j = i + (j + 1) by omega] at h3 ⊢
      exact hr (j + 1) u v (by simpa using h1) (by simpa using h2) h3)
    have hm : min (x :: a).length (y :: b).length = min a.length b.length + 1 := by simp only [List.length_cons]; omega
    have hd : decide ((x :: a).length < (y :: b).length) = decide (a.length < b.length) := by simp
    rw [hm, hd, Ob.lexAt_succ]
    simp only [lexI]
    by_cases ex : x = y
    · rw [if_pos ex, if_pos (by rw [e0]; simp [ex])]
      exact ih
    · have ef : e i = false := by rw [e0]; simp [ex]
      rw [if_neg ex, ef, if_neg Bool.false_ne_true]
      exact r0 ef
section
variable {prog : Program} {w : World} {A : Around} {E : Value → Shared → Prop} {s : Shared}
open TS
theorem intsAt {vs : List Value} {ns : List Int} (h : IntsAre vs ns) : ∀ (j : Nat) (hj : j < vs.length), ∃ n t, vs[j] = Value.int n t ∧ ns[j]? = some n := by
  induction h with
  | nil => intro j hj; simp at hj
  | cons n t r ih =>
    intro j hj
    cases j with
    | zero => exact ⟨n, t, rfl, rfl⟩
    | succ j =>
      obtain ⟨m, u, e1, e2⟩ := ih j (by simpa using hj)
      exact ⟨m, u, by simpa using e1, by simpa using e2⟩
/-- t < u as list.sort asks it where all are of one type -/
theorem oneLt_tups {x y : Value} {a b : List Int} {Q : Bool → Shared → Prop} (hu : A.units + 2 < cLine) (hx : TupInts s.heap x a) (hy : TupInts s.heap y b) (h : Q (lexI a b) s) : wpAny (model prog w) A (oneLt' true x y) Q E s := by
  obtain ⟨p, xs, rfl, ⟨⟨oc, od, data, sl⟩, ho, hc, n, hd⟩, hi⟩ := hx
  obtain ⟨q, ys, rfl, ⟨⟨oc2, od2, data2, sl2⟩, ho2, hc2, n2, hd2⟩, hi2⟩ := hy
  simp only at hc hd hc2 hd2
  subst hc hd hc2 hd2
  have l1 : xs.size = a.length := by rw [← hi.length]; simp
  have l2 : ys.size = b.length := by rw [← hi2.length]; simp
  rw [oneLt'_eq]
  simp only [if_true]
  refine wpAny_bind (wpAny_cRoomFor (by omega) ?_)
  refine wpAny_bind (wpAny_callSpecialIfBound?_slot (T := "tuple") ⟨_, ho, rfl⟩ PySem.F.slot_tuple_lt (call_meets PySem.F.slot_tuple_lt ⟨_, ho, rfl⟩ PySem.F.entry_tuple_lt (PySem.F.args_tuple_lt_2 _ _) (Ob.tuple_ltAt p q xs ys n n2 od od2 sl sl2 (fun j => decide (a[j]? = b[j]?)) (fun j => decide (a[j]?.getD 0 < b[j]?.getD 0))) ?_))
  refine ⟨ho, ho2, fun j h1 h2 => ?_, fun j h1 h2 he => ?_, ?_⟩
  · obtain ⟨i1, t1, e1, g1⟩ := intsAt hi j (by simpa using h1)
    obtain ⟨i2, t2, e2, g2⟩ := intsAt hi2 j (by simpa using h2)
    have e1 : xs[j] = .int i1 t1 := by simpa using e1
    have e2 : ys[j] = .int i2 t2 := by simpa using e2
    rw [e1, e2]
    have e3 : decide (a[j]? = b[j]?) = (i1 == i2) := by rw [g1, g2]; by_cases h : i1 = i2 <;> simp [h]
    rw [e3]
    exact SeqAt.EqAt.int_int (A := A.in1) (s := s) i1 t1 i2 t2
  · obtain ⟨i1, t1, e1, g1⟩ := intsAt hi j (by simpa using h1)
    obtain ⟨i2, t2, e2, g2⟩ := intsAt hi2 j (by simpa using h2)
    have e1 : xs[j] = .int i1 t1 := by simpa using e1
    have e2 : ys[j] = .int i2 t2 := by simpa using e2
    rw [e1, e2]
    have := Ob.RcOp.lt_int (A := A.in1) (s := s) i1 i2 t1 t2
    simpa [g1, g2] using this
  · rw [l1, l2, lexAt_I a b _ _ 0 (fun j _ _ => by simp) (fun j u v h1 h2 _ => by simp [h1, h2])]
    exact wpAny_truthy_bool h
/-- t < u where all are tuples that are not empty -/
theorem kat_I {b : Bool} {Q : Bool → Shared → Prop} : ∀ (xs ys : List Value) (a c : List Int) (i : Nat), IntsAre xs a → IntsAre ys c → Q (lexI a c) s → PySem.W.KatLex prog w A b (decide (xs.length < ys.length)) Q (xs.zip ys) i s
  | [], [], _, _, i, .nil, .nil, h => by rw [show decide (([] : List Value).length < ([] : List Value).length) = false from rfl]; exact PySem.W.kat_nil h
  | [], _ :: _, _, _, i, .nil, .cons _ _ _, h => by
    refine PySem.W.kat_nil ?_
    simpa [lexI] using h
  | _ :: _, [], _, _, i, .cons _ _ _, .nil, h => by
    refine PySem.W.kat_nil ?_
    simpa [lexI] using h
  | _ :: xs, _ :: ys, _, _, i, .cons n t r, .cons m u q, h => by
    rw [show decide ((_ :: xs).length < (_ :: ys).length) = decide (xs.length < ys.length) from by simp]
    simp only [lexI] at h
    refine PySem.W.kat_cons (SeqAt.EqAt.int_int n t m u prog w _ _ ?_)
    refine PySem.W.kat_go (fun e1 => ?_) (fun e1 => ?_)
    · have ex : n = m := by simpa using e1
      rw [if_pos ex] at h
      exact PySem.W.kat_yes (kat_I xs ys _ _ (i + 1) r q h)
    · have ex : ¬ n = m := by simpa using e1
      rw [if_neg ex] at h
      refine PySem.W.kat_no ?_
      cases b && i == 0 with
      | true => exact oneLt_int h
      | false => exact PySem.W.kat_one _ _ (PyProof.Rows.lt_int h)
theorem firsts_opt : ∀ (vs : List Value) {Q : List (Option Value) → Shared → Prop}, (∀ v ∈ vs, ∃ ns, TupInts s.heap v ns) → (∀ fs : List (Option Value), fs.length = vs.length → (∀ (j : Nat) v, vs[j]? = some v → ∃ f, fs[j]? = some f ∧ (f.isSome = !(intsOf s.heap v).isEmpty) ∧ ∀ z, f = some z → ∃ n t, z = Value.int n t) → Q fs s) → wpAny (model prog w) A (vs.mapM firstOfTuple') Q E s
  | [], Q, _, h => by rw [List.mapM_nil]; exact wpAny_pure (h [] rfl fun j v e => by simp at e)
  | v :: vs, Q, hv, h => by
    obtain ⟨ns, t⟩ := hv v (by simp)
    obtain ⟨a, xs, rfl, ⟨o, ho, hc, n, hd⟩, hi⟩ := id t
    rw [List.mapM_cons]
    refine wpAny_bind ?_
    rw [PySem.W.kas_first_eq]
    refine wpAny_bind (PySem.W.Looks.here (show PySem.W.Looks (model prog w) s.heap (typeOf (.ref a)) o.cls from (PySem.W.Looks.ld ho).andThen .now) ?_)
    rw [hc, if_neg (by first | decide | simp)]
    refine wpAny_bind (listItems_at ho hd (wpAny_pure ?_))
    refine wpAny_bind (firsts_opt vs (Q := fun bs s' => wpAny (model prog w) A (pure (xs[0]? :: bs)) Q E s') (fun u hu => hv u (by simp [hu])) fun fs hl hf => wpAny_pure (h _ (by simp [hl]) fun j u hj => ?_))
    cases j with
    | zero =>
      obtain rfl : Value.ref a = u := by simpa using hj
      refine ⟨_, rfl, ?_, fun z hz => ?_⟩
      · rw [t.ints]
        have e : xs.toList.length = ns.length := hi.length
        cases ns with
        | nil =>
          have : xs.size = 0 := by simpa using e
          simp [this]
        | cons m r =>
          have : 0 < xs.size := by simp at e; omega
          simp [this]
      · have hz' : xs[0]? = some z := hz
        have h0 : 0 < xs.size := (Array.getElem?_eq_some_iff.mp hz').1
        obtain ⟨m, u, e1, _⟩ := intsAt hi 0 (by simpa using h0)
        refine ⟨m, u, ?_⟩
        have e2 : xs[0] = Value.int m u := by simpa using e1
        rw [Array.getElem?_eq_getElem h0] at hz'
        cases hz'
        exact e2
    | succ j =>
      obtain ⟨f, g1, g2⟩ := hf j u (by simpa using hj)
      exact ⟨f, by simpa using g1, g2⟩
/-- sorted's question of such a list: all of them not empty, or the first one empty -/
def SrtOk (ks : List (List Int)) : Prop := (∀ k ∈ ks, k ≠ []) ∨ ks[0]? = some []
theorem tups_sortable {h0 : Heap} {a : Addr} {vs : List Value} (hu : A.units + 4 < cLine) (h2 : 2 ≤ vs.length) (hp : ∀ v ∈ vs, TupInts s.heap v (intsOf h0 v)) (ha : ∀ o, s.heap.get? a = some o → o.cls ≠ .type "tuple") (hk : SrtOk (vs.map (intsOf h0))) : SrtO.SortableO prog w A s a vs fun v u => lexI (intsOf h0 v) (intsOf h0 u) := by
  intro h' keep
  have hp' : ∀ v ∈ vs, TupInts h' v (intsOf h0 v) := fun v hm => (hp v hm).keeps fun b o e c => keep b o (fun z => by subst z; exact ha o e c) e
  have he : ∀ v ∈ vs, intsOf h' v = intsOf h0 v := fun v hm => (hp' v hm).ints
  rcases hk with hk | hk
  · have hf : ∃ fs, PySem.W.KatTups h' vs fs ∧ fs.length = vs.length ∧ ∀ f ∈ fs, ∃ n t, f = Value.int n t := by
      have hne : ∀ v ∈ vs, intsOf h0 v ≠ [] := fun v hv => hk _ (List.mem_map.mpr ⟨v, hv, rfl⟩)
      clear hk h2 hp keep he
      induction vs with
      | nil => exact ⟨[], .nil, rfl, by simp⟩
      | cons v vs ih =>
        obtain ⟨fs, f1, f2, f3⟩ := ih (fun u hu => hp' u (by simp [hu])) fun u hu => hne u (by simp [hu])
        obtain ⟨b, xs, rfl, ⟨o, ho, hc, n, hd⟩, hi⟩ := hp' v (by simp)
        have hl : 0 < xs.toList.length := by
          rw [hi.length]
          have := hne _ (List.mem_cons_self (a := Value.ref b) (l := vs))
          exact List.length_pos_iff.mpr this
        obtain ⟨m, u, e1, _⟩ := intsAt hi 0 hl
        have h0' : 0 < xs.size := by simpa using hl
        have e2 : xs[0]? = some (Value.int m u) := by rw [Array.getElem?_eq_getElem h0']; simpa using e1
        exact ⟨_ :: fs, .cons ho hc hd e2 f1, by simp [f2], fun f hf => by
          rcases List.mem_cons.mp hf with rfl | hf
          · exact ⟨m, u, rfl⟩
          · exact f3 f hf⟩
    obtain ⟨fs, h1, h2', h3⟩ := hf
    refine ⟨tuples' true, fun Q E hq => ?_, fun p q hm hm' => ?_⟩
    · refine PySem.W.kat_kind (T := .type "int") h1 (by omega) (fun f hm => ?_) (by rfl) ?_
      · obtain ⟨x, t, rfl⟩ := h3 f hm
        exact PySem.W.Looks.now
      · have e : (Value.type "int" != Value.type "tuple") = true := by first | decide +kernel | rfl | decide
        rw [e]
        exact hq
    · obtain ⟨b, xs, eb, ⟨o, ho, hc, n, hd⟩, hi⟩ := hp' _ hm
      obtain ⟨c, ys, ec, ⟨o2, ho2, hc2, n2, hd2⟩, hi2⟩ := hp' _ hm'
      show wpAny (model prog w) A (keyLt' (tuples' true) p.1 q.1) (fun r s' => s' = { s with heap := h' } ∧ r = lexI (intsOf h0 p.1) (intsOf h0 q.1)) (fun _ _ => False) { s with heap := h' }
      rw [eb, ec] at *
      refine PySem.W.kat_lt ho hd ho2 hd2 ?_
      have := kat_I (prog := prog) (w := w) (A := A) (s := { s with heap := h' }) (b := true) (Q := fun r s' => s' = { s with heap := h' } ∧ r = lexI (intsOf h0 (.ref b)) (intsOf h0 (.ref c))) xs.toList ys.toList _ _ 0 hi hi2 ⟨rfl, rfl⟩
      simpa using this
  · refine ⟨oneType', fun Q E hq => ?_, fun p q hm hm' => ?_⟩
    · rw [keyKind'_eq, List.mapM_toArray, map_eq_pure_bind]
      refine wpAny_bind (wpAny_bind (firsts_opt (s := { s with heap := h' }) vs (fun v hv => ⟨_, hp' v hv⟩) fun fs hl hf => wpAny_pure ?_))
      obtain ⟨v0, vr, rfl⟩ : ∃ v0 vr, vs = v0 :: vr := by
        match vs, h2 with
        | v :: r, _ => exact ⟨v, r, rfl⟩
      have hk0 : intsOf h0 v0 = [] := by simpa using hk
      obtain ⟨f, g1, g2, _⟩ := hf 0 v0 rfl
      have g2 : f.isSome = false := by
        rw [g2, show intsOf h' v0 = [] from (he v0 (by simp)).trans hk0]
        rfl
      have f0 : f = none := by cases f with | none => rfl | some z => simp at g2
      subst f0
      have hall : (fs.toArray.all fun x => x.isSome) = false := by
        simp only [List.all_toArray]
        cases fs with
        | nil => simp at hl
        | cons y fs => simp at g1; subst g1; simp
      rw [hall, if_neg Bool.false_ne_true]
      have hz : ((fs.toArray[0]?.bind id).isSome) = false := by
        cases fs with
        | nil => simp at hl
        | cons y fs => simp at g1; subst g1; simp
      rw [hz, if_neg Bool.false_ne_true, oneTypeOnly'_eq, List.mapM_toArray, map_eq_pure_bind]
      refine wpAny_bind (wpAny_bind (wpAny_bind (PySem.W.kas_mapM (r := .type "tuple") _ (fun v hv Q' hq => ?_) (wpAny_pure ?_))))
      · obtain ⟨b, xs, rfl, ⟨o, ho, hc, n, hd⟩, hi⟩ := hp' v hv
        refine PySem.W.Looks.here (s := { s with heap := h' }) (show PySem.W.Looks (model prog w) h' (typeOf (.ref b)) o.cls from (PySem.W.Looks.ld ho).andThen .now) ?_
        rw [hc]
        exact hq
      · have h0' : (List.map (fun _ => Value.type "tuple") (v0 :: vr)).toArray[0]? = some (Value.type "tuple") := by simp
        rw [h0']
        have hall2 : ((List.map (fun _ => Value.type "tuple") (v0 :: vr)).toArray.all fun x => x == Value.type "tuple") = true := by
          simp only [List.all_toArray, List.all_map, List.all_eq_true]
          intro _ _
          rfl
        simp only [hall2, if_true]
        exact wpAny_pure (wpAny_pure hq)
    · show wpAny (model prog w) A (keyLt' oneType' p.1 q.1) (fun r s' => s' = { s with heap := h' } ∧ r = lexI (intsOf h0 p.1) (intsOf h0 q.1)) (fun _ _ => False) { s with heap := h' }
      rw [keyLt'_oneType]
      exact oneLt_tups (s := { s with heap := h' }) (by omega) (hp' _ hm) (hp' _ hm') ⟨rfl, rfl⟩
end
end DL


namespace DL
open PySem PySem.Spec PySem.Calls PyProof.Rows L2 RZ

section
variable {X : CD} {m : Led} {R : D → Led → Prop} {d d1 d2 : D} {b : Bool}
/-! sorted -/
theorem keys_back {K : Frag} {F : Hp} : ∀ {ks : List (List Int)} {xs : List V}, Dens K F xs (ks.map keyD) → ∃ bs : List Addr, xs = bs.map V.ref ∧ bs.length = ks.length ∧ ∀ (i : Nat) c k, bs[i]? = some c → ks[i]? = some k → SqT K F c (k.map V.int)
  | [], _, .nil => ⟨[], rfl, rfl, fun i c k h => by simp at h⟩
  | k :: ks, _, .cons (.tup h hs) r => by
    obtain ⟨bs, e1, e2, e3⟩ := keys_back r
    rw [hs.ints] at h
    refine ⟨_ :: bs, by rw [e1]; rfl, by simp [e2], fun i c k' h1 h2 => ?_⟩
    cases i with
    | zero => simp at h1 h2; subst h1 h2; exact h
    | succ i => exact e3 i c k' (by simpa using h1) (by simpa using h2)
theorem vals_refs_inv : ∀ {bs : List Addr} {us : List Value}, Vals (bs.map V.ref) us → us = bs.map Value.ref
  | [], _, .nil => rfl
  | b :: bs, _, .cons r rs => by rw [vals_refs_inv rs]; cases (show _ = Value.ref b from r); rfl
theorem b_sortT {ks : List (List Int)} (hu : X.A.units + 64 < cLine) (h : LstV m d (ks.map keyD)) (ho : SrtOk ks) (k : ∀ ks' : List (List Int), ks'.Perm ks → ks'.Pairwise (fun a c => lexI c a = false) → RNewL R m (ks'.map keyD) b) : BX X (.builtin "sorted") [d] m R := .mk fun F σ H xs pins s us qs at_ I rs => by
  obtain ⟨v, rfl, q⟩ := qs.one
  obtain ⟨u, rfl, rx⟩ := vals1 rs
  obtain ⟨p, ys, rfl, e1, s1⟩ := h.read at_.toAt q
  cases rx
  obtain ⟨its, rv, hl, hz⟩ := I.list (.inl e1)
  obtain ⟨bs, rfl, hlb, hb⟩ := keys_back s1
  have ei := vals_refs_inv rv
  subst ei
  have tup : ∀ (i : Nat) c kk, bs[i]? = some c → ks[i]? = some kk → TS.TupInts s.heap (.ref c) kk := fun i c kk h1 h2 => by
    obtain ⟨its2, r2, t2, _⟩ := I.tuple (at_.toAt.sub.sqT (hb i c kk h1 h2))
    exact ⟨c, its2.toArray, rfl, t2, by simpa using r2.ints⟩
  have ek : (bs.map Value.ref).map (TS.intsOf s.heap) = ks := by
    apply List.ext_getElem?
    intro i
    rw [List.getElem?_map, List.getElem?_map]
    cases h1 : bs[i]? with
    | none =>
      have := List.getElem?_eq_none_iff.mp h1
      rw [List.getElem?_eq_none (by omega)]
      rfl
    | some c =>
      have hi : i < ks.length := by rw [← hlb]; exact (List.getElem?_eq_some_iff.mp h1).1
      have h2 : ks[i]? = some ks[i] := List.getElem?_eq_getElem hi
      rw [h2]
      exact congrArg some (tup i c _ h1 h2).ints
  have hmem : ∀ v ∈ bs.map Value.ref, TS.TupInts s.heap v (TS.intsOf s.heap v) := fun v hv => by
    obtain ⟨c, hc, rfl⟩ := List.mem_map.mp hv
    obtain ⟨i, hi⟩ := List.mem_iff_getElem?.mp hc
    have hk : i < ks.length := by rw [← hlb]; exact (List.getElem?_eq_some_iff.mp hi).1
    have t := tup i c _ hi (List.getElem?_eq_getElem hk)
    rw [t.ints]
    exact t
  refine SrtO.sorted_ord (swo_I (TS.intsOf s.heap)) hl.isList (by simpa using hz) (fun h2 h₁ a ha kk => ?_) fun out h1 h2 => ?_
  · refine tups_sortable (s := { s with heap := h₁ }) (by show X.A.units + 1 + 1 + 4 < cLine; omega) h2 (fun v hv => (hmem v hv).keeps fun b o e _ => (kk b o e).2) (fun o e => ?_) (by rw [ek]; exact ho)
    have e' : some o = some (seqObj "list" _ 0) := e.symm.trans ha
    cases e'
    intro c
    exact absurd (Value.type.inj c) (by decide)
  · have h3 : ∀ u ∈ out, ∃ a, u = Value.ref a := fun u hu => by
      obtain ⟨c, _, e⟩ := List.mem_map.mp (h2.perm.mem_iff.mp hu)
      exact ⟨c, e.symm⟩
    obtain ⟨n, hn⟩ := sortedAll_at s.heap (bs.map Value.ref) out.toArray
    have pk : (out.map (TS.intsOf s.heap)).Perm ks := by rw [← ek]; exact h2.perm.map _
    have sk : (out.map (TS.intsOf s.heap)).Pairwise (fun a c => lexI c a = false) := List.pairwise_map.mpr h1
    have dn : Dens X.K F (out.map backV) ((out.map (TS.intsOf s.heap)).map keyD) := by
      have : ∀ l : List Value, (∀ v ∈ l, v ∈ bs.map Value.ref) → Dens X.K F (l.map backV) ((l.map (TS.intsOf s.heap)).map keyD) := by
        intro l
        induction l with
        | nil => intro _; exact .nil
        | cons v l ih =>
          intro hv
          obtain ⟨c, hc, rfl⟩ := List.mem_map.mp (hv v (by simp))
          obtain ⟨i, hi⟩ := List.mem_iff_getElem?.mp hc
          have hk : i < ks.length := by rw [← hlb]; exact (List.getElem?_eq_some_iff.mp hi).1
          have h2 : ks[i]? = some ks[i] := List.getElem?_eq_getElem hk
          have t := tup i c _ hi h2
          refine .cons ?_ (ih fun w hw => hv w (by simp [hw]))
          show Den X.K F (.ref c) (keyD (TS.intsOf s.heap (.ref c)))
          rw [t.ints]
          exact .tup (hb i c _ hi h2) Dens.of_ints
      exact this out fun v hv => h2.perm.mem_iff.mp hv
    refine ⟨.ref _, upd H (s.heap.objs.size + 1) (.lst (out.map backV)), I.laid (t' := s.toks) (fun b o e => sortedAll_old e) (Nat.le_succ _) ⟨?_, out, n, vals_back h3, hn⟩, rfl, new_lstB at_.toAt (I.hok.fresh (Nat.le_succ _)) dn (k _ pk sk)⟩
    rw [List.length_map, h2.perm.length_eq, List.length_map]
    simpa using hz
theorem b_sortI {ns : List Int} (h : LstV m d (ns.map D.int)) (k : ∀ ns' : List Int, ns'.Perm ns → ns'.Pairwise (· ≤ ·) → RNewL R m (ns'.map D.int) b) : BX X (.builtin "sorted") [d] m R := BX.of cr_sortedI fun F H xs qs at_ => by
  obtain ⟨v, rfl, q⟩ := qs.one
  obtain ⟨p, ys, rfl, e1, s1⟩ := h.read at_.toAt q
  exact ⟨p, ns, rfl, by rw [← s1.ints]; exact .inl e1, fun ns' l h1 h2 h3 => new_lstB at_.toAt h3 Dens.of_ints (k ns' h1 h2)⟩
theorem b_maxL {ns : List Int} (hc : X.calm = true) (h : LstV m d (ns.map D.int)) (h0 : 0 < ns.length) (k : ∀ i, i ∈ ns → (∀ y ∈ ns, y ≤ i) → R (.int i) m) : BX X (.builtin "max") [d] m R := BX.of (cr_max hc) fun F H xs qs at_ => by
  obtain ⟨v, rfl, q⟩ := qs.one
  obtain ⟨p, ys, rfl, e1, s1⟩ := h.read at_.toAt q
  exact ⟨p, ns, rfl, by rw [← s1.ints]; exact .inl e1, h0, fun i h1 h2 => PQ.now at_ (.int _) (k i h1 h2)⟩
theorem b_minL {ns : List Int} (hc : X.calm = true) (h : LstV m d (ns.map D.int)) (h0 : 0 < ns.length) (k : ∀ i, i ∈ ns → (∀ y ∈ ns, i ≤ y) → R (.int i) m) : BX X (.builtin "min") [d] m R := BX.of (cr_min hc) fun F H xs qs at_ => by
  obtain ⟨v, rfl, q⟩ := qs.one
  obtain ⟨p, ys, rfl, e1, s1⟩ := h.read at_.toAt q
  exact ⟨p, ns, rfl, by rw [← s1.ints]; exact .inl e1, h0, fun i h1 h2 => PQ.now at_ (.int _) (k i h1 h2)⟩
/-! tuples put together, sliced -/
theorem o_catT {as bs : List D} (hl : as.length + bs.length ≤ 100000) (k : R (.tup (as ++ bs)) m) : OX X (binaryOp .Add) (.tup as) (.tup bs) m R := OX.of op_catA fun F H x y q1 q2 at_ => by
  obtain ⟨p, xs, rfl, e1, s1⟩ := tup_read at_.toAt q1
  obtain ⟨q, ys, rfl, e2, s2⟩ := tup_read at_.toAt q2
  refine ⟨p, q, xs, ys, rfl, rfl, e1, e2, lenOk (by rw [s1.length, s2.length]; exact hl), fun e => ?_, fun _ e => ?_, fun _ _ l hl => new_tup at_.toAt hl (s1.append s2) k⟩
  · subst e
    cases s1
    exact PQ.now at_ q2 k
  · subst e
    cases s2
    rw [List.append_nil] at k
    exact PQ.now at_ q1 k
theorem cut_all {as : List D} {lo hi : Option Int} (h : HT.sIx as.length 0 lo = 0 ∧ HT.sIx as.length as.length hi = as.length) : cutD as lo hi = as := by
  unfold cutD
  rw [h.1, h.2]
  simp
theorem sl_tupW {as : List D} {lo hi : Option Int} (k : R (.tup (cutD as lo hi)) m) : SlX X (.tup as) lo hi m R := .mk ⟨_, sl_tupA, fun F H x q at_ => by
  obtain ⟨p, xs, rfl, e1, s1⟩ := tup_read at_.toAt q
  refine ⟨p, xs, rfl, e1, fun e => ?_, fun _ l hl => new_tup at_.toAt hl (s1.cut lo hi) k⟩
  rw [s1.length] at e
  rw [cut_all e] at k
  exact PQ.now at_ q k⟩
/-- a list times an int -/
theorem op_repG : OpR X (binaryOp .Mult) (fun x y H Q => ∃ l k xs, x = .ref l ∧ y = .int k ∧ H l = some (.lst xs) ∧ -(2 ^ 63) ≤ k ∧ k < 2 ^ 63 ∧ xs.length * k.toNat ≤ sizeLine ∧ ∀ p, H p = none → Q (.ref p) (upd H p (.lst (List.replicate k.toNat xs).flatten))) := op_rep
end
section
variable {X : CD} {e o a c : Expr} {es : List Expr} {ρ : Rn} {m : Led} {R : D → Led → Prop} {p p2 pos pos2 apos cpos : Pos} {mg : Str → Option Value} {b : Bool}
theorem rg_dens {K : Frag} {F : Hp} {i j : Int} : Dens K F (rgV i j) (rangeD i (j - i).toNat) := by
  have : rangeD i (j - i).toNat = ((List.range (j - i).toNat).map fun (n : Nat) => i + (n : Int)).map D.int := by
    unfold rangeD
    simp [List.map_map, Function.comp_def]
  rw [this]
  have e : rgV i j = ((List.range (j - i).toNat).map fun (n : Nat) => i + (n : Int)).map V.int := by
    unfold rgV
    simp [List.map_map, Function.comp_def]
  rw [e]
  exact Dens.of_ints
theorem x_tupRg (hml : X.mg "tuple" = none) (hmr : X.mg "range" = none) (h : EX X a ρ m fun d m1 => ∃ j : Int, d = .int j ∧ -100000 ≤ j ∧ j ≤ 100000 ∧ R (.tup (rangeD 0 j.toNat)) m1) (hc : X.calm = true) (hg : Gl X "tuple") (hg2 : Gl X "range") (hs : starEach [a] X.env = (false, eval a X.env) :: starEach [] X.env)
    (hs2 : starEach [.Call (.Name "range" p2) [a] [] pos2] X.env = (false, eval (.Call (.Name "range" p2) [a] [] pos2) X.env) :: starEach [] X.env) : EX X (.Call (.Name "tuple" p) [.Call (.Name "range" p2) [a] [] pos2] [] pos) ρ m R := .mk fun F σ H en at_ =>
  SE.of (pe_tupRg hc hg hml (prg_1 hg2 hmr (pe_SE (e := a)) hs) hs2) (h.go en at_ fun v d F1 m1 H1 s1 en1 q ⟨j, ed, h1, h2, r⟩ => by
    subst ed
    refine ⟨j, q.int_inv, ⟨by omega, by omega, by omega, by omega, by omega⟩, fun l hl => PQ.step s1.st (new_tup s1.at2.toAt hl ?_ r)⟩
    have := rg_dens (K := X.K) (F := F1) (i := 0) (j := j)
    simpa using this)
end
end DL


namespace DL
open PySem PySem.Spec PySem.Calls PyProof.Rows L2 RZ

/-! ### several except clauses, each of which may name the exception, and whose suite returns -/
abbrev Hdl := Value × Option Nat × (Addr → Value → Option Addr → (V → Hp → Prop) → L2.St → Hp → Prop)
/-- what the clauses wish of an exception of the body -/
def wN (K : Frag) (Wout : L2.WX) (rt : V → Hp → Prop) : List Hdl → L2.WX
  | [] => Wout
  | (c, o, ts) :: r => fun cls d σ H => ∃ b, PySem.W.exmOne K cls c = some b ∧ (b = true → ∀ a, H a = none → ts a cls d rt (match o with | none => σ | some i => σ.set i (some (.ref a))) H) ∧ (b = false → wN K Wout rt r cls d σ H)
abbrev RtE (rt : V → Hp → Prop) : Ends := { nx := fun _ _ => False, rt := rt, bk := fun _ _ => False, ct := fun _ _ => False }
inductive HdsN (X : Cx) : List ExceptHandler → List Hdl → Prop
  | nil : HdsN X [] []
  | plain {x : Str} {c : Value} {ts} {b₀ : Stmt} {suite : List Stmt} {np pos' : Pos} {hds : List ExceptHandler} {l : List Hdl} (hc : Names X x c)
      (hsu : ∀ (a : Addr) (oe : Obj) (cls : Value) (d : Option Addr) (pn : List (Addr × Obj)), Zc cls d oe → (∃ vs, oe.data = .fields vs) → PSs (X.suite a ((a, oe) :: pn)) (b₀ :: suite) fun D σ H => ∃ rt, ts a cls d rt σ H ∧ ∀ v H', rt v H' → D.rt v H') (r : HdsN X hds l) :
      HdsN X (.ExceptHandler (some (.Name x np)) none (b₀ :: suite) pos' :: hds) ((c, none, ts) :: l)
  | named {x n : Str} {i : Nat} {c : Value} {ts} {b₀ : Stmt} {suite : List Stmt} {np pos' : Pos} {hds : List ExceptHandler} {l : List Hdl} (hc : Names X x c) (hi : X.N[i]? = some n) (hln : X.env.kindOf n = some .local)
      (hsu : ∀ (a : Addr) (oe : Obj) (cls : Value) (d : Option Addr) (pn : List (Addr × Obj)), Zc cls d oe → (∃ vs, oe.data = .fields vs) → PSs (X.suite a ((a, oe) :: pn)) (b₀ :: suite) fun D σ H => ∃ rt, ts a cls d rt σ H ∧ ∀ v H', rt v H' → D.rt v H') (r : HdsN X hds l) :
      HdsN X (.ExceptHandler (some (.Name x np)) (some n) (b₀ :: suite) pos' :: hds) ((c, some i, ts) :: l)
theorem ps_tryN {X : Cx} {body : List Stmt} {h₀ : ExceptHandler} {hds : List ExceptHandler} {l : List Hdl} {pos : Pos} {tb : L2.WX → TS} {Wout : L2.WX} (hs : X.stack = X.env :: X.outer) (hf : X.env.frame = some X.env.locals) (hN : X.N.Nodup) (tk : Takes X Wout)
    (hb : ∀ (W : L2.WX) (pn : List (Addr × Obj)) (xe : Value → Shared → Prop), Takes (X.tr pn xe) W → PassesOwn (model X.prog X.w) X.A X.env xe → PSs (X.tr pn xe) body (tb W))
    (hh : HdsN X (h₀ :: hds) l) : PS X (.Try body (h₀ :: hds) [] [] pos) (fun D σ H => tb (wN X.K Wout D.rt l) D σ H) := by
  refine ⟨fun pins s σ H D I h => ?_⟩
  have ok := I.ok
  have hfr : X.A.frames = some (X.env :: X.outer) := by rw [ok.frames, hs]
  refine wpAny_Try_except (wpAny_mono ((hb (wN X.K Wout D.rt l) (X.pn ++ pins) (fun e s₁ => wpAny (model X.prog X.w) X.A (noteFrame e X.env) (fun _ s₂ => wpAny (model X.prog X.w) X.A (setFlight e none) (fun _ s₃ =>
    wpAny (model X.prog X.w) X.A (handleBy e X.env (h₀ :: hds)) (SP X pins D) X.xe s₃) X.xe s₂) X.xe s₁) (fun u s' xx => ?_) PassesOwn.looking).run [] s σ H D (I.toTry _) h) (fun f s1 hsp => ?_) (fun e s1 he => he))
  · obtain ⟨a, B, sI, pins', σ', H', cls, d, rfl, J', nb, up, sky, na, os, ag, w⟩ := xx
    have J : Inv X pins σ' H' sI := J'.ofTry ok
    have sky' : Sky B (X.env :: X.outer) a (Zc cls d) X.env.locals s'.heap := by rw [← hs]; exact sky
    show wpAny (model X.prog X.w) X.A (noteFrame (.ref a) X.env) _ _ _
    refine Sky.land Zc.steady hfr hf sky' fun h3 fl3 up3 => ?_
    have J3 : Inv X pins σ' H' { s' with heap := h3 } := J.landed nb fl3.1 (up.trans up3) os ag
    obtain ⟨oe3, vs3, he3, hz3, hd3⟩ := fl3.there
    have nfr : a ∉ frs (X.env :: X.outer) := fun hm => by
      obtain ⟨_, o', e', hnf⟩ := fl3.2.2.1.mem hm
      rw [he3] at e'; cases e'
      exact hnf _ hd3
    have nL : a ≠ X.env.locals := fun z => nfr (List.mem_filterMap.mpr ⟨X.env, List.mem_cons_self, by rw [hf, z]⟩)
    have nF : a ∉ X.fs := fun hm => by
      obtain ⟨e, he, q⟩ := List.mem_filterMap.mp hm
      exact nfr (List.mem_filterMap.mpr ⟨e, List.mem_cons_of_mem _ he, q⟩)
    have S3 := J3.suite he3 hd3 na nL nF
    have test : ∀ {x : Str} {c : Value} {np : Pos}, Names X x c → ∀ {Q : Value → Shared → Prop} {E : Value → Shared → Prop}, Q c { s' with heap := h3 } → wpAny (model X.prog X.w) (X.A.mark (some (.ref a))) (eval (.Name x np) X.env) Q E { s' with heap := h3 } := fun {x c np} hc {Q E} q => by
      obtain ⟨hg, hdbg, hm | ⟨hm, hv, hnn⟩⟩ := hc
      · exact ld_glob (X := X.suite a ((a, oe3) :: (X.pn ++ pins))) S3 hg hm q hdbg
      · exact ld_blt (X := X.suite a ((a, oe3) :: (X.pn ++ pins))) S3 hg hm hv q hnn hdbg
    have LT : PySem.W.Looks (model X.prog X.w) h3 (typeOf (.ref a)) cls := fun A Q E s k q => wpAny_typeOf_ref (k _ _ he3) (by rw [hz3.1]; exact q)
    have go : ∀ {hds' : List ExceptHandler} {l' : List Hdl}, HdsN X hds' l' → wN X.K Wout D.rt l' cls d σ' H' → wpAny (model X.prog X.w) X.A (handleBy (.ref a) X.env hds') (SP X pins D) X.xe { s' with heap := h3 } := by
      intro hds' l' hk
      induction hk with
      | nil =>
        intro w
        refine wpAny_handleBy_nil ?_
        obtain ⟨k1, k2, k3, oe, vs, T, oT, ts', he, hz, hd, h1, hr⟩ := id fl3
        unfold PySem.passOn
        refine wpAny_bind (wpAny_field he hd h1 ?_)
        rw [if_neg (show ¬ ((Value.ref T == Value.none) = true) from by simp)]
        have fin : wpAny (model X.prog X.w) X.A (setFlight (.ref a) X.env.frame) (fun _ s4 => wpAny (model X.prog X.w) X.A (throw (.ref a) : Sem Flow) (SP X pins D) X.xe s4) X.xe { s' with heap := h3 } := by
          rw [hf]
          refine HandSPX.setFlight_upZ fl3 fun h4 hh4 up4 => wpAny_throw (tk _ _ ?_)
          exact ⟨a, B, sI, pins, σ', H', cls, d, rfl, J, nb, (up.trans up3).trans up4, .inr (.inr (by rw [hs]; exact hh4)), na, os, ag, w⟩
        first
          | exact wpAny_bind (wpAny_pure (wpAny_bind fin))
          | exact wpAny_bind fin
      | @plain x c ts b₀ suite np pos' hds2 l2 hc hsu r ih =>
        intro w
        obtain ⟨b, hb1, hyes, hno⟩ := w
        refine wpAny_handleBy_cons (codeAny_handlers_test (test hc ((PySem.W.exm_one (M := model X.prog X.w) J3.kIn LT hb1).here ?_))) (by intro q; cases q)
        cases b with
        | true =>
          refine codeAny_handlers_suite (HandSPX.lands_againZ fl3 fun h4 fl4 up4 => ?_)
          have J4 : Inv X pins σ' H' { s' with heap := h4 } := J.landed nb fl4.1 ((up.trans up3).trans up4) os ag
          obtain ⟨oe4, vs4, he4, hz4, hd4⟩ := fl4.there
          refine wpAny_mono ((hsu a oe4 cls d (X.pn ++ pins) hz4 ⟨_, hd4⟩).run [] _ _ H' (RtE D.rt) (J4.suite he4 hd4 na nL nF) ⟨_, hyes rfl a na, fun _ _ z => z⟩) (fun f s6 hsp => ?_) (fun _ _ z => False.elim z)
          cases f with
          | next => obtain ⟨_, _, _, z⟩ := hsp; exact z.elim
          | brk => obtain ⟨_, _, _, z⟩ := hsp; exact z.elim
          | cont => obtain ⟨_, _, _, z⟩ := hsp; exact z.elim
          | ret u =>
            obtain ⟨v6, σ6, H6, S6, r6, q6⟩ := hsp
            exact ⟨_, _, _, S6.unsuite ok, r6, q6⟩
        | false =>
          show wpAny _ X.A (handleBy (.ref a) X.env hds2) _ _ _
          exact ih (hno rfl)
      | @named x n i c ts b₀ suite np pos' hds2 l2 hc hi hln hsu r ih =>
        intro w
        obtain ⟨b, hb1, hyes, hno⟩ := w
        refine wpAny_handleBy_cons (codeAny_handlers_test (test hc ((PySem.W.exm_one (M := model X.prog X.w) J3.kIn LT hb1).here ?_))) (by intro q; cases q)
        cases b with
        | true =>
          refine codeAny_handlers_suite_as (HandSPX.lands_againZ fl3 fun h4 fl4 up4 => ?_)
          have J4 : Inv X pins σ' H' { s' with heap := h4 } := J.landed nb fl4.1 ((up.trans up3).trans up4) os ag
          obtain ⟨oe4, vs4, he4, hz4, hd4⟩ := fl4.there
          refine store_ok (X := X.suite a ((a, oe4) :: (X.pn ++ pins))) (v := .ref a) (J4.suite he4 hd4 na nL nF) hN hi (.inl hln) rfl (fun s5 S5 => ?_) (.inr hln)
          refine wpAny_mono ((hsu a oe4 cls d (X.pn ++ pins) hz4 ⟨_, hd4⟩).run [] s5 _ H' (RtE D.rt) S5 ⟨_, hyes rfl a na, fun _ _ z => z⟩) (fun f s6 hsp => ?_) (fun _ _ z => False.elim z)
          cases f with
          | next => obtain ⟨_, _, _, z⟩ := hsp; exact z.elim
          | brk => obtain ⟨_, _, _, z⟩ := hsp; exact z.elim
          | cont => obtain ⟨_, _, _, z⟩ := hsp; exact z.elim
          | ret u =>
            obtain ⟨v6, σ6, H6, S6, r6, q6⟩ := hsp
            exact gone_ok (S6.unsuite ok) hN hi hln fun s7 J7 => ⟨_, _, _, J7, r6, q6⟩
        | false =>
          show wpAny _ X.A (handleBy (.ref a) X.env hds2) _ _ _
          exact ih (hno rfl)
    exact go hh w
  · cases f with
    | next =>
      obtain ⟨σ', H', J', q⟩ := hsp
      exact wpAny_execs_nil ⟨σ', H', J'.ofTry ok, q⟩
    | brk =>
      obtain ⟨σ', H', J', q⟩ := hsp
      exact ⟨σ', H', J'.ofTry ok, q⟩
    | cont =>
      obtain ⟨σ', H', J', q⟩ := hsp
      exact ⟨σ', H', J'.ofTry ok, q⟩
    | ret u =>
      obtain ⟨v, σ', H', J', r, q⟩ := hsp
      exact ⟨v, σ', H', J'.ofTry ok, r, q⟩
end DL


namespace DL
open PySem PySem.Spec PySem.Calls PyProof.Rows L2 RZ

/-! ### the whole ledger frozen for a while -/
mutual
def noL : D → Bool
  | .non => true
  | .bl _ => true
  | .int _ => true
  | .str _ => true
  | .ty _ => true
  | .ref _ => true
  | .tup xs => noLs xs
  | _ => false
def noLs : List D → Bool
  | [] => true
  | x :: xs => noL x && noLs xs
end
def isTp : HO → Bool
  | .tup _ => true
  | .frz _ _ => true
  | _ => false
def Nt (F F' : Hp) : Prop := ∀ b o, F b = some o → isTp o = true → F' b = some o
section
variable {K : Frag} {F F' : Hp}
theorem Nt.sqT {a : Addr} {xs : List V} (n : Nt F F') (h : SqT K F a xs) : SqT K F' a xs := by
  rcases h with h | h
  · rcases h with h | ⟨o, h⟩
    · exact .inl (.inl (n a _ h rfl))
    · exact .inl (.inr ⟨o, n a _ h rfl⟩)
  · exact .inr h
theorem noL_tup {ds : List D} (h : noL (.tup ds) = true) : noLs ds = true := by simpa only [noL] using h
theorem noLs_cons {d : D} {ds : List D} (h : noLs (d :: ds) = true) : noL d = true ∧ noLs ds = true := by simpa only [noLs, Bool.and_eq_true] using h
mutual
theorem Den.nt (n : Nt F F') : ∀ {v : V} {d : D}, Den K F v d → noL d = true → Den K F' v d
  | _, _, .non, _ => .non
  | _, _, .bl b, _ => .bl b
  | _, _, .int i, _ => .int i
  | _, _, .str x, _ => .str x
  | _, _, .ty t, _ => .ty t
  | _, _, .ref a, _ => .ref a
  | _, _, .tup h hs, e => .tup (n.sqT h) (Dens.nt n hs (noL_tup e))
  | _, _, .lst .., e => by simp [noL] at e
  | _, _, .lsk .., e => by simp [noL] at e
  | _, _, .dI .., e => by simp [noL] at e
  | _, _, .dK .., e => by simp [noL] at e
  | _, _, .obj .., e => by simp [noL] at e
  | _, _, .exc .., e => by simp [noL] at e
  | _, _, .cls h, _ => .cls h
theorem Dens.nt (n : Nt F F') : ∀ {vs : List V} {ds : List D}, Dens K F vs ds → noLs ds = true → Dens K F' vs ds
  | _, _, .nil, _ => .nil
  | _, _, .cons h hs, e => .cons (Den.nt n h (noLs_cons e).1) (Dens.nt n hs (noLs_cons e).2)
end
theorem MDen.ntp {a : Addr} : ∀ {o : MO} {h : HO}, MDen K F a o h → isTp h = false
  | .lst _, _, ⟨xs, q, hs⟩ => by rw [q]; rfl
  | .ins .., _, ⟨C, fs, q, nm, k, hs⟩ => by rw [q]; rfl
  | .own _, _, q => by rw [q]; rfl
  | .dI .., _, ⟨o, xs, vs, q, d, k, t, v, hs⟩ => by rw [q]; rfl
  | .dK .., _, ⟨fs, q, k, hs⟩ => by rw [q]; rfl
open Classical in
def frzA (F : Hp) (m : Led) (H : Hp) : Hp := fun b => if b ∈ keys m then H b else F b
open Classical in
def cutA (F : Hp) (m : Led) : Hp := fun b => if b ∈ keys m then none else F b
variable {H H2 F2 : Hp} {m : Led}
theorem dis_key (a : At K F m H) {b : Addr} (h : b ∈ keys m) : F b = none := by
  obtain ⟨q, hq, rfl⟩ := List.mem_map.mp h
  exact a.dis q hq
theorem Step.frzA (a : At K F m H) : Step K F m H (frzA F m H) [] H := by
  refine ⟨⟨fun b u e => ?_, fun q hq => (nomatch hq), fun q hq => (nomatch hq), List.nodup_nil⟩, fun b u e => ?_, fun _ _ e _ => e, fun b u e n => ?_, fun b hb => (nomatch hb)⟩
  · unfold DL.frzA at e
    split at e
    · exact e
    · exact a.sub b u e
  · unfold DL.frzA
    rw [if_neg (fun z => by rw [dis_key a z] at e; cases e)]
    exact e
  · unfold DL.frzA at e
    split at e
    · rename_i h; exact .inr h
    · rw [n] at e; cases e
theorem Step.cutA (a : At K F m H) (s : Step K (DL.frzA F m H) [] H F2 [] H2) : Step K F m H (cutA F2 m) m H2 ∧ Nt F2 (DL.cutA F2 m) := by
  have ex : Ex F (DL.cutA F2 m) := fun b u e => by
    have nk : b ∉ keys m := fun z => by rw [dis_key a z] at e; cases e
    unfold DL.cutA
    rw [if_neg nk]
    exact s.ex b u (by unfold DL.frzA; rw [if_neg nk]; exact e)
  refine ⟨⟨⟨fun b u e => ?_, fun q hq => ?_, fun q hq => if_pos (List.mem_map.mpr ⟨q, hq, rfl⟩), a.nod⟩, ex, fun b u e _ => s.keep b u e (fun z => nomatch z), fun b u e n => ?_, fun b hb => .inl hb⟩, fun b u e t => ?_⟩
  · unfold DL.cutA at e
    split at e
    · cases e
    · exact s.at2.sub b u e
  · obtain ⟨hh, e1, e2⟩ := a.led q hq
    exact ⟨hh, e1.mono ex, s.keep _ _ e2 (fun z => nomatch z)⟩
  · unfold DL.cutA at e
    split at e
    · cases e
    · rename_i nk
      rcases s.frF b u e (by unfold DL.frzA; rw [if_neg nk]; exact n) with h | h
      · exact .inl h
      · exact nomatch h
  · unfold DL.cutA
    split
    · rename_i h
      exfalso
      obtain ⟨q, hq, rfl⟩ := List.mem_map.mp h
      obtain ⟨hh, e1, e2⟩ := a.led q hq
      have := s.ex q.1 hh (by unfold DL.frzA; rw [if_pos h]; exact e2)
      rw [e] at this
      cases this
      rw [e1.ntp] at t
      cases t
    · exact e
end
section
variable {X : CD} {e : Expr} {ρ ρ' : Rn} {m : Led} {R : D → Led → Prop} {x : Str} {i n : Nat} {p : Addr} {ds : List D}
end
end DL


namespace DL
open PySem PySem.Spec PySem.Calls PyProof.Rows L2 RZ

/-! ### dict of pairs with bare int keys -/
def pairK (p : Int × D) : D := .tup [.int p.1, p.2]
section
variable {X : CD} {m : Led} {R : D → Led → Prop} {d : D}
end
end DL


namespace DL
open PySem PySem.Spec PySem.Calls PyProof.Rows L2 RZ
open AutoSeq1 (wpAny_loadPart')

/-! ### sorted of a tuple of ints -/
section
variable {prog : Program} {w : World} {A : Around} {E : Value → Shared → Prop} {s : Shared}
theorem collect_tup {l : Addr} {vs : List Value} {Q : List Value → Shared → Prop} (hl : s.heap.IsTuple l vs.toArray)
    (h : Q vs { s with heap := (s.heap.push (seqObj "list" #[] 0)).update s.heap.objs.size (Obj.mapSeq (· ++ vs.toArray)) }) (hsz : vs.length ≤ sizeLine) :
    wpAny (model prog w) A (collect (.ref l)) Q E s := by
  obtain ⟨o, ho, hc, n, hd⟩ := id hl
  unfold collect
  refine wpAny_bind (wpAny_runValue (codeAny_builtin entry_proto_collect' ?_))
  show wpAny _ _ (do again (.builtin "list.__iadd__" ⟨[← newList [], .ref l], []⟩)) _ _ s
  refine wpAny_bind (wpAny_newList (wpAny_pure ⟨Code.quiet_builtin _ (by decide +kernel), codeAny_builtin entry_list_iadd' ?_⟩))
  show wpAny _ _ (Builtin.List.listExtendWith (.ref s.heap.objs.size) (.ref l) (.ref s.heap.objs.size)) _ _ { s with heap := s.heap.push (seqObj "list" #[] 0) }
  unfold Builtin.List.listExtendWith
  have ho' : (s.heap.push (seqObj "list" #[] 0)).get? l = some o := Heap.get?_push_of_some _ ho
  refine wpAny_bind (wpAny_typeOf (T := "tuple") ⟨o, ho', hc⟩ ?_)
  have ht : (Value.type "tuple" == Value.type "tuple") = true := by rfl
  rw [if_pos (by rw [ht]; simp)]
  refine wpAny_bind (listItems_at ho' hd ?_)
  refine wpAny_bind (listItems_at (xs := #[]) (n := 0) (Heap.get?_push_size _ rfl) rfl ?_)
  rw [if_neg (by simp)]
  refine wpAny_bind (listUpdate_at (xs := #[]) (n := 0) (Heap.get?_push_size _ rfl) rfl ?_ (Nat.zero_le _) (by show (#[] ++ vs.toArray).size ≤ sizeLine + 1; simp only [Array.size_append, List.size_toArray, List.length_nil]; omega))
  refine wpAny_pure ?_
  show wpAny (model prog w) A (do
      let o ← load s.heap.objs.size
      match o.data with
      | .seq xs _ => pure xs.toList
      | _ => unsupported "internal:collect") Q E { s with heap := (s.heap.push (seqObj "list" #[] 0)).update s.heap.objs.size (Obj.mapSeq (· ++ vs.toArray)) }
  refine wpAny_bind (wpAny_load (get?_update_seq (Heap.get?_push_size _ rfl) _) ?_)
  show wpAny _ _ (pure ((#[] : Array Value) ++ vs.toArray).toList) Q E _
  rw [show ((#[] : Array Value) ++ vs.toArray).toList = vs by simp]
  exact wpAny_pure h
theorem sorted_ordT {l : Addr} {vs : List Value} {ltv : Value → Value → Bool} {Q : Value → Shared → Prop} (O : SrtO.Swo ltv) (hl : s.heap.IsTuple l vs.toArray) (hz : vs.length ≤ sizeLine)
    (hS : 2 ≤ vs.length → ∀ (h₁ : Heap) (a : Addr), SrtO.SortableO prog w A.in1.in1 { s with heap := h₁ } a vs ltv)
    (h : ∀ out : List Value, SrtO.Srtd ltv out → SrtO.Stb ltv out vs → Q (.ref (s.heap.objs.size + 1)) { s with heap := sortedAll s.heap vs out.toArray }) :
    wpAny (model prog w) A (call (.builtin "sorted") [.ref l]) Q E s := by
  refine Calls.call_function_entry kind_sorted plain_sorted entry_sorted (args_sorted1 _) ?_
  unfold Builtin.«sorted»
  refine wpAny_bind (m := checkCount "sorted" 1 1 _) (wpAny_pure ?_)
  refine wpAny_bind (collect_tup hl ?_ hz)
  refine wpAny_bind (wpAny_newList ?_ hz)
  have hsz : ((s.heap.push (seqObj "list" #[] 0)).update s.heap.objs.size (Obj.mapSeq (· ++ vs.toArray))).objs.size = s.heap.objs.size + 1 := by
    rw [Heap.size_update, size_push']
  have hoL : (((s.heap.push (seqObj "list" #[] 0)).update s.heap.objs.size (Obj.mapSeq (· ++ vs.toArray))).push (seqObj "list" vs.toArray 0)).get? (s.heap.objs.size + 1) = some (seqObj "list" vs.toArray 0) := by
    rw [← hsz]; exact Heap.get?_push_size _ rfl
  show wpAny _ _ _ _ _ { s with heap := ((s.heap.push (seqObj "list" #[] 0)).update s.heap.objs.size (Obj.mapSeq (· ++ vs.toArray))).push (seqObj "list" vs.toArray 0) }
  rw [hsz]
  refine wpAny_bind (wpAny_holding (wpAny_call_entry slot_list_sort ⟨_, hoL, rfl⟩ entry_list_sort (SrtO.list_sort_ord O hoL hz (fun h2 => hS h2 _ _) fun out hs hb => ⟨_, rfl, ?_⟩) (args_list_sort _)))
  exact wpAny_pure ⟨_, rfl, h out hs hb⟩
end
def rSortedT (K : Frag) : List V → Hp → VK → Prop := fun vs H Q => ∃ (a : Addr) (ns : List Int), vs = [V.ref a] ∧ SqT K H a (ns.map V.int) ∧
  ∀ (ns' : List Int) (p : Addr), ns'.Perm ns → ns'.Pairwise (· ≤ ·) → H p = none → Q (.ref p) (upd H p (.lst (ns'.map V.int)))
theorem cr_sortedIT {X : Cx} : CallR X (.builtin "sorted") (rSortedT X.K) := by
  intro pins s σ H vs us Q I r h
  obtain ⟨a, ns, rfl, hs, q⟩ := h
  obtain ⟨its, rv, hl, hz⟩ := I.tuple hs
  rw [Vals.ref1 r]
  have hi := rv.ints
  refine sorted_ordT SrtO.swo_int (show s.heap.IsTuple a its.toArray from hl) (by rw [← rv.length]; exact hz) (fun h2 h₁ a' => SrtO.ints_sortable hi h2) fun out h1 h2 => ?_
  obtain ⟨k1, k2, k3⟩ := SrtO.ints_out hi h1 h2
  obtain ⟨ep, he'⟩ := PyProof.Rows.sortedAll_at s.heap its out.toArray
  have hlen : ((out.map SrtO.iv).map V.int).length ≤ sizeLine := by
    rw [List.length_map, k2.length_eq]
    rw [List.length_map] at hz
    exact hz
  exact ⟨.ref _, upd H (s.heap.objs.size + 1) (.lst ((out.map SrtO.iv).map V.int)), I.laid (t' := s.toks) (fun _ _ => PyProof.Rows.sortedAll_old) (Nat.le_succ _) ⟨hlen, out, ep, vals_of_ints k1, he'⟩, rfl, q _ _ k2 k3 (I.hok.fresh (Nat.le_succ _))⟩
section
variable {X : CD} {m : Led} {R : D → Led → Prop} {b : Bool}
theorem b_sortIT {ns : List Int} (k : ∀ ns' : List Int, ns'.Perm ns → ns'.Pairwise (· ≤ ·) → RNewL R m (ns'.map D.int) b) : BX X (.builtin "sorted") [.tup (ns.map D.int)] m R := BX.of cr_sortedIT fun F H xs qs at_ => by
  obtain ⟨v, rfl, q⟩ := qs.one
  obtain ⟨p, ys, rfl, e1, s1⟩ := tup_read at_.toAt q
  exact ⟨p, ns, rfl, by rw [← s1.ints]; exact e1, fun ns' l h1 h2 h3 => new_lstB at_.toAt h3 Dens.of_ints (k ns' h1 h2)⟩
end
/-! ### enumerate of a tuple -/
section
variable {prog : Program} {w : World} {A : Around} {E : Value → Shared → Prop} {s : Shared}
end
def IteT (K : Frag) (a : Addr) : It :=
  ⟨fun i H => ∃ (xs : List V) (x : V), SqT K H a xs ∧ xs[i]? = some x, fun i H v H' => ∃ T x, v = .ref T ∧ H T = none ∧ H' = upd H T (.tup [.int (i : Nat), x]) ∧ ∀ xs, SqT K H a xs → xs[i]? = some x, fun i H => ∃ xs : List V, SqT K H a xs ∧ xs.length ≤ i⟩
def iEnumT (K : Frag) (ta : TA) : TI := fun σ H R => ta σ H fun vs H1 => ∃ a xs, vs = [.ref a] ∧ ((SqL K H1 a xs ∧ R (Ite K a) H1) ∨ (SqT K H1 a xs ∧ R (IteT K a) H1))
section
variable {X : CD} {a : Expr} {ρ : Rn} {m : Led} {R : List D → Led → Prop} {p pos tpos : Pos}
end
end DL


namespace DL
open PySem PySem.Spec PySem.Calls PyProof.Rows L2 RZ

/-! ### operators of own classes: they may raise -/
structure OE (X : CD) (f : Value → Value → Sem Value) (d1 d2 : D) (ρ : Rn) (m : Led) (R : D → Led → Prop) : Prop where
  run : ∀ F σ H x y pins s v u, Env X F σ ρ → Den X.K F x d1 → Den X.K F y d2 → AtX X F m H → Inv X pins σ H s → RelV x v → RelV y u →
  wpAny (model X.prog X.w) X.A (f v u) (EP X pins σ (PQ X.K F m H R)) X.xe s
structure UE (X : CD) (f : Value → Sem Value) (d1 : D) (ρ : Rn) (m : Led) (R : D → Led → Prop) : Prop where
  run : ∀ F σ H x pins s v, Env X F σ ρ → Den X.K F x d1 → AtX X F m H → Inv X pins σ H s → RelV x v →
  wpAny (model X.prog X.w) X.A (f v) (EP X pins σ (PQ X.K F m H R)) X.xe s
section
variable {X : CD} {a b e : Expr} {ρ : Rn} {m : Led} {R : D → Led → Prop} {E : Str → Option (Str × D) → Led → Prop} {cn mt : Str} {pos : Pos} {k n : Nat} {sp : SpX} {d d1 d2 : D} {f : Value → Value → Sem Value} {g : Value → Sem Value}
theorem OE.mono {R' : D → Led → Prop} (h : OE X f d1 d2 ρ m R) (kk : ∀ d m, R d m → R' d m) : OE X f d1 d2 ρ m R' := .mk fun F σ H x y pins s v u en q1 q2 at_ I rx ry => thn (h.run F σ H x y pins s v u en q1 q2 at_ I rx ry) fun w s3 ⟨v3, H3, I3, r3, d, F3, m3, st, q, k⟩ => ⟨v3, H3, I3, r3, d, F3, m3, st, q, kk _ _ k⟩
/-- own op own -/
abbrev OwnF (K : Frag) (cn : Str) : Prop := ∀ C, CnIs K cn C → PySem.W.selfFirst K C = true
/-- own op int -/
structure IntF (K : Frag) (cn : Str) (nm : String) : Prop where
  ok : ∀ C, CnIs K cn C → PySem.W.selfFirst K C = true ∧ PySem.W.findIn K (.ref C) (PySem.dunderR nm) = some none ∧ (∃ fo, PySem.W.findIn K (.type "int") (PySem.dunder nm) = some fo) ∧ (∃ ro, PySem.W.findIn K (.type "int") (PySem.dunderR nm) = some ro) ∧ PySem.W.subIn K (.type "int") (.ref C) = some false
end
end DL


namespace DL
open PySem PySem.Spec PySem.Calls PyProof.Rows L2 RZ

/-! ### {} and {k: v}: keys that are tuples of ints -/
section
variable {X : CD} {kx vx : Expr} {ρ : Rn} {m : Led} {R : D → Led → Prop} {pos : Pos} {b : Bool}
def tNewD : TE := fun σ H Q => ∀ p o, H p = none → DictObj p o [] → Q (.ref p) (upd H p (objO p o))
theorem laid_eD {pins : List (Addr × Obj)} {σ : L2.St} {H : Hp} {s : Shared} (I : Inv X.toCx pins σ H s) : H s.heap.objs.size = none ∧ DictObj s.heap.objs.size eD [] ∧ Inv X.toCx pins σ (upd H s.heap.objs.size (objO s.heap.objs.size eD)) { s with heap := s.heap.push eD } := by
  refine ⟨I.hok.fresh (Nat.le_refl _), emptyDict_obj (beq_eq_false_iff_ne.mpr (Nat.ne_of_gt I.big)), ?_⟩
  exact I.laid (t' := s.toks) (fun b o e => Heap.get?_push_of_some _ e) (Nat.le_refl _) (objO_ok (Heap.get?_push_size _ rfl))
theorem pe_newD : PE X.toCx (.Dict [] [] pos) tNewD := ⟨fun pins s σ H Q I h => by
  rw [eval_Dict_empty]
  refine wpAny_bind (wpAny_standAt ?_)
  obtain ⟨h1, h2, h3⟩ := laid_eD I
  refine wpAny_newObj_type ?_
  exact ⟨.ref _, _, h3, rfl, h _ _ h1 h2⟩⟩
theorem dicX_nil {K : Frag} {F : Hp} : DicX K F [] [] [] := ⟨[], rfl, by simp, .nil, .nil⟩
theorem x_newD (k : RNew R m [] [] b) : EX X (.Dict [] [] pos) ρ m R := .mk fun F σ H en at_ => SE.of pe_newD fun p o hp hd => new_dict at_.toAt hp dicX_nil hd k
end
end DL


namespace DL
open PySem PySem.Spec PySem.Calls PyProof.Rows L2 RZ

/-! ### own __iter__ that tells iter(self.f), f a list -/
/-- a def whose promise may tell of the heap's size where it is called -/
structure FnOkS (P : Program) (w : World) (K : Frag) (mg : Str → Option Value) (base : Heap) (CX : CXT) (k : Nat) (f : Addr) (fd : FuncData) (ps : List Str) (sp : Nat → Sp) : Prop where
  len : ∀ n vs H Q E, sp n vs H Q E → vs.length = ps.length
  run : ∀ (A : Around) (outer : List PySem.Env) (s : Shared) (H : Hp) (args : Args) (us : List Value) (vs : List V) (Q : VK) (E : XK), Room k A → Env0 P w K mg base A outer s H → BindsTo s fd args (ps.zip us) → Vals vs us → sp s.heap.objs.size vs H Q E →
    codeAny (model P w) A (.call (.ref f) args) (CR CX outer P w H s Q E) s
/-- what __iter__ promises: a new iterator over the list in its field -/
def spIter (K : Frag) (cn fld : Str) (n : Nat) : Sp := fun vs H Q _ => ∃ (x C dx : Addr) (fs : List (Str × V)) (l : Addr) (zs : List V), vs = [.ref x] ∧ H x = some (.ins C dx fs) ∧ CnIs K cn C ∧ fs.lookup fld = some (.ref l) ∧ SqL K H l zs ∧ ∀ it, H it = none → n ≤ it → Q (.ref it) (upd H it (ItO l it 0))
section
variable {P : Program} {w : World} {K : Frag} {mg : Str → Option Value} {base : Heap}
end
/-- an own class whose __iter__ is such a one -/
structure KnowsI (P : Program) (w : World) (K : Frag) (mg : Str → Option Value) (base : Heap) (k : Nat) (cn fld : Str) : Prop where
  fn : ∃ C f fd, FnOkS P w K mg base CX0 k f fd ["self"] (spIter K cn fld) ∧ CnIs K cn C ∧ Meth K C "__iter__" f ∧ Binds K fd ["self"] []
section
variable {X : CD} {tg it : Expr} {ρ : Rn} {m : Led} {R : List D → Led → Prop} {cn fld : Str} {k : Nat}
def iOwn (X : Cx) (cn fld : Str) (it : Expr) : TI := fun σ H R => SE X it σ H fun x H1 => ∃ (a C dx : Addr) (fs : List (Str × V)) (l : Addr) (zs : List V), x = .ref a ∧ H1 a = some (.ins C dx fs) ∧ CnIs X.K cn C ∧ fs.lookup fld = some (.ref l) ∧ SqL X.K H1 l zs ∧ R (Itl X.K l) H1
end
/-! ### x in o, x not in o -/
section
variable {X : CD} {a b e : Expr} {ρ : Rn} {m : Led} {R : D → Led → Prop} {E : Str → Option (Str × D) → Led → Prop} {cn : Str} {k n : Nat} {sp : SpX} {d1 d2 : D} {ns : List Str} {vs : List D}
end
end DL


namespace DL
open PySem PySem.Spec PySem.Calls PyProof.Rows L2 RZ

/-! ### own __len__ that tells len(self.f), f a list -/
def spLen (K : Frag) (cn fld : Str) (_ : Nat) : Sp := fun vs H Q _ => ∃ (x C dx : Addr) (fs : List (Str × V)) (l : Addr) (zs : List V), vs = [.ref x] ∧ H x = some (.ins C dx fs) ∧ CnIs K cn C ∧ fs.lookup fld = some (.ref l) ∧ SqL K H l zs ∧ Q (.int zs.length) H
section
variable {P : Program} {w : World} {K : Frag} {mg : Str → Option Value} {base : Heap}
end
structure KnowsL (P : Program) (w : World) (K : Frag) (mg : Str → Option Value) (base : Heap) (k : Nat) (cn fld : Str) : Prop where
  fn : ∃ C f fd, FnOkS P w K mg base CX0 k f fd ["self"] (spLen K cn fld) ∧ CnIs K cn C ∧ Meth K C "__len__" f ∧ Binds K fd ["self"] []
section
variable {X : CD} {m : Led} {cn fld : Str} {k : Nat} {pins : List (Addr × Obj)} {σ : L2.St} {H : Hp} {s : Shared} {a C dx l q : Addr} {fs : List (Str × V)} {zs : List V} {A : Around}
end
section
variable {X : CD} {cn fld : Str} {k : Nat}
variable {m : Led} {R : D → Led → Prop} {d : D} {ds : List D} {ns : List Str} {vs : List D} {b : Bool}
end
end DL


namespace DL
open PySem PySem.Spec PyProof.Rows L2 RZ

/-! ### what a piece of code does, over data: what is wanted of the value and of what is raised -/
abbrev XR := Str → Option (Str × D) → Led → Prop
abbrev M (α : Type) := Led → (α → Led → Prop) → XR → Prop
def ret {α : Type} (a : α) : M α := fun m R _ => R a m
def bnd {α β : Type} (c : M α) (k : α → M β) : M β := fun m R E => c m (fun a m' => k a m' R E) E
def bad {α : Type} : M α := fun _ _ _ => False
def iteM {α : Type} (k : Bool) (a b : M α) : M α := fun m R E => (k = true → a m R E) ∧ (k = false → b m R E)
/-- what is raised is wished for by the context -/
abbrev XA (X : CD) (ρ : Rn) (E : XR) : Prop := ∀ nm fd m2, E nm fd m2 → X.xq nm fd ρ m2
abbrev XF (X : CD) (E : XR) : Prop := ∀ ρ nm fd m2, E nm fd m2 → X.xq nm fd ρ m2

/-! ### judgements -/
structure Ev (X : CD) (e : Expr) (ρ : Rn) (c : M D) : Prop where
  run : ∀ m R E, XA X ρ E → c m R E → EX X e ρ m R
structure Tv (X : CD) (e : Expr) (ρ : Rn) (c : M Bool) : Prop where
  run : ∀ m R E, XA X ρ E → c m R E → TX X e ρ m R
structure Wv (X : CD) (e : Expr) (ρ : Rn) (c : M Bool) : Prop where
  run : ∀ m R E, XA X ρ E → c m R E → WX X e ρ m R
structure EvA (X : CD) (es : List Expr) (ρ : Rn) (c : M (List D)) : Prop where
  run : ∀ m R E, XA X ρ E → c m R E → AX X es ρ m R
structure EvO (X : CD) (o : Option Expr) (ρ : Rn) (c : M (Option Int)) : Prop where
  run : ∀ m R E, XA X ρ E → c m R E → PX X o ρ m R
structure Iv (X : CD) (tg it : Expr) (ρ : Rn) (c : M (List D)) : Prop where
  run : ∀ m R E, XA X ρ E → c m R E → IX X tg it ρ m R
theorem AX.mono {X : CD} {es : List Expr} {ρ : Rn} {m : Led} {R R' : List D → Led → Prop} (h : AX X es ρ m R) (q : ∀ d m', R d m' → R' d m') : AX X es ρ m R' := .mk fun F σ H en a => (h.run F σ H en a).mono fun v H1 ⟨d, F1, m1, s, k, r⟩ => ⟨d, F1, m1, s, k, q d m1 r⟩
theorem WX.mono {X : CD} {e : Expr} {ρ : Rn} {m : Led} {R R' : Bool → Led → Prop} (h : WX X e ρ m R) (q : ∀ d m', R d m' → R' d m') : WX X e ρ m R' := .mk fun F σ H en a => (h.run F σ H en a).mono fun v H1 ⟨F1, m1, s, r⟩ => ⟨F1, m1, s, q v m1 r⟩
theorem IX.mono {X : CD} {tg it : Expr} {ρ : Rn} {m : Led} {R R' : List D → Led → Prop} (h : IX X tg it ρ m R) (q : ∀ d m', R d m' → R' d m') : IX X tg it ρ m R' := .mk fun F σ H en a => (h.run F σ H en a).mono fun v H1 ⟨d, F1, m1, s, r, w⟩ => ⟨d, F1, m1, s, q d m1 r, w⟩
theorem PX.mono {X : CD} {o : Option Expr} {ρ : Rn} {m : Led} {R R' : Option Int → Led → Prop} (h : PX X o ρ m R) (q : ∀ d m', R d m' → R' d m') : PX X o ρ m R' := by
  cases o with
  | none => exact q _ _ h
  | some e => exact EX.mono h fun d m' ⟨i, e, r⟩ => ⟨i, e, q _ _ r⟩

/-! ### operations over data -/
def noneM : M D := ret .non
/-- a list of the ledger or a frozen one -/
def lstM (d : D) : M (List D) := fun m R _ => match d with
  | .lst ds => R ds m
  | .ref a => ∃ (n : Nat) (ds : List D), m[n]? = some (a, .lst ds) ∧ R ds m
  | _ => False
theorem lstM_v {d : D} {m R E} (h : lstM d m R E) : ∃ ds, LstV m d ds ∧ R ds m := by
  cases d <;> try exact h.elim
  · exact ⟨_, .inl rfl, h⟩
  · obtain ⟨n, ds, h1, h2⟩ := h
    exact ⟨ds, .inr ⟨n, _, rfl, h1⟩, h2⟩
def isSeqD : D → Bool
  | .lst _ => true
  | .ref _ => true
  | _ => false
def addM (a b : D) : M D := fun m R E => match a, b with
  | .int i, .int j => R (.int (i + j)) m
  | .lst as, .lst bs => as.length + bs.length ≤ 100000 ∧ R (.lst (as ++ bs)) m
  | .lst as, .ref b => lstM (.ref b) m (fun bs m' => as.length + bs.length ≤ 100000 ∧ R (.lst (as ++ bs)) m') E
  | .ref a, .lst bs => lstM (.ref a) m (fun as m' => as.length + bs.length ≤ 100000 ∧ R (.lst (as ++ bs)) m') E
  | .tup as, .tup bs => as.length + bs.length ≤ 100000 ∧ R (.tup (as ++ bs)) m
  | _, _ => False
/-- a + b, the new list to be changed -/
def addMM (a b : D) : M D := fun m R E => lstM a m (fun as m1 => lstM b m1 (fun bs m2 => as.length + bs.length ≤ 100000 ∧ ∀ p, R (.ref p) (m2 ++ [(p, .lst (as ++ bs))])) E) E
def subM (a b : D) : M D := fun m R _ => match a, b with
  | .int i, .int j => R (.int (i - j)) m
  | _, _ => False
def mulM (a b : D) : M D := fun m R _ => match a, b with
  | .int i, .int j => IntMulOk i j ∧ R (.int (i * j)) m
  | _, _ => False
def fdivM (a b : D) : M D := fun m R _ => match a, b with
  | .int i, .int j => CDivG i j ∧ R (.int (i.fdiv j)) m
  | _, _ => False
def modM (a b : D) : M D := fun m R _ => match a, b with
  | .int i, .int j => j ≠ 0 ∧ R (.int (i.fmod j)) m
  | _, _ => False
def powM (a b : D) : M D := fun m R _ => match a, b with
  | .int i, .int j => CPow i j ∧ R (.int (i ^ j.toNat)) m
  | _, _ => False
def binM (op : Operator) (a b : D) : M D := match op with
  | .Add => addM a b
  | .Sub => subM a b
  | .Mult => mulM a b
  | .FloorDiv => fdivM a b
  | .Mod => modM a b
  | .Pow => powM a b
  | _ => bad
section
variable {X : CD} {m : Led} {R : D → Led → Prop} {E : XR} {a b : D}
theorem addM_ok (h : addM a b m R E) : OX X (binaryOp .Add) a b m R := by
  cases a <;> cases b <;> try exact h.elim
  · exact o_add h
  · exact o_cat (.inl rfl) (.inl rfl) h.1 h.2
  · obtain ⟨n, ds, h1, h2, h3⟩ := h
    exact o_cat (.inl rfl) (.inr ⟨n, _, rfl, h1⟩) h2 h3
  · exact o_catT h.1 h.2
  · obtain ⟨n, ds, h1, h2, h3⟩ := h
    exact o_cat (.inr ⟨n, _, rfl, h1⟩) (.inl rfl) h2 h3
theorem binM_ok {op : Operator} (h : binM op a b m R E) : OX X (binaryOp op) a b m R := by
  cases op <;> try exact h.elim
  · exact addM_ok h
  · have h : subM a b m R E := h
    cases a <;> cases b <;> try exact h.elim
    exact o_sub h
  · have h : mulM a b m R E := h
    cases a <;> cases b <;> try exact h.elim
    exact o_mul h.1 h.2
  · have h : modM a b m R E := h
    cases a <;> cases b <;> try exact h.elim
    exact o_modN h.1 h.2
  · have h : powM a b m R E := h
    cases a <;> cases b <;> try exact h.elim
    exact o_pow h.1 h.2
  · have h : fdivM a b m R E := h
    cases a <;> cases b <;> try exact h.elim
    exact o_fdivN h.1 h.2
end
/-- op= -/
def inplM (op : Operator) (a b : D) : M D := fun m R _ => match op, a, b with
  | .Add, .int i, .int j => R (.int (i + j)) m
  | .Sub, .int i, .int j => R (.int (i - j)) m
  | _, _, _ => False
def unM (op : UnaryOp) (a : D) : M D := fun m R _ => match op, a with
  | .USub, .int i => R (.int (-i)) m
  | _, _ => False
theorem unM_ok {X : CD} {op : UnaryOp} {a : D} {m R E} (h : unM op a m R E) : UX X (unaryOp op) a m R := by
  cases op <;> try exact h.elim
  all_goals cases a <;> try exact h.elim
  exact u_neg h
/-! comparisons -/
/-- == of data: None, bools, ints, texts, lists and tuples of such, seen through the ledger -/
def eqD (a b : D) : Bool := PyData.eqv (py a) (py b)
/-- two dicts, with values of such a kind -/
def dicB (a b : D) (m : Led) (R : Bool → Prop) : Prop := ∃ ks ds ls es, DicV m a ks ds ∧ DicV m b ls es ∧ (∀ d ∈ ds, Sh 20 d) ∧ (∀ d ∈ es, Sh 20 d) ∧ R (eqDic ks ds ls es)
def eqB (a b : D) : M Bool := fun m R _ => (∃ a' b', DW m a a' ∧ DW m b b' ∧ Sh 20 a' ∧ Sh 20 b' ∧ R (eqD a' b') m) ∨ dicB a b m fun k => R k m
def neB (a b : D) : M Bool := fun m R _ => (∃ a' b', DW m a a' ∧ DW m b b' ∧ Sh 20 a' ∧ Sh 20 b' ∧ R (!eqD a' b') m) ∨ dicB a b m fun k => R (!k) m
def ordB (f : Int → Int → Bool) (a b : D) : M Bool := fun m R _ => match a, b with
  | .int i, .int j => R (f i j) m
  | _, _ => False
def isB (a b : D) : M Bool := fun m R _ => match b with
  | .non => R (isN a) m
  | _ => False
def isnB (a b : D) : M Bool := fun m R _ => match b with
  | .non => R (!isN a) m
  | _ => False
/-- in, not in: a dict's keys -/
def inB (neg : Bool) (a b : D) : M Bool := fun m R _ => ∃ k ks ds, a = keyD k ∧ DicV m b ks ds ∧ R (if neg then !decide (k ∈ ks) else decide (k ∈ ks)) m
def cmpB (op : CmpOp) (a b : D) : M Bool := match op with
  | .Eq => eqB a b
  | .NotEq => neB a b
  | .Lt => ordB (fun i j => decide (i < j)) a b
  | .LtE => ordB (fun i j => decide (i ≤ j)) a b
  | .Gt => ordB (fun i j => decide (j < i)) a b
  | .GtE => ordB (fun i j => decide (j ≤ i)) a b
  | .Is => isB a b
  | .IsNot => isnB a b
  | .In => inB false a b
  | .NotIn => inB true a b
theorem cmpB_ok {X : CD} {op : CmpOp} {a b : D} {m : Led} {R : Bool → Led → Prop} {E : XR} (hu : X.A.units + 64 < cLine) (h : cmpB op a b m R E) : OX X (compareOp op) a b m fun d m' => ∃ k, d = .bl k ∧ R k m' := by
  cases op <;> try exact h.elim
  · obtain ⟨a', b', h1, h2, h3, h4, h5⟩ | ⟨ks, ds, ls, es, h1, h2, h3, h4, h5⟩ := h
    case inr => exact o_eqDic hu h1 h2 h3 h4 ⟨_, rfl, h5⟩
    exact OX.of (op_eqP hu) fun F H x y q1 q2 at_ => ⟨_, _, h1.dp at_.toAt 20 h3 q1, h2.dp at_.toAt 20 h4 q2, (h3.ok).1, (h4.ok).1, Nat.le_trans (h3.ok).2 (by decide), PQ.now at_.toAt (.bl _) ⟨_, rfl, h5⟩⟩
  · obtain ⟨a', b', h1, h2, h3, h4, h5⟩ | ⟨ks, ds, ls, es, h1, h2, h3, h4, h5⟩ := h
    case inr => exact o_neDic hu h1 h2 h3 h4 ⟨_, rfl, h5⟩
    exact OX.of (op_neP hu) fun F H x y q1 q2 at_ => ⟨_, _, h1.dp at_.toAt 20 h3 q1, h2.dp at_.toAt 20 h4 q2, (h3.ok).1, (h4.ok).1, Nat.le_trans (h3.ok).2 (by decide), PQ.now at_.toAt (.bl _) ⟨_, rfl, h5⟩⟩
  all_goals first
    | (have h : ordB _ a b m R E := h
       cases a <;> cases b <;> try exact h.elim)
    | skip
  · exact o_lt ⟨_, rfl, h⟩
  · exact o_le ⟨_, rfl, h⟩
  · exact o_gt ⟨_, rfl, h⟩
  · exact o_ge ⟨_, rfl, h⟩
  · have h : isB a b m R E := h
    cases b <;> try exact h.elim
    exact o_isN ⟨_, rfl, h⟩
  · have h : isnB a b m R E := h
    cases b <;> try exact h.elim
    exact o_notN ⟨_, rfl, h⟩
  · obtain ⟨k, ks, ds, rfl, h1, h2⟩ := h
    exact o_inD hu h1 ⟨_, rfl, h2⟩
  · obtain ⟨k, ks, ds, rfl, h1, h2⟩ := h
    exact o_notinD hu h1 ⟨_, rfl, h2⟩
def blM (b : Bool) : M D := ret (.bl b)
def cmpM (op : CmpOp) (a b : D) : M D := bnd (cmpB op a b) blM
theorem cmpM_ok {X : CD} {op : CmpOp} {a b : D} {m : Led} {R : D → Led → Prop} {E : XR} (hu : X.A.units + 64 < cLine) (h : cmpM op a b m R E) : OX X (compareOp op) a b m R :=
  .mk fun F σ H x y pins s v u q1 q2 at_ I rx ry => thn ((cmpB_ok hu h).run F σ H x y pins s v u q1 q2 at_ I rx ry) fun w s3 ⟨v3, H3, I3, r3, d, F3, m3, st3, q3, k, ek, kk⟩ => ⟨v3, H3, I3, r3, d, F3, m3, st3, q3, by subst ek; exact kk⟩
/-- truth -/
def truB (d : D) : M Bool := fun m R _ => ∃ k, TruD m d k ∧ R k m
/-- o[i] -/
def ixM (o i : D) : M D := fun m R _ => match o, i with
  | .tup ds, .int i => ∃ x, atI ds i = some x ∧ R x m
  | .lst ds, .int i => ∃ x, atI ds i = some x ∧ R x m
  | .ref a, .int i => ∃ (n : Nat) (ds : List D) (x : D), m[n]? = some (a, .lst ds) ∧ atI ds i = some x ∧ R x m
  | .str z, .int i => ∃ c, z.length ≤ 100000 ∧ atI z.cps.toList i = some c ∧ R (.str ⟨#[c]⟩) m
  | .dI ks ds, .tup kd => ∃ (k : List Int) (j : Nat) (x : D), kd = k.map .int ∧ ks[j]? = some k ∧ ds[j]? = some x ∧ R x m
  | .ref a, .tup kd => ∃ (n : Nat) (ks : List (List Int)) (ds : List D) (k : List Int) (j : Nat) (x : D), m[n]? = some (a, .dI ks ds) ∧ kd = k.map .int ∧ ks[j]? = some k ∧ ds[j]? = some x ∧ R x m
  | _, _ => False
theorem ixM_ok {X : CD} {a b : D} {m R E} (hu : X.A.units + 64 < cLine) (h : ixM a b m R E) : IxX X a b m R := by
  cases a <;> cases b <;> try exact h.elim
  · obtain ⟨c, h1, h2, h3⟩ := h
    exact i_str h1 h2 h3
  · obtain ⟨x, h1, h2⟩ := h
    exact i_lst (.inl rfl) h1 h2
  · obtain ⟨x, h1, h2⟩ := h
    exact i_tup h1 h2
  · obtain ⟨k, j, x, rfl, h1, h2, h3⟩ := h
    exact i_dic hu (.inl rfl) h1 h2 h3
  · obtain ⟨n, ds, x, h1, h2, h3⟩ := h
    exact i_lst (.inr ⟨n, _, rfl, h1⟩) h2 h3
  · obtain ⟨n, ks, ds, k, j, x, h1, rfl, h2, h3, h4⟩ := h
    exact i_dic hu (.inr ⟨n, _, rfl, h1⟩) h2 h3 h4
/-- o[lo:hi] -/
def slM (d : D) (lo hi : Option Int) : M D := fun m R E => match d with
  | .tup ds => R (.tup (cutD ds lo hi)) m
  | d => lstM d m (fun ds m' => R (.lst (cutD ds lo hi)) m') E
theorem slM_ok {X : CD} {d : D} {lo hi : Option Int} {m R E} (h : slM d lo hi m R E) : SlX X d lo hi m R := by
  cases d <;> try exact h.elim
  · exact sl_lst (.inl rfl) h
  · exact sl_tupW h
  · obtain ⟨n, ds, h1, h2⟩ := h
    exact sl_lst (.inr ⟨n, _, rfl, h1⟩) h2
def mkT (ds : List D) : M D := fun m R _ => ds.length ≤ 100000 ∧ R (.tup ds) m
def mkL (ds : List D) : M D := fun m R _ => ds.length ≤ 100000 ∧ R (.lst ds) m
def newL (ds : List D) : M D := fun m R _ => ds.length ≤ 100000 ∧ ∀ p, R (.ref p) (m ++ [(p, .lst ds)])
/-- a list of the ledger, from then on frozen -/
def frzM (d : D) : M D := fun m R _ => match d with
  | .ref p => (∃ (n : Nat) (ds : List D), m[n]? = some (p, .lst ds) ∧ R (.lst ds) (m.eraseIdx n)) ∨ ∃ (n : Nat) (ks : List (List Int)) (ds : List D), m[n]? = some (p, .dI ks ds) ∧ R (.dI ks ds) (m.eraseIdx n)
  | d => R d m

/-! ### expressions -/
section
variable {X : CD} {e a b t : Expr} {es : List Expr} {ρ : Rn} {pos p2 : Pos} {c ca cb : M D} {ct : M Bool} {cs : M (List D)} {i : Nat} {x : Str} {d : D}
theorem ev_var (h : LookAt ρ i x d) (hv : Vis X.env.scope x := by first | exact Or.inl rfl | exact Or.inr (Or.inl rfl) | exact Or.inr (Or.inr rfl)) (hd : (x == ("__debug__" : Str)) = false := by decide)
    (hcd : (x == ("__classdict__" : Str)) = false := by decide) : Ev X (.Name x pos) ρ (ret d) := ⟨fun m R E _ k => x_var h k hv hd hcd⟩
theorem ev_int {i : Int} {j : Nat} : Ev X (.Constant (.int i) j pos) ρ (ret (.int i)) := ⟨fun m R E _ k => x_int k⟩
theorem ev_bl {i : Bool} {j : Nat} : Ev X (.Constant (.bool i) j pos) ρ (ret (.bl i)) := ⟨fun m R E _ k => x_bl k⟩
theorem ev_non {j : Nat} : Ev X (.Constant .none j pos) ρ (ret .non) := ⟨fun m R E _ k => x_non k⟩
theorem ev_str {x : Str} {j : Nat} : Ev X (.Constant (.str x) j pos) ρ (ret (.str x)) := ⟨fun m R E _ k => x_str k⟩
theorem ev_ty {mg : Str → Option Value} {nn : String} (hm : mg x = none) (hv : bootBuiltins x = some (.type nn)) (hX : X.mg = mg := by rfl) (h : Gl X x := by rfl) (hn : x ≠ "__name__" := by decide) (hd : (x == ("__debug__" : Str)) = false := by decide) : Ev X (.Name x pos) ρ (ret (.ty nn)) := ⟨fun m R E _ k => c_ty hm hv k hX h hn hd⟩
theorem ev_glob {mg : Str → Option Value} {K : Frag} {d : D} (hgc : GC K mg x d) (hX : X.mg = mg ∧ X.K = K := by exact ⟨rfl, rfl⟩) (h : Gl X x := by rfl) (hd : (x == ("__debug__" : Str)) = false := by decide) : Ev X (.Name x pos) ρ (ret d) := ⟨fun m R E _ k => c_glob hgc k hX h hd⟩
theorem ev_bin {op : Operator} (ha : Ev X a ρ ca) (hb : Ev X b ρ cb) : Ev X (.BinOp a op b pos) ρ (bnd ca fun x => bnd cb fun y => binM op x y) := ⟨fun m R E xa h =>
  x_bin ((ha.run m _ E xa h).mono fun d1 m1 h1 => (hb.run m1 _ E xa h1).mono fun d2 m2 h2 => binM_ok h2)⟩
theorem ev_un {op : UnaryOp} (ha : Ev X a ρ ca) : Ev X (.UnaryOp op a pos) ρ (bnd ca fun x => unM op x) := ⟨fun m R E xa h => x_un ((ha.run m _ E xa h).mono fun d1 m1 h1 => unM_ok h1)⟩
theorem ev_cmp {op : CmpOp} (hu : X.A.units + 64 < cLine) (ha : Ev X a ρ ca) (hb : Ev X b ρ cb) (hm : behindInMarks op b = false := by first | exact nobehind _ (by decide) (by decide) | rfl | with_unfolding_all rfl) : Ev X (.Compare a [op] [b] pos) ρ (bnd ca fun x => bnd cb fun y => cmpM op x y) := ⟨fun m R E xa h =>
  x_cmp ((ha.run m _ E xa h).mono fun d1 m1 h1 => (hb.run m1 _ E xa h1).mono fun d2 m2 h2 => cmpM_ok hu h2) hm⟩
theorem tv_cmp {op : CmpOp} (hu : X.A.units + 64 < cLine) (ha : Ev X a ρ ca) (hb : Ev X b ρ cb) (hm : behindInMarks op b = false := by first | exact nobehind _ (by decide) (by decide) | rfl | with_unfolding_all rfl) : Tv X (.Compare a [op] [b] pos) ρ (bnd ca fun x => bnd cb fun y => cmpB op x y) := ⟨fun m R E xa h =>
  t_cmp ((ha.run m _ E xa h).mono fun d1 m1 h1 => (hb.run m1 _ E xa h1).mono fun d2 m2 h2 => cmpB_ok hu h2) hm⟩
theorem tv_val (ha : Ev X a ρ ca) (he : ∀ whole, isTrue a X.env whole = (do let v ← whole; standAt a.pos; holding [v] (truthy v)) := by intro _; rfl) : Tv X a ρ (bnd ca truB) := ⟨fun m R E xa h => t_tru ((ha.run m _ E xa h).mono fun d m1 h => h) he⟩
def notB (k : Bool) : M Bool := ret (!k)
theorem tv_not (ha : Tv X a ρ ct) : Tv X (.UnaryOp .Not a pos) ρ (bnd ct notB) := ⟨fun m R E xa h => t_not ((ha.run m _ E xa h).mono fun d m1 h => h)⟩
theorem wv_and1 (ha : Tv X a ρ ct) : Wv X (.BoolOp .And [a] pos) ρ ct := ⟨fun m R E xa h => w_and1 (ha.run m R E xa h)⟩
theorem wv_or1 (ha : Tv X a ρ ct) : Wv X (.BoolOp .Or [a] pos) ρ ct := ⟨fun m R E xa h => w_or1 (ha.run m R E xa h)⟩
def andB (c : M Bool) (k : Bool) : M Bool := iteM k c (ret false)
def orB (c : M Bool) (k : Bool) : M Bool := iteM k (ret true) c
theorem wv_and {ct2 : M Bool} {rest : List Expr} (ha : Tv X a ρ ct) (hb : Wv X (.BoolOp .And (b :: rest) pos) ρ ct2) : Wv X (.BoolOp .And (a :: b :: rest) pos) ρ (bnd ct (andB ct2)) := ⟨fun m R E xa h =>
  w_and ((ha.run m _ E xa h).mono fun k m1 h1 => ⟨fun e => hb.run m1 R E xa (h1.1 e), fun e => h1.2 e⟩)⟩
theorem wv_or {ct2 : M Bool} {rest : List Expr} (ha : Tv X a ρ ct) (hb : Wv X (.BoolOp .Or (b :: rest) pos) ρ ct2) : Wv X (.BoolOp .Or (a :: b :: rest) pos) ρ (bnd ct (orB ct2)) := ⟨fun m R E xa h =>
  w_or ((ha.run m _ E xa h).mono fun k m1 h1 => ⟨fun e => h1.1 e, fun e => hb.run m1 R E xa (h1.2 e)⟩)⟩
theorem tv_w (ha : Wv X a ρ ct) : Tv X a ρ ct := ⟨fun m R E xa h => t_w (ha.run m R E xa h)⟩
/-- and, or, not as values: bools ahead of the last -/
def andM (c : M D) (d : D) : M D := fun m R E => ∃ k, d = .bl k ∧ iteM k c (ret (.bl false)) m R E
def orM (c : M D) (d : D) : M D := fun m R E => ∃ k, d = .bl k ∧ iteM k (ret (.bl true)) c m R E
def notM (d : D) : M D := fun m R _ => ∃ k, d = .bl k ∧ R (.bl (!k)) m
theorem ev_one {op : BoolOp} (ha : Ev X a ρ ca) : Ev X (.BoolOp op [a] pos) ρ ca := ⟨fun m R E xa h => x_one (ha.run m R E xa h)⟩
theorem ev_and {rest : List Expr} (ha : Ev X a ρ ca) (hb : Ev X (.BoolOp .And (b :: rest) pos) ρ cb) : Ev X (.BoolOp .And (a :: b :: rest) pos) ρ (bnd ca (andM cb)) := ⟨fun m R E xa h =>
  x_and ((ha.run m _ E xa h).mono fun d m1 ⟨k, ek, h1⟩ => ⟨k, ek, fun e => hb.run m1 R E xa (h1.1 e), fun e => h1.2 e⟩)⟩
theorem ev_not (ha : Ev X a ρ ca) : Ev X (.UnaryOp .Not a pos) ρ (bnd ca notM) := ⟨fun m R E xa h => x_not ((ha.run m _ E xa h).mono fun d m1 h => h)⟩
theorem eva_nil : EvA X [] ρ (ret []) := ⟨fun m R E _ h => a_nil h⟩
theorem eva_cons (h1 : Ev X e ρ c) (h2 : EvA X es ρ cs) (hs : starEach (e :: es) X.env = (false, eval e X.env) :: starEach es X.env := by rfl) : EvA X (e :: es) ρ (bnd c fun d => bnd cs fun ds => ret (d :: ds)) := ⟨fun m R E xa h =>
  a_cons ((h1.run m _ E xa h).mono fun d m1 h => (h2.run m1 _ E xa h).mono fun ds m2 h => h) hs⟩
theorem ev_tup {x1 : Nat} (h : EvA X es ρ cs) : Ev X (.Tuple es x1 pos) ρ (bnd cs mkT) := ⟨fun m R E xa k => x_tup (h.run m _ E xa k)⟩
theorem ev_lst (h : EvA X es ρ cs) : Ev X (.List es pos) ρ (bnd cs mkL) := ⟨fun m R E xa k => x_lst (h.run m _ E xa k)⟩
theorem ev_lstM (h : EvA X es ρ cs) : Ev X (.List es pos) ρ (bnd cs newL) := ⟨fun m R E xa k => x_lstM (h.run m _ E xa k)⟩
theorem ev_ix (hu : X.A.units + 64 < cLine) (ha : Ev X a ρ ca) (hb : Ev X b ρ cb) (hs : PlainIx b := by intro _ _; rfl) : Ev X (.Subscript a b pos) ρ (bnd ca fun x => bnd cb fun y => ixM x y) := ⟨fun m R E xa h =>
  x_ix ((ha.run m _ E xa h).mono fun d1 m1 h1 => (hb.run m1 _ E xa h1).mono fun d2 m2 h2 => ixM_ok hu h2) hs⟩
def intO (d : D) : M (Option Int) := fun m R _ => match d with
  | .int i => R (some i) m
  | _ => False
theorem evo_none : EvO X none ρ (ret none) := ⟨fun m R E _ h => h⟩
theorem evo_some (h : Ev X e ρ c) : EvO X (some e) ρ (bnd c intO) := ⟨fun m R E xa k => (h.run m _ E xa k).mono fun d m1 h => by
  cases d <;> try exact h.elim
  exact ⟨_, rfl, h⟩⟩
theorem ev_slice {lo hi : Option Expr} {cl ch : M (Option Int)} (h : Ev X e ρ c) (hl : EvO X lo ρ cl) (hh : EvO X hi ρ ch) : Ev X (.Subscript e (.Slice lo hi none p2) pos) ρ (bnd c fun d => bnd cl fun l => bnd ch fun u => slM d l u) := ⟨fun m R E xa k =>
  x_slice ((h.run m _ E xa k).mono fun d m1 k => (hl.run m1 _ E xa k).mono fun l m2 k => (hh.run m2 _ E xa k).mono fun u m3 k => slM_ok k)⟩
/-- an expression whose value is a list of the ledger that nobody else holds -/
theorem ev_frz (h : Ev X e ρ c) : Ev X e ρ (bnd c frzM) := ⟨fun m R E xa k => .mk fun F σ H en at_ => (h.run m _ E xa k).go en at_ fun v d F1 m1 H1 s1 en1 q r => by
  cases d with
  | ref p =>
    cases q
    rcases r with ⟨n, ds, hm, r⟩ | ⟨n, ks, ds, hm, r⟩
    · obtain ⟨F2, s2, q2⟩ := Step.freeze s1.at2.toAt hm
      exact ⟨_, F2, _, s1.trans s2, q2, r⟩
    · obtain ⟨F2, s2, q2⟩ := Step.freezeD s1.at2.toAt hm
      exact ⟨_, F2, _, s1.trans s2, q2, r⟩
  | _ => exact ⟨_, F1, m1, s1.st, q, r⟩⟩
end
end DL


namespace DL
open PySem PySem.Spec PySem.Calls PyProof.Rows L2 RZ

/-! ### calls -/
section
variable {X : CD} {e a b t : Expr} {es : List Expr} {kws : List Keyword} {ρ : Rn} {m : Led} {R : D → Led → Prop} {E : XR} {p pos p2 : Pos} {c ca cb : M D} {cs : M (List D)} {x : Str} {k n : Nat} {dd : List D} {sp : SpX} {mg : Str → Option Value} {P : Program} {w : World} {K : Frag} {base : Heap} {ks : List Str} {gD : List D → List D}
theorem x_callE (G : KnowsX X.prog X.w X.K X.mg X.base k x n dd sp) (hr : Room k X.A) (xa : XA X ρ E) (h : AX X (e :: es) ρ m fun ds m1 => sp (ds ++ dd) m1 R E) (hg : Gl X x)
    (hdb : (x == ("__debug__" : Str)) = false) (he : starEach (e :: es) X.env = (false, eval e X.env) :: starEach es X.env) (hpl : (backTo pos (starEach es X.env)).any (·.1) = false) :
    EX X (.Call (.Name x p) (e :: es) [] pos) ρ m R := .mk fun F σ H en at_ => by
  obtain ⟨f, fd, ps, dsv, dvs, FO, hm, hk, hb, hv, hdd, hl⟩ := G.fn
  refine SE.of (pe_callSD (E := WE (WD X.toCx F m H X.xq)) FO hr hg hm hk hb hv (fun σ => passAt at_.tk σ) (pa_SA (es := e :: es)) hdb he hpl) ?_
  refine h.go en at_ fun vs ds F1 m1 H1 s1 en1 q r => ?_
  exact ⟨F1, m1, ds ++ dd, R, E, q.append (hdd F1), s1.st.at2, r, fun d m2 v F2 H2 rd st qd => ⟨d, F2, m2, s1.trans st, qd, rd⟩,
    fun nm C fd' F2 m2 H2 d xr hC st fdd => ⟨nm, C, fd', ρ, F2, m2, hC, rfl, s1.trans st, en1.mono st.ex, fdd, xa _ _ _ xr⟩⟩
theorem ev_call (G : KnowsX P w K mg base k x n [] sp) (hr : Room k X.A) (h : EvA X (e :: es) ρ cs) (hX : X.prog = P ∧ X.w = w ∧ X.K = K ∧ X.mg = mg ∧ X.base = base := by exact ⟨rfl, rfl, rfl, rfl, rfl⟩) (hg : Gl X x := by rfl)
    (hdb : (x == ("__debug__" : Str)) = false := by decide) (he : starEach (e :: es) X.env = (false, eval e X.env) :: starEach es X.env := by rfl) (hpl : (backTo pos (starEach es X.env)).any (·.1) = false := by rfl) :
    Ev X (.Call (.Name x p) (e :: es) [] pos) ρ (bnd cs sp) := ⟨fun m R E xa k => by
  obtain ⟨rfl, rfl, rfl, rfl, rfl⟩ := hX
  exact x_callE G hr xa ((h.run m _ E xa k).mono fun ds m1 h => by rw [List.append_nil]; exact h) hg hdb he hpl⟩
structure EvK (X : CD) (kws : List Keyword) (ρ : Rn) (c : M (List D)) : Prop where
  run : ∀ m R E, XA X ρ E → c m R E → KX X kws ρ m R
theorem KX.mono {R R' : List D → Led → Prop} (h : KX X kws ρ m R) (q : ∀ d m', R d m' → R' d m') : KX X kws ρ m R' := .mk fun F σ H en a => (h.run F σ H en a).mono fun v H1 ⟨d, F1, m1, s, k, r⟩ => ⟨d, F1, m1, s, k, q d m1 r⟩
def kwM (n : Nat) (gD : List D → List D) (sp : SpX) (ds : List D) : M D := fun m R E => ds.length = n ∧ sp (gD ds) m R E
/-! built-ins -/
theorem ev_blt {id : String} {f : List D → M D} (hm : mg x = none) (hv : bootBuiltins x = some (.builtin id)) (ok : ∀ ds m R E, f ds m R E → BX X (.builtin id) ds m R) (h : EvA X (e :: es) ρ cs) (hX : X.mg = mg := by rfl) (hg : Gl X x := by rfl) (hn : x ≠ "__name__" := by decide) (hdb : (x == ("__debug__" : Str)) = false := by decide)
    (he : starEach (e :: es) X.env = (false, eval e X.env) :: starEach es X.env := by rfl) (hpl : (backTo pos (starEach es X.env)).any (·.1) = false := by rfl) : Ev X (.Call (.Name x p) (e :: es) [] pos) ρ (bnd cs f) := ⟨fun m R E xa k =>
  c_cb hm hv ((h.run m _ E xa k).mono fun ds m1 h => ok ds m1 R E h) hX hg hn hdb he hpl⟩
theorem ev_blT {T : String} {f : List D → M D} (hm : mg x = none) (hv : bootBuiltins x = some (.type T)) (ok : ∀ ds m R E, f ds m R E → BX X (.type T) ds m R) (h : EvA X (e :: es) ρ cs) (hX : X.mg = mg := by rfl) (hg : Gl X x := by rfl) (hn : x ≠ "__name__" := by decide) (hdb : (x == ("__debug__" : Str)) = false := by decide)
    (he : starEach (e :: es) X.env = (false, eval e X.env) :: starEach es X.env := by rfl) (hpl : (backTo pos (starEach es X.env)).any (·.1) = false := by rfl) : Ev X (.Call (.Name x p) (e :: es) [] pos) ρ (bnd cs f) := ⟨fun m R E xa k =>
  c_ct hm hv ((h.run m _ E xa k).mono fun ds m1 h => ok ds m1 R E h) hX hg hn hdb he hpl⟩
end
def lenM (ds : List D) : M D := fun m R E => match ds with
  | [.tup xs] => R (.int (xs.length : Nat)) m
  | [.str z] => z.length ≤ 100000 ∧ R (.int (z.length : Nat)) m
  | [.dI ks _] => R (.int (ks.length : Nat)) m
  | [.ref a] => (∃ (n : Nat) (ds : List D), m[n]? = some (a, .lst ds) ∧ R (.int (ds.length : Nat)) m) ∨ ∃ (n : Nat) (ks : List (List Int)) (ds : List D), m[n]? = some (a, .dI ks ds) ∧ R (.int (ks.length : Nat)) m
  | [d] => lstM d m (fun xs m' => R (.int (xs.length : Nat)) m') E
  | _ => False
def absM (ds : List D) : M D := fun m R _ => match ds with
  | [.int i] => R (.int (i.natAbs : Int)) m
  | _ => False
def maxM (ds : List D) : M D := fun m R E => match ds with
  | [.int i, .int j] => R (.int (max i j)) m
  | [d] => lstM d m (fun xs m' => ∃ ns : List Int, xs = ns.map D.int ∧ 0 < ns.length ∧ ∀ i, i ∈ ns → (∀ y ∈ ns, y ≤ i) → R (.int i) m') E
  | _ => False
def minM (ds : List D) : M D := fun m R E => match ds with
  | [.int i, .int j] => R (.int (min i j)) m
  | [d] => lstM d m (fun xs m' => ∃ ns : List Int, xs = ns.map D.int ∧ 0 < ns.length ∧ ∀ i, i ∈ ns → (∀ y ∈ ns, i ≤ y) → R (.int i) m') E
  | _ => False
def intM (ds : List D) : M D := fun m R _ => match ds with
  | [.int i] => R (.int i) m
  | [.bl c] => R (.int (if c then 1 else 0)) m
  | _ => False
def listM (ds : List D) : M D := fun m R E => match ds with
  | [.tup xs] => R (.lst xs) m
  | [.lsk xs] => R (.lst xs) m
  | [.dI ks _] => R (.lst (ks.map keyD)) m
  | [.ref a] => (∃ (n : Nat) (ds : List D), m[n]? = some (a, .lst ds) ∧ R (.lst ds) m) ∨ ∃ (n : Nat) (ks : List (List Int)) (ds : List D), m[n]? = some (a, .dI ks ds) ∧ R (.lst (ks.map keyD)) m
  | [d] => lstM d m (fun xs m' => R (.lst xs) m') E
  | _ => False
/-- list(x), to be changed -/
def listMM (ds : List D) : M D := fun m R E => match ds with
  | [.tup xs] => ∀ p, R (.ref p) (m ++ [(p, .lst xs)])
  | [d] => lstM d m (fun xs m' => ∀ p, R (.ref p) (m' ++ [(p, .lst xs)])) E
  | _ => False
def tupleM (ds : List D) : M D := fun m R E => match ds with
  | [.tup xs] => R (.tup xs) m
  | [d] => lstM d m (fun xs m' => R (.tup xs) m') E
  | _ => False
def sumM (ds : List D) : M D := fun m R E => match ds with
  | [d] => lstM d m (fun xs m' => ∃ ns : List Int, xs = ns.map D.int ∧ R (.int ns.sum) m') E
  | _ => False
def allM (ds : List D) : M D := fun m R E => match ds with
  | [d] => lstM d m (fun xs m' => ∃ ns : List Bool, xs = ns.map D.bl ∧ R (.bl (ns.all id)) m') E
  | _ => False
def anyM (ds : List D) : M D := fun m R E => match ds with
  | [d] => lstM d m (fun xs m' => ∃ ns : List Bool, xs = ns.map D.bl ∧ R (.bl (ns.any id)) m') E
  | _ => False
/-- dict(x): of a list of pairs, of a dict -/
def dictG (b : Bool) (ds : List D) : M D := fun m R E => match ds with
  | [d] => (∃ kvs : List (List Int × D), LstV m d (kvs.map pairD) ∧ (kvs.map (·.1)).Nodup ∧ kvs.length ≤ 100000 ∧ RNew R m (kvs.map (·.1)) (kvs.map (·.2)) b) ∨ (∃ ks vs, DicV m d ks vs ∧ (ks.map hI).Nodup ∧ RNew R m ks vs b) ∨ (b = false ∧ ∃ kvs : List (Int × D), LstV m d (kvs.map pairK) ∧ (kvs.map (·.1)).Nodup ∧ R (.dK (kvs.map fun p => .inl p.1) (kvs.map (·.2))) m)
  | _ => False
abbrev dictM := dictG false
abbrev dictMM := dictG true
/-- sorted(x): tuples of ints, ints -/
def sortG (b : Bool) (ds : List D) : M D := fun m R E => match ds with
  | [d] => (∃ ks : List (List Int), LstV m d (ks.map keyD) ∧ SrtOk ks ∧ ∀ ks' : List (List Int), ks'.Perm ks → ks'.Pairwise (fun a c => lexI c a = false) → RNewL R m (ks'.map keyD) b) ∨
    ∃ ns : List Int, (LstV m d (ns.map D.int) ∨ d = .tup (ns.map D.int)) ∧ ∀ ns' : List Int, ns'.Perm ns → ns'.Pairwise (· ≤ ·) → RNewL R m (ns'.map D.int) b
  | _ => False
abbrev sortedM := sortG false
/-- isinstance of the plain kinds -/
def kinds : List String := ["NoneType", "bool", "int", "str", "list", "tuple"]
def tyNames : List String := ["int", "bool", "list", "tuple", "dict", "str"]
def isiD (t n : String) : Bool := t == n || (t == "bool" && n == "int")
def isiM (ds : List D) : M D := fun m R E => match ds with
  | [.ref a, .ty n] => (∃ (i : Nat) (xs : List D), m[i]? = some (a, .lst xs)) ∧ n ∈ tyNames ∧ R (.bl (isiD "list" n)) m
  | [d, .ty n] => ∃ t, tyD d = some t ∧ n ∈ tyNames ∧ R (.bl (isiD t n)) m
  | _ => False
/-- isinstance, with dicts, instances of the classes cs, and tuples of types -/
def kinds2 : List String := ["NoneType", "bool", "int", "str", "list", "tuple", "dict"]
theorem kitB_all2 : ∀ t ∈ kinds2, ∀ n ∈ tyNames, kitB t n = some (isiD t n) := by decide +kernel
def isiO (cs : List Str) (ds : List D) : M D := fun m R E => match ds with
  | [d, .ty n] => n ∈ tyNames ∧ ((∃ t ∈ kinds2, KindD m d t ∧ R (.bl (isiD t n)) m) ∨ ∃ cn ∈ cs, ∃ ns vs, ObjV m d cn ns vs ∧ R (.bl false) m)
  | [d, .cls cn] => cn ∈ cs ∧ ((∃ t ∈ kinds2, KindD m d t ∧ R (.bl false) m) ∨ ∃ ns vs, ObjV m d cn ns vs ∧ R (.bl true) m)
  | [d, .tup ts] => ∃ nn : List String, ts = nn.map .ty ∧ (∀ n ∈ nn, n ∈ tyNames) ∧ ((∃ t ∈ kinds2, KindD m d t ∧ R (.bl (nn.any (isiD t))) m) ∨ ∃ cn ∈ cs, ∃ ns vs, ObjV m d cn ns vs ∧ R (.bl false) m)
  | _ => False
section
variable {X : CD}
theorem lenM_ok (ds : List D) (m R E) (h : lenM ds m R E) : BX X (.builtin "len") ds m R := by
  unfold lenM at h
  split at h
  · exact b_lenT h
  · exact b_lenS h.1 h.2
  · exact b_lenD (.inl rfl) h
  · rcases h with ⟨n, ds, h1, h2⟩ | ⟨n, ks, ds, h1, h2⟩
    · exact b_len (.inr ⟨n, _, rfl, h1⟩) h2
    · exact b_lenD (.inr ⟨n, _, rfl, h1⟩) h2
  · obtain ⟨xs, h1, h2⟩ := lstM_v h
    exact b_len h1 h2
  · exact h.elim
theorem absM_ok (ds : List D) (m R E) (h : absM ds m R E) : BX X (.builtin "abs") ds m R := by
  unfold absM at h
  split at h
  · exact b_abs h
  · exact h.elim
theorem maxM_ok (hc : X.calm = true := by rfl) (ds : List D) (m R E) (h : maxM ds m R E) : BX X (.builtin "max") ds m R := by
  unfold maxM at h
  split at h
  · exact b_max2 h hc
  · obtain ⟨xs, h1, ns, rfl, h2, h3⟩ := lstM_v h
    exact b_maxL hc h1 h2 h3
  · exact h.elim
theorem minM_ok (hc : X.calm = true := by rfl) (ds : List D) (m R E) (h : minM ds m R E) : BX X (.builtin "min") ds m R := by
  unfold minM at h
  split at h
  · exact b_min2 h hc
  · obtain ⟨xs, h1, ns, rfl, h2, h3⟩ := lstM_v h
    exact b_minL hc h1 h2 h3
  · exact h.elim
theorem intM_ok (ds : List D) (m R E) (h : intM ds m R E) : BX X (.type "int") ds m R := by
  unfold intM at h
  split at h
  · exact b_int h
  · exact b_intB h
  · exact h.elim
theorem listM_ok (hc : X.calm = true := by rfl) (ds : List D) (m R E) (h : listM ds m R E) : BX X (.type "list") ds m R := by
  unfold listM at h
  split at h
  · exact b_listT h
  · exact b_listK h
  · exact b_listD (b := false) hc (.inl rfl) h
  · rcases h with ⟨n, ds, h1, h2⟩ | ⟨n, ks, ds, h1, h2⟩
    · exact b_list (.inr ⟨n, _, rfl, h1⟩) h2
    · exact b_listD (b := false) hc (.inr ⟨n, _, rfl, h1⟩) h2
  · obtain ⟨xs, h1, h2⟩ := lstM_v h
    exact b_list h1 h2
  · exact h.elim
theorem tupleM_ok (ds : List D) (m R E) (h : tupleM ds m R E) : BX X (.type "tuple") ds m R := by
  unfold tupleM at h
  split at h
  · exact b_tupleT h
  · obtain ⟨xs, h1, h2⟩ := lstM_v h
    exact b_tuple h1 h2
  · exact h.elim
theorem sumM_ok (hc : X.calm = true := by rfl) (ds : List D) (m R E) (h : sumM ds m R E) : BX X (.builtin "sum") ds m R := by
  unfold sumM at h
  split at h
  · obtain ⟨xs, h1, ns, rfl, h2⟩ := lstM_v h
    exact b_sum h1 h2 hc
  · exact h.elim
theorem allM_ok (hc : X.calm = true := by rfl) (ds : List D) (m R E) (h : allM ds m R E) : BX X (.builtin "all") ds m R := by
  unfold allM at h
  split at h
  · obtain ⟨xs, h1, ns, rfl, h2⟩ := lstM_v h
    exact b_all h1 h2 hc
  · exact h.elim
theorem anyM_ok (hc : X.calm = true := by rfl) (ds : List D) (m R E) (h : anyM ds m R E) : BX X (.builtin "any") ds m R := by
  unfold anyM at h
  split at h
  · obtain ⟨xs, h1, ns, rfl, h2⟩ := lstM_v h
    exact b_any h1 h2 hc
  · exact h.elim
theorem sortG_ok (hu : X.A.units + 64 < cLine) {b : Bool} (ds : List D) (m R E) (h : sortG b ds m R E) : BX X (.builtin "sorted") ds m R := by
  unfold sortG at h
  split at h
  · rcases h with ⟨ks, h1, h2, h3⟩ | ⟨ns, h1 | rfl, h2⟩
    · exact b_sortT hu h1 h2 h3
    · exact b_sortI h1 h2
    · exact b_sortIT h2
  · exact h.elim
theorem kitAny_tys {K : Frag} {t : String} (ht : t ∈ kinds2) : ∀ {nn : List String}, (∀ n ∈ nn, n ∈ tyNames) → PySem.W.kitAny K (.type t) (nn.map Value.type) = some (nn.any (isiD t))
  | [], _ => rfl
  | n :: nn, h => by
    rw [List.map_cons, List.any_cons]
    refine kitAny_cons (kit_ty (kitB_all2 t ht n (h n (by simp)))) (fun e => ?_) (fun e => ?_)
    · rw [e, Bool.false_or]
      exact kitAny_tys ht fun x hx => h x (by simp [hx])
    · rw [e, Bool.true_or]
theorem kitAny_obj {K : Frag} {C : Addr} (hC : ∀ n ∈ ["int", "bool", "list", "tuple", "dict", "str"], PySem.W.kitOne K (.ref C) (.type n) = some false) : ∀ {nn : List String}, (∀ n ∈ nn, n ∈ tyNames) → PySem.W.kitAny K (.ref C) (nn.map Value.type) = some false
  | [], _ => rfl
  | n :: nn, h => by
    rw [List.map_cons]
    exact kitAny_cons (hC n (h n (by simp))) (fun e => kitAny_obj hC fun x hx => h x (by simp [hx])) (fun e => by cases e)
theorem isiO_ok {cs : List Str} (hcs : ∀ cn ∈ cs, ObjK X.K cn) (ds : List D) (m R E) (h : isiO cs ds m R E) : BX X (.builtin "isinstance") ds m R := by
  unfold isiO at h
  split at h
  · obtain ⟨hn, ⟨t, ht, hk, r⟩ | ⟨cn, hc, ns, vs, hv, r⟩⟩ := h
    · exact b_isiV (.kind hk rfl) (kit_ty (kitB_all2 t ht _ hn)) r
    · have ok := hcs cn hc
      obtain ⟨C, h1, h2, h3, h4, h5, h6, h7, _⟩ := ok.ex
      exact b_isiV (.own ok h1 hv rfl) (h7 _ hn) r
  · obtain ⟨hc, ⟨t, ht, hk, r⟩ | ⟨ns, vs, hv, r⟩⟩ := h
    · have ok := hcs _ hc
      obtain ⟨C, h1, h2, h3, h4, h5, h6, h7, h8, h9⟩ := ok.ex
      exact b_isiC (.kind hk rfl) h1 (h9 t ht) r
    · have ok := hcs _ hc
      obtain ⟨C, h1, h2, h3, h4, h5, h6, h7, h8, h9⟩ := ok.ex
      exact b_isiC (.own ok h1 hv rfl) h1 h8 r
  · obtain ⟨nn, rfl, hn, ⟨t, ht, hk, r⟩ | ⟨cn, hc, ns, vs, hv, r⟩⟩ := h
    · exact b_isiVT (.kind hk rfl) (kitAny_tys ht hn) r
    · have ok := hcs cn hc
      obtain ⟨C, h1, h2, h3, h4, h5, h6, h7, _⟩ := ok.ex
      exact b_isiVT (.own ok h1 hv rfl) (kitAny_obj h7 hn) r
  · exact h.elim
end

/-! ### what is walked -/
section
variable {X : CD} {a b e tg it : Expr} {ρ : Rn} {p pos tpos : Pos} {mg : Str → Option Value} {c ca cb : M D}
def seqM (d : D) : M (List D) := fun m R _ => match d with
  | .lst ds => R ds m
  | .tup ds => R ds m
  | .dI ks _ => R (ks.map keyD) m
  | _ => False
theorem iv_seq (h : Ev X it ρ c) : Iv X tg it ρ (bnd c seqM) := ⟨fun m R E xa k => ix_seqD ((h.run m _ E xa k).mono fun d m1 h => by
  cases d <;> try exact h.elim
  · exact ⟨_, .inl rfl, h⟩
  · exact ⟨_, .inr (.inl rfl), h⟩
  · exact ⟨_, .inr (.inr ⟨_, _, rfl, rfl⟩), h⟩)⟩
def rngM (d : D) : M (List D) := fun m R _ => match d with
  | .int j => -100000 ≤ j ∧ j ≤ 100000 ∧ R (rangeD 0 j.toNat) m
  | _ => False
theorem iv_range1 (hm : mg "range" = none) (h : Ev X a ρ c) (hX : X.mg = mg := by rfl) (hg : Gl X "range" := by rfl) (hs : starEach [a] X.env = [(false, eval a X.env)] := by rfl) : Iv X tg (.Call (.Name "range" p) [a] [] pos) ρ (bnd c rngM) := ⟨fun m R E xa k => j_range1 hm ((h.run m _ E xa k).mono fun d m1 h => by
  cases d <;> try exact h.elim
  exact ⟨_, rfl, h⟩) hX hg hs⟩
def rngM2 (d d2 : D) : M (List D) := fun m R _ => match d, d2 with
  | .int i, .int j => (-100000 ≤ i ∧ i ≤ 100000 ∧ -100000 ≤ j ∧ j ≤ 100000) ∧ R (rangeD i (j - i).toNat) m
  | _, _ => False
def zipM (d d2 : D) : M (List D) := fun m R _ => match d, d2 with
  | .lst as, .lst bs => R (zipD as bs) m
  | .tup as, .tup bs => R (zipD as bs) m
  | _, _ => False
def enumM (d : D) : M (List D) := fun m R _ => match d with
  | .lst as => R (enumD as) m
  | .tup as => R (enumD as) m
  | _ => False
end
end DL


namespace DL
open PySem PySem.Spec PySem.Calls PyProof.Rows L2 RZ

/-! ### comprehensions -/
def NoX : XR := fun _ _ _ => False
def compM (f : D → M (Option D)) : List D → List D → M (List D)
  | [], acc => ret acc
  | d :: ds, acc => fun m R E => f d m (fun o m' => match o with
    | some z => acc.length < 100000 ∧ compM f ds (acc ++ [z]) m' R E
    | none => compM f ds acc m' R E) NoX
def someM (d : D) : M (Option D) := ret (some d)
def lsM (ds : List D) : M D := ret (.lst ds)
def lsMM (ds : List D) : M D := fun m R _ => ∀ p, R (.ref p) (m ++ [(p, .lst ds)])
def un2 (d : D) (k : D → D → M (Option D)) : M (Option D) := fun m R E => ∃ a b, d = .tup [a, b] ∧ k a b m R E
section
variable {X : CD} {elt it t : Expr} {scope : Scope} {ifs : List Expr} {ρ : Rn} {pos py p0 p1 p2 px spos : Pos} {y z x : Str} {i j k n0 : Nat} {ci : M (List D)} {f : D → M (Option D)} {celt : D → M D} {ct : D → M Bool} {celt2 : D → D → M D} {ct2 : D → D → M Bool} {ρ2 : D → Rn} {ρ3 : D → D → Rn}
structure Cv (X : CD) (scope : Scope) (ifs : List Expr) (elt : Expr) (y : Str) (j : Nat) (ρ : Rn) (f : D → M (Option D)) : Prop where
  run : ∀ (d : D) (m : Led) (R : Option D → Led → Prop), f d m R NoX → ∃ ρ2, SetAt ρ j y d ρ2 ∧ ∀ (s : Shared) (H0 : Hp) (C : Addr) (cl : List (Str × Addr)) (fp : List Addr),
    match ifs with
    | [] => EX (X.blk s H0 scope (compEnvC scope cl C X.env) fp) elt ρ2 m fun z m3 => R (some z) m3
    | [c] => TX (X.blk s H0 scope (compEnvC scope cl C X.env) fp) c ρ2 m fun k m2 => (k = true → ∀ (s : Shared) (H0 : Hp) (C : Addr) (cl : List (Str × Addr)) (fp : List Addr), EX (X.blk s H0 scope (compEnvC scope cl C X.env) fp) elt ρ2 m2 fun z m3 => R (some z) m3) ∧ (k = false → R none m2)
    | _ => False
structure CvP (X : CD) (scope : Scope) (ifs : List Expr) (elt : Expr) (y : Str) (j : Nat) (z : Str) (k : Nat) (ρ : Rn) (f : D → M (Option D)) : Prop where
  run : ∀ (d : D) (m : Led) (R : Option D → Led → Prop), f d m R NoX → ∃ d1 d2 ρ1 ρ2, d = .tup [d1, d2] ∧ SetAt ρ j y d1 ρ1 ∧ SetAt ρ1 k z d2 ρ2 ∧ ∀ (s : Shared) (H0 : Hp) (C : Addr) (cl : List (Str × Addr)) (fp : List Addr),
    match ifs with
    | [] => EX (X.blk s H0 scope (compEnvC scope cl C X.env) fp) elt ρ2 m fun z m3 => R (some z) m3
    | [c] => TX (X.blk s H0 scope (compEnvC scope cl C X.env) fp) c ρ2 m fun k m2 => (k = true → ∀ (s : Shared) (H0 : Hp) (C : Addr) (cl : List (Str × Addr)) (fp : List Addr), EX (X.blk s H0 scope (compEnvC scope cl C X.env) fp) elt ρ2 m2 fun z m3 => R (some z) m3) ∧ (k = false → R none m2)
    | _ => False
theorem cv0 (hset : ∀ d, SetAt ρ j y d (ρ2 d)) (he : ∀ d s H0 C cl fp, Ev (X.blk s H0 scope (compEnvC scope cl C X.env) fp) elt (ρ2 d) (celt d)) : Cv X scope [] elt y j ρ fun d => bnd (celt d) someM :=
  ⟨fun d m R h => ⟨ρ2 d, hset d, fun s H0 C cl fp => (he d s H0 C cl fp).run m _ NoX (fun _ _ _ z => z) h⟩⟩
theorem cv1 (hset : ∀ d, SetAt ρ j y d (ρ2 d)) (ht : ∀ d s H0 C cl fp, Tv (X.blk s H0 scope (compEnvC scope cl C X.env) fp) t (ρ2 d) (ct d)) (he : ∀ d s H0 C cl fp, Ev (X.blk s H0 scope (compEnvC scope cl C X.env) fp) elt (ρ2 d) (celt d)) :
    Cv X scope [t] elt y j ρ fun d => bnd (ct d) fun k => iteM k (bnd (celt d) someM) (ret none) :=
  ⟨fun d m R h => ⟨ρ2 d, hset d, fun s H0 C cl fp => ((ht d s H0 C cl fp).run m _ NoX (fun _ _ _ z => z) h).mono fun k m2 h => ⟨fun e s H0 C cl fp => (he d s H0 C cl fp).run m2 _ NoX (fun _ _ _ z => z) (h.1 e), fun e => h.2 e⟩⟩⟩
theorem cvp0 {ρ1 : D → Rn} (hset : ∀ d, SetAt ρ j y d (ρ1 d)) (hset2 : ∀ d d', SetAt (ρ1 d) k z d' (ρ3 d d')) (he : ∀ d d' s H0 C cl fp, Ev (X.blk s H0 scope (compEnvC scope cl C X.env) fp) elt (ρ3 d d') (celt2 d d')) : CvP X scope [] elt y j z k ρ fun d => un2 d fun d1 d2 => bnd (celt2 d1 d2) someM :=
  ⟨fun d m R ⟨a, b, e, h⟩ => ⟨a, b, ρ1 a, ρ3 a b, e, hset a, hset2 a b, fun s H0 C cl fp => (he a b s H0 C cl fp).run m _ NoX (fun _ _ _ z => z) h⟩⟩
theorem drop_at {α : Type} {xs : List α} {i : Nat} {x : α} (h : xs[i]? = some x) : xs.drop i = x :: xs.drop (i + 1) := by
  obtain ⟨hl, e⟩ := List.getElem?_eq_some_iff.mp h
  rw [List.drop_eq_getElem_cons hl, e]
theorem Cv.I (hc : Cv X scope ifs elt y j ρ f) {ds : List D} {m : Led} {R : List D → Led → Prop} {E : XR} (h : compM f ds [] m R E) : CompI X scope ifs elt y j ρ R ds m := by
  refine ⟨fun i acc m' => compM f (ds.drop i) acc m' R E, h, fun i d acc m' hd hI => ?_, fun acc m' hI => ?_⟩
  · dsimp only at hI
    rw [drop_at hd] at hI
    obtain ⟨ρ2, h1, h2⟩ := hc.run d m' _ hI
    refine ⟨ρ2, h1, fun s H0 C cl fp => ?_⟩
    have h5 := h2 s H0 C cl fp
    rcases ifs with _ | ⟨c, _ | ⟨_, _⟩⟩ <;> exact h5
  · dsimp only at hI
    rw [List.drop_length] at hI
    exact hI
theorem CvP.I (hc : CvP X scope ifs elt y j z k ρ f) {ds : List D} {m : Led} {R : List D → Led → Prop} {E : XR} (h : compM f ds [] m R E) : CompP X scope ifs elt y j z k ρ R ds m := by
  refine ⟨fun i acc m' => compM f (ds.drop i) acc m' R E, h, fun i d acc m' hd hI => ?_, fun acc m' hI => ?_⟩
  · dsimp only at hI
    rw [drop_at hd] at hI
    obtain ⟨d1, d2, ρ1, ρ2, h1, h2, h3, h4⟩ := hc.run d m' _ hI
    refine ⟨d1, d2, ρ1, ρ2, h1, h2, h3, fun s H0 C cl fp => ?_⟩
    have h5 := h4 s H0 C cl fp
    rcases ifs with _ | ⟨c, _ | ⟨_, _⟩⟩ <;> exact h5
  · dsimp only at hI
    rw [List.drop_length] at hI
    exact hI
theorem ev_lc (hj : SlotAt ρ j y) (hi : Iv X (.Name y py) it ρ ci) (hcv : Cv X scope ifs elt y j ρ f) (hl1 : ifs.length ≤ 1 := by decide) (hok : blkC X.N X.env.scope scope [(y, j)] = true := by kernel_rfl)
    (hx : ∀ cl C, Loc (compEnvC scope cl C X.env).scope y := by intro _ _; first | exact Or.inl rfl | exact Or.inr rfl) (hf : ∀ cl C, (scope.names.lookup y == some .cell) = true ∨ (compEnvC scope cl C X.env).scope.names.lookup y = some .local := by intro _ _; first | exact .inl rfl | exact .inr rfl)
    (hc : X.calm = true := by rfl) (hs : ∀ x, foldedSetIterable it X.env x = pure x := by intro _; rfl) : Ev X (.ListComp elt [⟨.Name y py, it, ifs, 0⟩] scope pos) ρ (bnd ci fun ds => bnd (compM f ds []) lsM) := ⟨fun m R E xa h =>
  x_lc hj ((hi.run m _ E xa h).mono fun ds m1 h => hcv.I h) hl1 hok hx hf hc hs⟩
end

/-! ### blocks -/
inductive Fl (σ τ : Type) where
  | nx (s : σ) | rt (d : D) | bk (t : τ) | ct (t : τ)
inductive Le : Rn → Rn → Prop
  | nil : Le [] []
  | same {q : Str × Option D} {r r' : Rn} : Le r r' → Le (q :: r) (q :: r')
  | drop {x : Str} {o : Option D} {r r' : Rn} : Le r r' → Le ((x, none) :: r) ((x, o) :: r')
theorem Le.names : ∀ {r r' : Rn}, Le r r' → r.map (·.1) = r'.map (·.1)
  | _, _, .nil => rfl
  | _, _, .same h => by rw [List.map_cons, List.map_cons, h.names]
  | _, _, .drop h => by rw [List.map_cons, List.map_cons, h.names]
theorem Le.get : ∀ {r r' : Rn}, Le r r' → ∀ (i : Nat) (d : D), (r.map (·.2))[i]? = some (some d) → (r'.map (·.2))[i]? = some (some d)
  | _, _, .nil, i, d, h => h
  | _, _, .same h, 0, d, e => e
  | _, _, .same h, i + 1, d, e => by simpa using h.get i d (by simpa using e)
  | _, _, .drop h, 0, d, e => by simp at e
  | _, _, .drop h, i + 1, d, e => by simpa using h.get i d (by simpa using e)
theorem Env.le {X : Cx} {F : Hp} {σ : L2.St} {ρ ρ' : Rn} (e : Env X F σ ρ) (h : Le ρ' ρ) : Env X F σ ρ' :=
  ⟨e.nd, by rw [h.names]; exact e.nm, ⟨by rw [List.length_map]; have := congrArg List.length h.names; simp only [List.length_map] at this; rw [this, e.ev.len, List.length_map], fun i d q => e.ev.get i d (h.get i d q)⟩⟩
section
variable {X : CD} {sts : List Stmt} {st : Stmt} {ρ ρ' : Rn} {m : Led} {E : EndsD} {e tg : Expr} {d : D}
theorem SX.le (h : SX X sts ρ' m E) (l : Le ρ' ρ) : SX X sts ρ m E := .mk fun F σ H en at_ => h.run F σ H (en.le l) at_
theorem TX.le {R : Bool → Led → Prop} (h : TX X e ρ' m R) (l : Le ρ' ρ) : TX X e ρ m R := .mk fun F σ H en at_ => h.run F σ H (en.le l) at_
theorem OX.mono {f : Value → Value → Sem Value} {d1 d2 : D} {R R' : D → Led → Prop} (h : OX X f d1 d2 m R) (k : ∀ d m, R d m → R' d m) : OX X f d1 d2 m R' := .mk fun F σ H x y pins s v u q1 q2 at_ I rx ry => thn (h.run F σ H x y pins s v u q1 q2 at_ I rx ry) fun w s3 ⟨v3, H3, I3, r3, d, F3, m3, st3, q3, kk⟩ => ⟨v3, H3, I3, r3, d, F3, m3, st3, q3, k _ _ kk⟩
theorem StX.mono {d1 d2 d3 : D} {R R' : Led → Prop} (h : StX X d1 d2 d3 m R) (k : ∀ m, R m → R' m) : StX X d1 d2 d3 m R' := by
  obtain ⟨⟨t, pt, r⟩⟩ := h
  exact ⟨_, PSet.any, fun F H o i v q1 q2 q3 at_ => ⟨t, _, pt, r F H o i v q1 q2 q3 at_, fun H' ⟨F2, m2, s, rr⟩ => ⟨F2, m2, s, k _ rr⟩⟩⟩
theorem GX.le {R : Rn → Led → Prop} (h : GX X tg d ρ' m R) (l : Le ρ' ρ) : GX X tg d ρ m R := .mk fun F σ H v en at_ q => h.run F σ H v (en.le l) at_ q
theorem GX.mono {R R' : Rn → Led → Prop} (h : GX X tg d ρ m R) (k : ∀ ρ m, R ρ m → R' ρ m) : GX X tg d ρ m R' := .mk fun F σ H v en at_ q => (h.run F σ H v en at_ q).mono fun σ' H' ⟨ρ2, F2, m2, s, e, r⟩ => ⟨ρ2, F2, m2, s, e, k _ _ r⟩
end
def EF {σ τ : Type} (en : σ → Option Rn) (el : τ → Rn) (R : Fl σ τ → Led → Prop) : EndsD :=
  { nx := fun ρ' m' => ∃ s r, en s = some r ∧ Le r ρ' ∧ R (.nx s) m', rt := fun d m' => R (.rt d) m', bk := fun ρ' m' => ∃ t, Le (el t) ρ' ∧ R (.bk t) m', ct := fun ρ' m' => ∃ t, Le (el t) ρ' ∧ R (.ct t) m' }
structure BF (X : CD) (sts : List Stmt) (ρ : Rn) {σ τ : Type} (en : σ → Option Rn) (el : τ → Rn) (c : M (Fl σ τ)) : Prop where
  run : ∀ m R E, XF X E → c m R E → SX X sts ρ m (EF en el R)
def seqK {σ σ' τ : Type} (k : σ → M (Fl σ' τ)) : Fl σ τ → M (Fl σ' τ)
  | .nx s => k s
  | .rt d => ret (.rt d)
  | .bk t => ret (.bk t)
  | .ct t => ret (.ct t)
def seqF {σ σ' τ : Type} (c : M (Fl σ τ)) (k : σ → M (Fl σ' τ)) : M (Fl σ' τ) := bnd c (seqK k)
def rtM {σ τ : Type} (d : D) : M (Fl σ τ) := ret (.rt d)
section
variable {X : CD} {sts rest A B body : List Stmt} {ρ ρ' : Rn} {σ τ σ1 : Type} {en : σ → Option Rn} {el : τ → Rn} {e1 : σ1 → Rn} {c ca cb k : M (Fl σ τ)} {ce : M D} {ct : M Bool} {e t tg it : Expr} {pos pos' p2 p3 : Pos} {x y : Str} {i j : Nat} {kd : D → M (Fl σ τ)} {ρd : D → Rn} {d : D}
theorem bf_nil {s : σ} {r : Rn} (h : en s = some r := by rfl) (l : Le r ρ) : BF X [] ρ en el (ret (.nx s)) := ⟨fun m R E _ k => s_nil ⟨s, r, h, l, k⟩⟩
theorem bf_ret (h : Ev X e ρ ce) : BF X (.Return (some e) pos :: rest) ρ en el (bnd ce rtM) := ⟨fun m R E xf k => s_cons (s_ret (h.run m _ E (xf ρ) k))⟩
theorem bf_expr (h : Ev X e ρ ce) (hk : BF X rest ρ en el k) (hs : swapsWith e none pos.line X.env = pure false := by rfl) : BF X (.Expr e pos :: rest) ρ en el (bnd ce fun _ => k) := ⟨fun m R E xf q =>
  s_cons (s_expr ((h.run m _ E (xf ρ) q).mono fun d m1 h1 => hk.run m1 R E xf h1) hs)⟩
theorem bf_set (h : Ev X e ρ ce) (hset : ∀ d, SetAt ρ i x d (ρd d)) (hk : ∀ d, BF X rest (ρd d) en el (kd d)) (hx : Loc X.env.scope x := by first | exact Or.inl rfl | exact Or.inr rfl) (hs : swapsWith e (some (.Name x pos')) pos.line X.env = pure false := by rfl)
    (hf : X.fn x = true ∨ X.env.scope.names.lookup x = some .local := by first | exact .inl rfl | exact .inr rfl | assumption) : BF X (.Assign [.Name x pos'] e pos :: rest) ρ en el (bnd ce kd) := ⟨fun m R E xf q =>
  s_cons (s_set ((h.run m _ E (xf ρ) q).mono fun d m1 h1 => ⟨i, ρd d, hset d, (hk d).run m1 R E xf h1⟩) hx hs hf)⟩
/-! if -/
theorem bf_if {ca cb : M (Fl σ1 τ)} {k : σ1 → M (Fl σ τ)} (ht : Tv X t ρ ct) (ha : BF X A ρ (fun s => some (e1 s)) el ca) (hb : BF X B ρ (fun s => some (e1 s)) el cb) (hk : ∀ s, BF X rest (e1 s) en el (k s)) :
    BF X (.If t A B pos :: rest) ρ en el (seqF (bnd ct fun b => iteM b ca cb) k) := ⟨fun m R E xf q => by
  refine s_cons (s_if ((ht.run m _ E (xf ρ) q).mono fun b m1 h1 => ⟨fun eb => ?_, fun eb => ?_⟩))
  · refine (ha.run m1 _ E xf (h1.1 eb)).mono ?_ ?_ ?_ ?_
    · rintro ρ' m' ⟨s, r, e, l, h⟩
      cases e
      exact ((hk s).run m' R E xf h).le l
    · exact fun d m' h => h
    · exact fun ρ' m' h => h
    · exact fun ρ' m' h => h
  · refine (hb.run m1 _ E xf (h1.2 eb)).mono ?_ ?_ ?_ ?_
    · rintro ρ' m' ⟨s, r, e, l, h⟩
      cases e
      exact ((hk s).run m' R E xf h).le l
    · exact fun d m' h => h
    · exact fun ρ' m' h => h
    · exact fun ρ' m' h => h⟩
/-- the branch leaves -/
theorem bf_ifX (ht : Tv X t ρ ct) (ha : BF X A ρ (fun _ : σ => none) el ca) (hk : BF X rest ρ en el k) : BF X (.If t A [] pos :: rest) ρ en el (bnd ct fun b => iteM b ca k) := ⟨fun m R E xf q => by
  refine s_cons (s_if ((ht.run m _ E (xf ρ) q).mono fun b m1 h1 => ⟨fun eb => ?_, fun eb => ?_⟩))
  · refine (ha.run m1 R E xf (h1.1 eb)).mono ?_ ?_ ?_ ?_
    · rintro ρ' m' ⟨s, r, e, l, h⟩
      cases e
    · exact fun d m' h => h
    · exact fun ρ' m' h => h
    · exact fun ρ' m' h => h
  · exact s_nil (hk.run m1 R E xf (h1.2 eb))⟩
end

/-! ### for, while -/
def forF {σ τ : Type} (f : D → σ → M (Fl σ σ)) : List D → σ → M (Fl σ τ)
  | [], s => ret (.nx s)
  | d :: ds, s => bnd (f d s) fun fl => match fl with
    | .nx s' => forF f ds s'
    | .ct s' => forF f ds s'
    | .bk s' => ret (.nx s')
    | .rt d => ret (.rt d)
def whileN {σ τ : Type} (t : σ → M Bool) (f : σ → M (Fl σ σ)) : Nat → σ → M (Fl σ τ)
  | 0, _ => bad
  | n + 1, s => bnd (t s) fun k => iteM k (bnd (f s) fun fl => match fl with
    | .nx s' => whileN t f n s'
    | .ct s' => whileN t f n s'
    | .bk s' => ret (.nx s')
    | .rt d => ret (.rt d)) (ret (.nx s))
def whileF {σ τ : Type} (t : σ → M Bool) (f : σ → M (Fl σ σ)) (s : σ) : M (Fl σ τ) := fun m R E => ∃ n, whileN t f n s m R E
section
variable {X : CD} {rest body : List Stmt} {ρ : Rn} {σ τ σ1 : Type} {en : σ → Option Rn} {el : τ → Rn} {e1 : σ1 → Rn} {e t tg it : Expr} {pos p0 p1 p2 p3 : Pos} {x y z : Str} {i j l n0 : Nat} {d : D} {c : M (Fl σ τ)} {ρ1 : D → Rn} {ρ2 : D → D → Rn} {ρ3 : D → D → D → Rn}
/-- a target, then a block -/
structure BG (X : CD) (tg : Expr) (d : D) (body : List Stmt) (ρ : Rn) {σ τ : Type} (en : σ → Option Rn) (el : τ → Rn) (c : M (Fl σ τ)) : Prop where
  run : ∀ m R E, XF X E → c m R E → GX X tg d ρ m fun ρ2 m2 => SX X body ρ2 m2 (EF en el R)
theorem bg_name {ρ' : Rn} (hset : SetAt ρ i x d ρ') (hb : BF X body ρ' en el c) (hx : Loc X.env.scope x := by first | exact Or.inl rfl | exact Or.inr rfl) (hf : X.fn x = true ∨ X.env.scope.names.lookup x = some .local := by first | exact .inl rfl | exact .inr rfl | assumption) : BG X (.Name x pos) d body ρ en el c := ⟨fun m R E xf q =>
  g_name hset (hb.run m R E xf q) hx hf⟩
def ut2 {α : Type} (d : D) (k : D → D → M α) : M α := fun m R E => ∃ a b, d = .tup [a, b] ∧ k a b m R E
def ut3 {α : Type} (d : D) (k : D → D → D → M α) : M α := fun m R E => ∃ a b c, d = .tup [a, b, c] ∧ k a b c m R E
theorem bg_tup2 {k : D → D → M (Fl σ τ)} (h1 : ∀ a, SetAt ρ i x a (ρ1 a)) (h2 : ∀ a b, SetAt (ρ1 a) j y b (ρ2 a b)) (hb : ∀ a b, BF X body (ρ2 a b) en el (k a b)) (hx : Loc X.env.scope x := by first | exact Or.inl rfl | exact Or.inr rfl) (hf : X.fn x = true ∨ X.env.scope.names.lookup x = some .local := by first | exact .inl rfl | exact .inr rfl | assumption)
    (hx2 : Loc X.env.scope y := by first | exact Or.inl rfl | exact Or.inr rfl) (hf2 : X.fn y = true ∨ X.env.scope.names.lookup y = some .local := by first | exact .inl rfl | exact .inr rfl | assumption) (hc : X.calm = true := by rfl) : BG X (.Tuple [.Name x p1, .Name y p2] n0 p0) d body ρ en el (ut2 d k) := ⟨fun m R E xf ⟨a, b, e, q⟩ => by
  subst e
  exact g_tup (gs_cons (g_name (h1 a) (gs_cons (g_name (h2 a b) (gs_nil ((hb a b).run m R E xf q)) hx2 hf2)) hx hf)) hc⟩
/-- target = e -/
theorem bf_asg {ce : M D} {k : D → M (Fl σ τ)} (h : Ev X e ρ ce) (hg : ∀ d, BG X tg d rest ρ en el (k d)) (hs : swapsWithSole [tg] e pos.line X.env = pure false := by rfl) (hw : swappedStores [tg] e X.env = pure none := by rfl)
    (h1 : (assignEach [tg] X.env).map (·.2) = [assign tg X.env] := by rfl) : BF X (.Assign [tg] e pos :: rest) ρ en el (bnd ce k) := ⟨fun m R E xf q =>
  s_cons (s_asg ((h.run m _ E (xf ρ) q).mono fun d m1 h1 => (hg d).run m1 R E xf h1) hs hw h1)⟩
/-- a, b = x, y, both locals -/
theorem bf_par {a b : Expr} {ca cb : M D} {px py pt pt2 : Pos} {kt k2 : Nat} {k : D → D → M (Fl σ τ)} (ha : Ev X a ρ ca) (hb : Ev X b ρ cb) (h1 : ∀ u, SetAt ρ i x u (ρ1 u)) (h2 : ∀ u v, SetAt (ρ1 u) j y v (ρ2 u v)) (hij : i ≠ j) (hk : ∀ u v, BF X rest (ρ2 u v) en el (k u v))
    (hst : starEach [a, b] X.env = (false, eval a X.env) :: starEach [b] X.env := by rfl) (hst2 : starEach [b] X.env = (false, eval b X.env) :: starEach [] X.env := by rfl)
    (hw : swappedStores [.Tuple [.Name x px, .Name y py] kt pt] (.Tuple [a, b] k2 pt2) X.env = pure (some [x, y]) := by rfl) (hx : X.env.scope.names.lookup x = some .local := by rfl) (hy : X.env.scope.names.lookup y = some .local := by rfl) (hc : X.calm = true := by rfl)
    (hs : swapsWithSole [.Tuple [.Name x px, .Name y py] kt pt] (.Tuple [a, b] k2 pt2) pos.line X.env = pure false := by rfl) :
    BF X (.Assign [.Tuple [.Name x px, .Name y py] kt pt] (.Tuple [a, b] k2 pt2) pos :: rest) ρ en el (bnd ca fun u => bnd cb fun v => k u v) := ⟨fun m R E xf q =>
  s_cons (s_par (a_cons ((ha.run m _ E (xf ρ) q).mono fun u m1 h => a_cons ((hb.run m1 _ E (xf ρ) h).mono fun v m2 h => a_nil ⟨u, v, i, j, ρ1 u, ρ2 u v, rfl, h1 u, h2 u v, hij, (hk u v).run m2 R E xf h⟩) hst2) hst) hw hx hy hc hs)⟩
/-- o[i] = v -/
def stM (o i v : D) : M Unit := fun m R _ => match o, i with
  | .ref a, .int i => ∃ (n : Nat) (ds : List D) (j : Nat), m[n]? = some (a, .lst ds) ∧ ixN ds.length i = some j ∧ R () (m.set n (a, .lst (ds.set j v)))
  | .ref a, .tup kd => ∃ (n : Nat) (ks : List (List Int)) (ds : List D) (k : List Int), m[n]? = some (a, .dI ks ds) ∧ kd = k.map .int ∧ ks.length < 100000 ∧ ((∃ j, ks[j]? = some k ∧ R () (m.set n (a, .dI ks (ds.set j v)))) ∨ (k ∉ ks ∧ R () (m.set n (a, .dI (ks ++ [k]) (ds ++ [v])))))
  | _, _ => False
theorem stM_ok {o i v : D} {m : Led} {R : Unit → Led → Prop} {E : XR} (hu : X.A.units + 64 < cLine) (h : stM o i v m R E) : StX X o i v m (R ()) := by
  cases o <;> cases i <;> try exact h.elim
  · obtain ⟨n, ds, j, h1, h2, h3⟩ := h
    exact st_lst h1 h2 h3
  · obtain ⟨n, ks, ds, k, h1, rfl, h2, h3⟩ := h
    exact st_dict hu h1 h2 h3
theorem bf_sub {o ix : Expr} {ce co ci : M D} {k : M (Fl σ τ)} (hu : X.A.units + 64 < cLine) (he : Ev X e ρ ce) (ho : Ev X o ρ co) (hi : Ev X ix ρ ci) (hk : BF X rest ρ en el k) (hs : swapsWithSole [.Subscript o ix p1] e pos.line X.env = pure false := by rfl) (hw : swappedStores [.Subscript o ix p1] e X.env = pure none := by rfl)
    (h1 : (assignEach [.Subscript o ix p1] X.env).map (·.2) = [assign (.Subscript o ix p1) X.env] := by rfl) (ha : ∀ v, assign (.Subscript o ix p1) X.env v = (do
      let ov ← holding [v] (eval o X.env)
      let iv ← holding [v, ov] (eval ix X.env)
      standAt p1
      holding [v, ov, iv] (setItem ov iv v)
      release [v, ov, iv] []) := by intro _; rfl) : BF X (.Assign [.Subscript o ix p1] e pos :: rest) ρ en el (bnd ce fun v => bnd co fun ov => bnd ci fun iv => bnd (stM ov iv v) fun _ => k) := ⟨fun m R E xf q =>
  s_cons (s_asg ((he.run m _ E (xf ρ) q).mono fun v m1 h => g_sub ((ho.run m1 _ E (xf ρ) h).mono fun ov m2 h => (hi.run m2 _ E (xf ρ) h).mono fun iv m3 h => StX.mono (stM_ok hu h) fun m4 h => hk.run m4 R E xf h) ha) hs hw h1)⟩
theorem bf_for {ci : M (List D)} {f : D → σ1 → M (Fl σ1 σ1)} {k : σ1 → M (Fl σ τ)} {s0 : σ1} (hi : Iv X tg it ρ ci) (h0 : Le (e1 s0) ρ) (hb : ∀ d s, BG X tg d body (e1 s) (fun s => some (e1 s)) e1 (f d s)) (hk : ∀ s, BF X rest (e1 s) en el (k s))
    (hc : X.calm = true := by rfl) (hs : ∀ x, foldedSetIterable it X.env x = pure x := by intro _; rfl) : BF X (.For tg it body [] pos :: rest) ρ en el (bnd ci fun ds => seqF (forF f ds s0) k) := ⟨fun m R E xf q => by
  refine s_cons (s_for ((hi.run m _ E (xf ρ) q).mono fun ds m1 h => ?_) hc hs)
  refine ⟨fun i ρ' m' => ∃ s, Le (e1 s) ρ' ∧ seqF (forF f (ds.drop i) s) k m' R E, ⟨s0, h0, h⟩, ?_, ?_⟩
  · rintro i d ρ' m' hd ⟨s, l, hI⟩
    rw [drop_at hd] at hI
    refine GX.mono (((hb d s).run m' _ E xf hI).le l) fun ρ2 m2 hx => hx.mono ?_ ?_ ?_ ?_
    · rintro ρ3 m3 ⟨s', r, e, l', h'⟩
      cases e
      exact ⟨s', l', h'⟩
    · exact fun d m' h => h
    · rintro ρ3 m3 ⟨s', l', h'⟩
      exact ((hk s').run m3 R E xf h').le l'
    · rintro ρ3 m3 ⟨s', l', h'⟩
      exact ⟨s', l', h'⟩
  · rintro ρ' m' ⟨s, l, hI⟩
    rw [List.drop_length] at hI
    exact ((hk s).run m' R E xf hI).le l⟩
theorem bf_while {ct : σ1 → M Bool} {f : σ1 → M (Fl σ1 σ1)} {k : σ1 → M (Fl σ τ)} {s0 : σ1} (ht : ∀ s, Tv X t (e1 s) (ct s)) (h0 : Le (e1 s0) ρ) (hb : ∀ s, BF X body (e1 s) (fun s => some (e1 s)) e1 (f s)) (hk : ∀ s, BF X rest (e1 s) en el (k s)) :
    BF X (.While t body [] pos :: rest) ρ en el (seqF (whileF ct f s0) k) := ⟨fun m R E xf ⟨n, q⟩ => by
  refine s_cons (s_while (fun n ρ' m' => ∃ s, Le (e1 s) ρ' ∧ bnd (whileN ct f n s) (seqK k) m' R E) n ⟨s0, h0, q⟩ ?_)
  rintro n ρ' m' ⟨s, l, hI⟩
  cases n with
  | zero => exact hI.elim
  | succ n =>
    refine TX.mono (((ht s).run m' _ E (xf _) hI).le l) fun kk m1 h1 => ⟨fun ek => ?_, fun ek => ?_⟩
    · refine ((hb s).run m1 _ E xf (h1.1 ek)).le l |>.mono ?_ ?_ ?_ ?_
      · rintro ρ3 m3 ⟨s', r, e, l', h'⟩
        cases e
        exact ⟨n, Nat.lt_succ_self n, s', l', h'⟩
      · exact fun d m' h => h
      · rintro ρ3 m3 ⟨s', l', h'⟩
        exact ((hk s').run m3 R E xf h').le l'
      · rintro ρ3 m3 ⟨s', l', h'⟩
        exact ⟨n, Nat.lt_succ_self n, s', l', h'⟩
    · exact ((hk s).run m1 R E xf (h1.2 ek)).le l⟩
end
end DL


namespace DL
open PySem PySem.Spec PySem.Calls PyProof.Rows L2 RZ

section
variable {X : CD} {elt it t : Expr} {scope : Scope} {ifs : List Expr} {ρ : Rn} {pos py p0 p1 p2 px spos : Pos} {y z x : Str} {i j k n0 : Nat} {ci : M (List D)} {f : D → M (Option D)} {rest : List Stmt} {σ τ : Type} {en : σ → Option Rn} {el : τ → Rn} {kd : D → M (Fl σ τ)} {ρd : D → Rn}
/-! x = [..] -/
theorem CompI.mono {R R' : List D → Led → Prop} {ds : List D} {m : Led} (h : CompI X scope ifs elt y j ρ R ds m) (q : ∀ acc m', R acc m' → R' acc m') : CompI X scope ifs elt y j ρ R' ds m := let ⟨I, a, b, c⟩ := h; ⟨I, a, b, fun acc m' z => q _ _ (c acc m' z)⟩
theorem CompP.mono {R R' : List D → Led → Prop} {ds : List D} {m : Led} (h : CompP X scope ifs elt y j z k ρ R ds m) (q : ∀ acc m', R acc m' → R' acc m') : CompP X scope ifs elt y j z k ρ R' ds m := let ⟨I, a, b, c⟩ := h; ⟨I, a, b, fun acc m' z => q _ _ (c acc m' z)⟩
theorem bf_setLc (hj : SlotAt ρ j y) (hsl : SlotAt ρ i x) (hi : Iv X (.Name y py) it ρ ci) (hcv : Cv X scope ifs elt y j ρ f) (hset : ∀ d, SetAt ρ i x d (ρd d)) (hk : ∀ d, BF X rest (ρd d) en el (kd d))
    (hxl : X.env.scope.names.lookup x = some .local := by rfl) (ha : (scope.names.any fun (n, k) => n == x && (k == .local || k == .cell)) = false := by decide +kernel) (hkk : X.env.scope.kind = .function := by rfl) (hln : (px.line == pos.line) = true := by rfl)
    (hl1 : ifs.length ≤ 1 := by decide) (hok : blkC X.N X.env.scope scope [(y, j)] = true := by kernel_rfl)
    (hx : ∀ cl C, Loc (compEnvC scope cl C X.env).scope y := by intro _ _; first | exact Or.inl rfl | exact Or.inr rfl) (hf : ∀ cl C, (scope.names.lookup y == some .cell) = true ∨ (compEnvC scope cl C X.env).scope.names.lookup y = some .local := by intro _ _; first | exact .inl rfl | exact .inr rfl)
    (hc : X.calm = true := by rfl) (hs : ∀ x, foldedSetIterable it X.env x = pure x := by intro _; rfl) : BF X (.Assign [.Name x px] (.ListComp elt [⟨.Name y py, it, ifs, 0⟩] scope pos) spos :: rest) ρ en el (bnd (bnd ci fun ds => bnd (compM f ds []) lsM) kd) := ⟨fun m R E xf h =>
  s_cons (s_setLc hj hsl ((hi.run m _ E (xf ρ) h).mono fun ds m1 h => (hcv.I h).mono fun acc m' h => ⟨_, hset _, (hk _).run m' R E xf h⟩) hxl ha hkk hln hl1 hok hx hf hc hs)⟩
theorem bf_setLcM (hj : SlotAt ρ j y) (hsl : SlotAt ρ i x) (hi : Iv X (.Name y py) it ρ ci) (hcv : Cv X scope ifs elt y j ρ f) (hset : ∀ d, SetAt ρ i x d (ρd d)) (hk : ∀ d, BF X rest (ρd d) en el (kd d))
    (hxl : X.env.scope.names.lookup x = some .local := by rfl) (ha : (scope.names.any fun (n, k) => n == x && (k == .local || k == .cell)) = false := by decide +kernel) (hkk : X.env.scope.kind = .function := by rfl) (hln : (px.line == pos.line) = true := by rfl)
    (hl1 : ifs.length ≤ 1 := by decide) (hok : blkC X.N X.env.scope scope [(y, j)] = true := by kernel_rfl)
    (hx : ∀ cl C, Loc (compEnvC scope cl C X.env).scope y := by intro _ _; first | exact Or.inl rfl | exact Or.inr rfl) (hf : ∀ cl C, (scope.names.lookup y == some .cell) = true ∨ (compEnvC scope cl C X.env).scope.names.lookup y = some .local := by intro _ _; first | exact .inl rfl | exact .inr rfl)
    (hc : X.calm = true := by rfl) (hs : ∀ x, foldedSetIterable it X.env x = pure x := by intro _; rfl) : BF X (.Assign [.Name x px] (.ListComp elt [⟨.Name y py, it, ifs, 0⟩] scope pos) spos :: rest) ρ en el (bnd (bnd ci fun ds => bnd (compM f ds []) lsMM) kd) := ⟨fun m R E xf h =>
  s_cons (s_setLcM hj hsl ((hi.run m _ E (xf ρ) h).mono fun ds m1 h => (hcv.I h).mono fun acc m' h => fun p => ⟨_, hset _, (hk _).run _ R E xf (h p)⟩) hxl ha hkk hln hl1 hok hx hf hc hs)⟩
theorem bf_setLcPM (hj : SlotAt ρ j y) (hk0 : SlotAt ρ k z) (hsl : SlotAt ρ i x) (hi : Iv X (.Tuple [.Name y p1, .Name z p2] n0 p0) it ρ ci) (hcv : CvP X scope ifs elt y j z k ρ f) (hset : ∀ d, SetAt ρ i x d (ρd d)) (hk : ∀ d, BF X rest (ρd d) en el (kd d))
    (hxl : X.env.scope.names.lookup x = some .local := by rfl) (ha : (scope.names.any fun (n, k) => n == x && (k == .local || k == .cell)) = false := by decide +kernel) (hkk : X.env.scope.kind = .function := by rfl) (hln : (px.line == pos.line) = true := by rfl)
    (hl1 : ifs.length ≤ 1 := by decide) (hok : blkC X.N X.env.scope scope [(y, j), (z, k)] = true := by kernel_rfl)
    (hx : ∀ cl C, Loc (compEnvC scope cl C X.env).scope y := by intro _ _; first | exact Or.inl rfl | exact Or.inr rfl) (hx2 : ∀ cl C, Loc (compEnvC scope cl C X.env).scope z := by intro _ _; first | exact Or.inl rfl | exact Or.inr rfl) (hf : ∀ cl C, (scope.names.lookup y == some .cell) = true ∨ (compEnvC scope cl C X.env).scope.names.lookup y = some .local := by intro _ _; first | exact .inl rfl | exact .inr rfl)
    (hf2 : ∀ cl C, (scope.names.lookup z == some .cell) = true ∨ (compEnvC scope cl C X.env).scope.names.lookup z = some .local := by intro _ _; first | exact .inl rfl | exact .inr rfl)
    (hc : X.calm = true := by rfl) (hs : ∀ x, foldedSetIterable it X.env x = pure x := by intro _; rfl) : BF X (.Assign [.Name x px] (.ListComp elt [⟨.Tuple [.Name y p1, .Name z p2] n0 p0, it, ifs, 0⟩] scope pos) spos :: rest) ρ en el (bnd (bnd ci fun ds => bnd (compM f ds []) lsMM) kd) := ⟨fun m R E xf h =>
  s_cons (s_setLcPM hj hk0 hsl ((hi.run m _ E (xf ρ) h).mono fun ds m1 h => (hcv.I h).mono fun acc m' h => fun p => ⟨_, hset _, (hk _).run _ R E xf (h p)⟩) hxl ha hkk hln hl1 hok hx hx2 hf hf2 hc hs)⟩
end
section
variable {X : CD} {e o : Expr} {es : List Expr} {ρ : Rn} {pos apos cpos p p2 pos' np : Pos} {x nm f : Str} {i j k n : Nat} {rest A B body suite : List Stmt} {b₀ : Stmt} {σ τ σ1 : Type} {en : σ → Option Rn} {el : τ → Rn} {e1 : σ1 → Rn} {kd : D → M (Fl σ τ)} {ρd : D → Rn} {ce co : M D} {d : D} {c : M (Fl σ τ)} {ct : M Bool} {t : Expr} {mg : Str → Option Value} {P : Program} {w : World} {K : Frag} {base : Heap} {C : Addr}
/-- a list of the ledger that is not changed any more -/
theorem bf_frz (hl : LookAt ρ i x d) (hset : ∀ u, SetAt ρ i x u (ρd u)) (hk : ∀ u, BF X rest (ρd u) en el (kd u)) : BF X rest ρ en el (bnd (frzM d) kd) := ⟨fun m R E xf h => by
  have self : ∀ {d}, LookAt ρ i x d → ρd d = ρ := fun {d} hl => by
    obtain ⟨h1, _⟩ := (hset d).eq
    rw [h1]
    apply List.ext_getElem?
    intro j
    by_cases hj : i = j
    · subst hj
      rw [List.getElem?_set_self (List.getElem?_eq_some_iff.mp hl.get).1, hl.get]
    · rw [List.getElem?_set_ne hj]
  cases d with
  | ref p =>
    rcases h with ⟨n, ds, hm, h⟩ | ⟨n, ks, ds, hm, h⟩
    · exact s_freeze hm hl (hset _) ((hk _).run _ R E xf h)
    · refine .mk fun F σ H en at_ => ?_
      obtain ⟨F2, s2, q2⟩ := Step.freezeD at_.toAt hm
      exact SSs.step s2 (((hk _).run _ R E xf h).run F2 σ H (look_same (en.mono s2.ex) hl (hset _) q2) (at_.to s2))
  | _ =>
    have := (hk _).run m R E xf h
    rw [self hl] at this
    exact this⟩
/-! xs.append(e) -/
def chkL (d : D) : M Unit := fun m R _ => match d with
  | .ref a => ∃ (n : Nat) (ds : List D), m[n]? = some (a, .lst ds) ∧ R () m
  | _ => False
def appM (d y : D) : M D := fun m R _ => match d with
  | .ref a => ∃ (n : Nat) (ds : List D), m[n]? = some (a, .lst ds) ∧ ds.length < 100000 ∧ R .non (m.set n (a, .lst (ds ++ [y])))
  | _ => False
theorem ev_append (ho : Ev X o ρ co) (he : Ev X e ρ ce) (hbase : attributeBase o "append" X.env (eval o X.env) = eval o X.env := by rfl)
    (hfew : ((backTo cpos (starEach [e] X.env)).all (fun x => !x.1) && (backToKw cpos (keywordEach [] X.env)).all (fun x => x.1.isSome)
      && decide ([e].length + ([] : List Keyword).length + (if ([] : List Keyword).isEmpty then 0 else 1) < 30)) = true := by rfl)
    (hline : (apos.endLine == cpos.line) = true := by rfl) (hs : starEach [e] X.env = (false, eval e X.env) :: starEach [] X.env := by rfl) :
    Ev X (.Call (.Attribute o "append" apos) [e] [] cpos) ρ (bnd co fun u => bnd (chkL u) fun _ => bnd ce fun y => appM u y) := ⟨fun m R E xa h =>
  x_append ((ho.run m _ E xa h).mono fun u m1 h => by
    cases u <;> try exact h.elim
    obtain ⟨n, ds, hm, h⟩ := h
    exact ⟨_, n, ds, rfl, hm, (he.run m1 _ E xa h).mono fun y m2 h => h⟩) hbase hfew hline hs⟩
/-! raise -/
def raiM {α : Type} (nm : Str) (fd : Option (Str × D)) : M α := fun m _ E => E nm fd m
theorem bf_raise0 (G : XK0 P w K mg nm C) (hr : Room 1 X.A) (hX : X.prog = P ∧ X.w = w ∧ X.K = K ∧ X.mg = mg := by exact ⟨rfl, rfl, rfl, rfl⟩) (hc : X.calm = true := by rfl) (hg : Gl X nm := by rfl) (hdb : (nm == ("__debug__" : Str)) = false := by decide) :
    BF X (.Raise (some (.Call (.Name nm p) [] [] pos)) none p2 :: rest) ρ en el (raiM nm none) := ⟨fun m R E xf h => s_cons (c_raise0 G hr (xf ρ _ _ _ h) hX hc hg hdb)⟩
theorem bf_raise1 (G : XK1 P w K mg nm f C) (hr : Room 1 X.A) (he : Ev X e ρ ce) (hX : X.prog = P ∧ X.w = w ∧ X.K = K ∧ X.mg = mg := by exact ⟨rfl, rfl, rfl, rfl⟩) (hc : X.calm = true := by rfl) (hg : Gl X nm := by rfl) (hdb : (nm == ("__debug__" : Str)) = false := by decide)
    (hst : starEach [e] X.env = (false, eval e X.env) :: starEach [] X.env := by rfl) : BF X (.Raise (some (.Call (.Name nm p) [e] [] pos)) none p2 :: rest) ρ en el (bnd ce fun d => raiM nm (some (f, d))) := ⟨fun m R E xf h =>
  s_cons (c_raise1 G hr ((he.run m _ E (xf ρ) h).mono fun d m1 h => xf ρ _ _ _ h) hX hc hg hdb hst)⟩
/-! try: the body is one statement, or ifs of such, so that what is raised finds the names as they are -/
structure BY (X : CD) (sts : List Stmt) (ρ : Rn) {σ τ : Type} (en : σ → Option Rn) (el : τ → Rn) (c : M (Fl σ τ)) : Prop where
  run : ∀ m R E, XA X ρ E → c m R E → SX X sts ρ m (EF en el R)
theorem by_ret (h : Ev X e ρ ce) : BY X (.Return (some e) pos :: rest) ρ en el (bnd ce rtM) := ⟨fun m R E xa k => s_cons (s_ret (h.run m _ E xa k))⟩
/-- the clause's suite returns -/
def noF (t : Empty) : Rn := nomatch t
def upF {σ τ : Type} : Fl Empty Empty → M (Fl σ τ)
  | .rt d => ret (.rt d)
  | _ => bad
def tryM {σ τ : Type} (cls : List (Str × Bool)) (cb : M (Fl σ τ)) (ch : Option (Str × D) → M (Fl Empty Empty)) : M (Fl σ τ) := fun m R E => cb m R (fun nm fd m2 => ∃ b, (nm, b) ∈ cls ∧ (b = true → bnd (ch fd) upF m2 R NoX) ∧ (b = false → E nm fd m2))
/-- e.f in such a suite -/
def exfM (f : Str) (fd : Option (Str × D)) : M D := fun m R _ => ∃ v, fd = some (f, v) ∧ R v m
end

/-! ### defs -/
/-- what a def gives: its own lists of the ledger are forgotten -/
def fnR (m : Led) (R : D → Led → Prop) : Fl Unit Empty → Led → Prop
  | .rt d, m' => R d (m'.take m.length)
  | .nx _, m' => R .non (m'.take m.length)
  | _, _ => False
def fnM (c : M (Fl Unit Empty)) : M D := fun m R E => c m (fnR m R) fun nm fd m' => E nm fd (m'.take m.length)
/-- .. are kept -/
def fnRK (R : D → Led → Prop) : Fl Unit Empty → Led → Prop
  | .rt d, m' => R d m'
  | .nx _, m' => R .non m'
  | _, _ => False
def fnK (c : M (Fl Unit Empty)) : M D := fun m R E => c m (fnRK R) E
def sp1 (f : D → M D) : SpX := fun ds => match ds with
  | [a] => f a
  | _ => bad
def sp2 (f : D → D → M D) : SpX := fun ds => match ds with
  | [a, b] => f a b
  | _ => bad
def sp3 (f : D → D → D → M D) : SpX := fun ds => match ds with
  | [a, b, c] => f a b c
  | _ => bad
def sp4 (f : D → D → D → D → M D) : SpX := fun ds => match ds with
  | [a, b, c, d] => f a b c d
  | _ => bad
def sp5 (f : D → D → D → D → D → M D) : SpX := fun ds => match ds with
  | [a, b, c, d, e] => f a b c d e
  | _ => bad
def sp6 (f : D → D → D → D → D → D → M D) : SpX := fun ds => match ds with
  | [a, b, c, d, e, g] => f a b c d e g
  | _ => bad
def allN (N : List Str) (_ : Unit) : Option Rn := some (N.map fun x => (x, none))
theorem Le.all : ∀ {ρ : Rn} {N : List Str}, ρ.map (·.1) = N → Le (N.map fun x => (x, none)) ρ
  | [], _, h => by subst h; exact .nil
  | (x, o) :: r, _, h => by subst h; exact .drop (Le.all rfl)
section
variable {P : Program} {w : World} {K : Frag} {mg : Str → Option Value} {base : Heap} {x qual : Str} {st : Stmt} {f : Addr} {fd : FuncData} {dvs : List V} {N ps : List Str} {k : Nat}
/-- the context of a def's body -/
abbrev XD (P : Program) (w : World) (K : Frag) (mg : Str → Option Value) (base : Heap) (N : List Str) (qual : Str) (st : Stmt) (f : Addr) (cdv : Value) (A : Around) (outer : List PySem.Env) (s : Shared) (H : Hp) (E : XK) (XR : XR) : CD := ⟨cxOf (L2.CX P w) P w K mg base N qual (defScope st) f cdv A outer s H E, fun nm fd _ m2 => ∃ m3, m3.Sublist m2 ∧ XR nm fd m3⟩
theorem fn_ok {c : List D → M (Fl Unit Empty)} (n : Nat) (hn : ps.length = n) (F : FnD K x qual st dvs f fd) (S : FnScope N ps (defScope st))
    (body : ∀ (cdv : Value) (A : Around) (outer : List PySem.Env) (s : Shared) (H : Hp) (E : XK) (Z : XR), Room k (A.deeper (envOfC qual (defScope st) s.heap.objs.size f cdv)) → ∀ ds, ds.length = n → BF (XD P w K mg base N qual st f cdv A outer s H E Z) (defBody st) (startR N ds) (allN N) noF (c ds)) :
    FnOk P w K mg base (L2.CX P w) (k + 1) f fd ps (liftX K mg fun ds m R E => ds.length = n ∧ fnM (c ds) m R E) := by
  refine def_okD F S (fun ds m R E h => by rw [hn]; exact h.1) ?_
  intro cdv A outer s H E ds m R Z hr ⟨hl, h⟩
  refine ((body cdv A outer s H E Z hr ds hl).run m _ _ (fun ρ nm fd m2 h => ⟨_, List.take_sublist _ _, h⟩) h).mono ?_ ?_ ?_ ?_
  · rintro ρ' m' ⟨u, r, e, l, h⟩
    exact ⟨_, List.take_sublist _ _, h⟩
  · exact fun d m' h => ⟨_, List.take_sublist _ _, h⟩
  · rintro ρ' m' ⟨u, _⟩
    exact nomatch u
  · rintro ρ' m' ⟨u, _⟩
    exact nomatch u
theorem fn_okK {c : List D → M (Fl Unit Empty)} (n : Nat) (hn : ps.length = n) (F : FnD K x qual st dvs f fd) (S : FnScope N ps (defScope st))
    (body : ∀ (cdv : Value) (A : Around) (outer : List PySem.Env) (s : Shared) (H : Hp) (E : XK) (Z : XR), Room k (A.deeper (envOfC qual (defScope st) s.heap.objs.size f cdv)) → ∀ ds, ds.length = n → BF (XD P w K mg base N qual st f cdv A outer s H E Z) (defBody st) (startR N ds) (allN N) noF (c ds)) :
    FnOk P w K mg base (L2.CX P w) (k + 1) f fd ps (liftX K mg fun ds m R E => ds.length = n ∧ fnK (c ds) m R E) := by
  refine def_okD F S (fun ds m R E h => by rw [hn]; exact h.1) ?_
  intro cdv A outer s H E ds m R Z hr ⟨hl, h⟩
  refine ((body cdv A outer s H E Z hr ds hl).run m _ _ (fun ρ nm fd m2 h => ⟨_, List.Sublist.refl _, h⟩) h).mono ?_ ?_ ?_ ?_
  · rintro ρ' m' ⟨u, r, e, l, h⟩
    exact ⟨_, List.Sublist.refl _, h⟩
  · exact fun d m' h => ⟨_, List.Sublist.refl _, h⟩
  · rintro ρ' m' ⟨u, _⟩
    exact nomatch u
  · rintro ρ' m' ⟨u, _⟩
    exact nomatch u
theorem liftX_mono {sp sp' : SpX} (h : ∀ ds m R E, sp' ds m R E → sp ds m R E) (ok : FnOk P w K mg base (L2.CX P w) k f fd ps (liftX K mg sp)) : FnOk P w K mg base (L2.CX P w) k f fd ps (liftX K mg sp') :=
  ok.imp fun vs H Q E ⟨F, m, ds, R, XR, h1, h2, h3, h4⟩ => ⟨F, m, ds, R, XR, h1, h2, h _ _ _ _ h3, h4⟩
theorem fn1 {cf : D → M (Fl Unit Empty)} (F : FnD K x qual st dvs f fd) (S : FnScope N ps (defScope st))
    (body : ∀ (cdv : Value) (A : Around) (outer : List PySem.Env) (s : Shared) (H : Hp) (E : XK) (Z : XR), Room k (A.deeper (envOfC qual (defScope st) s.heap.objs.size f cdv)) → ∀ a, BF (XD P w K mg base N qual st f cdv A outer s H E Z) (defBody st) (startR N [a]) (allN N) noF (cf a)) (hn : ps.length = 1 := by rfl) :
    FnOk P w K mg base (L2.CX P w) (k + 1) f fd ps (liftX K mg (sp1 fun a => fnM (cf a))) := by
  refine liftX_mono (fun ds m R E h => ?_) (fn_ok (c := fun ds => match ds with | [a] => cf a | _ => bad) 1 hn F S fun cdv A outer s H E Z hr ds hl => ?_)
  · match ds, h with
    | [a], h => exact ⟨rfl, h⟩
  · match ds, hl with
    | [a], _ => exact body cdv A outer s H E Z hr a
theorem fk1 {cf : D → M (Fl Unit Empty)} (F : FnD K x qual st dvs f fd) (S : FnScope N ps (defScope st))
    (body : ∀ (cdv : Value) (A : Around) (outer : List PySem.Env) (s : Shared) (H : Hp) (E : XK) (Z : XR), Room k (A.deeper (envOfC qual (defScope st) s.heap.objs.size f cdv)) → ∀ a, BF (XD P w K mg base N qual st f cdv A outer s H E Z) (defBody st) (startR N [a]) (allN N) noF (cf a)) (hn : ps.length = 1 := by rfl) :
    FnOk P w K mg base (L2.CX P w) (k + 1) f fd ps (liftX K mg (sp1 fun a => fnK (cf a))) := by
  refine liftX_mono (fun ds m R E h => ?_) (fn_okK (c := fun ds => match ds with | [a] => cf a | _ => bad) 1 hn F S fun cdv A outer s H E Z hr ds hl => ?_)
  · match ds, h with
    | [a], h => exact ⟨rfl, h⟩
  · match ds, hl with
    | [a], _ => exact body cdv A outer s H E Z hr a
theorem fn2 {cf : D → D → M (Fl Unit Empty)} (F : FnD K x qual st dvs f fd) (S : FnScope N ps (defScope st))
    (body : ∀ (cdv : Value) (A : Around) (outer : List PySem.Env) (s : Shared) (H : Hp) (E : XK) (Z : XR), Room k (A.deeper (envOfC qual (defScope st) s.heap.objs.size f cdv)) → ∀ a b, BF (XD P w K mg base N qual st f cdv A outer s H E Z) (defBody st) (startR N [a, b]) (allN N) noF (cf a b)) (hn : ps.length = 2 := by rfl) :
    FnOk P w K mg base (L2.CX P w) (k + 1) f fd ps (liftX K mg (sp2 fun a b => fnM (cf a b))) := by
  refine liftX_mono (fun ds m R E h => ?_) (fn_ok (c := fun ds => match ds with | [a, b] => cf a b | _ => bad) 2 hn F S fun cdv A outer s H E Z hr ds hl => ?_)
  · match ds, h with
    | [a, b], h => exact ⟨rfl, h⟩
  · match ds, hl with
    | [a, b], _ => exact body cdv A outer s H E Z hr a b
theorem fk2 {cf : D → D → M (Fl Unit Empty)} (F : FnD K x qual st dvs f fd) (S : FnScope N ps (defScope st))
    (body : ∀ (cdv : Value) (A : Around) (outer : List PySem.Env) (s : Shared) (H : Hp) (E : XK) (Z : XR), Room k (A.deeper (envOfC qual (defScope st) s.heap.objs.size f cdv)) → ∀ a b, BF (XD P w K mg base N qual st f cdv A outer s H E Z) (defBody st) (startR N [a, b]) (allN N) noF (cf a b)) (hn : ps.length = 2 := by rfl) :
    FnOk P w K mg base (L2.CX P w) (k + 1) f fd ps (liftX K mg (sp2 fun a b => fnK (cf a b))) := by
  refine liftX_mono (fun ds m R E h => ?_) (fn_okK (c := fun ds => match ds with | [a, b] => cf a b | _ => bad) 2 hn F S fun cdv A outer s H E Z hr ds hl => ?_)
  · match ds, h with
    | [a, b], h => exact ⟨rfl, h⟩
  · match ds, hl with
    | [a, b], _ => exact body cdv A outer s H E Z hr a b
theorem fn3 {cf : D → D → D → M (Fl Unit Empty)} (F : FnD K x qual st dvs f fd) (S : FnScope N ps (defScope st))
    (body : ∀ (cdv : Value) (A : Around) (outer : List PySem.Env) (s : Shared) (H : Hp) (E : XK) (Z : XR), Room k (A.deeper (envOfC qual (defScope st) s.heap.objs.size f cdv)) → ∀ a b c, BF (XD P w K mg base N qual st f cdv A outer s H E Z) (defBody st) (startR N [a, b, c]) (allN N) noF (cf a b c)) (hn : ps.length = 3 := by rfl) :
    FnOk P w K mg base (L2.CX P w) (k + 1) f fd ps (liftX K mg (sp3 fun a b c => fnM (cf a b c))) := by
  refine liftX_mono (fun ds m R E h => ?_) (fn_ok (c := fun ds => match ds with | [a, b, c] => cf a b c | _ => bad) 3 hn F S fun cdv A outer s H E Z hr ds hl => ?_)
  · match ds, h with
    | [a, b, c], h => exact ⟨rfl, h⟩
  · match ds, hl with
    | [a, b, c], _ => exact body cdv A outer s H E Z hr a b c
theorem fn4 {cf : D → D → D → D → M (Fl Unit Empty)} (F : FnD K x qual st dvs f fd) (S : FnScope N ps (defScope st))
    (body : ∀ (cdv : Value) (A : Around) (outer : List PySem.Env) (s : Shared) (H : Hp) (E : XK) (Z : XR), Room k (A.deeper (envOfC qual (defScope st) s.heap.objs.size f cdv)) → ∀ a b c d, BF (XD P w K mg base N qual st f cdv A outer s H E Z) (defBody st) (startR N [a, b, c, d]) (allN N) noF (cf a b c d)) (hn : ps.length = 4 := by rfl) :
    FnOk P w K mg base (L2.CX P w) (k + 1) f fd ps (liftX K mg (sp4 fun a b c d => fnM (cf a b c d))) := by
  refine liftX_mono (fun ds m R E h => ?_) (fn_ok (c := fun ds => match ds with | [a, b, c, d] => cf a b c d | _ => bad) 4 hn F S fun cdv A outer s H E Z hr ds hl => ?_)
  · match ds, h with
    | [a, b, c, d], h => exact ⟨rfl, h⟩
  · match ds, hl with
    | [a, b, c, d], _ => exact body cdv A outer s H E Z hr a b c d
/-- the law's own def: nothing is raised -/
abbrev XL (P : Program) (w : World) (K : Frag) (mg : Str → Option Value) (base : Heap) (N : List Str) (qual : Str) (st : Stmt) (f : Addr) (cdv : Value) (A : Around) (outer : List PySem.Env) (s : Shared) (H : Hp) : CD := ⟨(cxOf CX0 P w K mg base N qual (defScope st) f cdv A outer s H E0).nox, fun _ _ _ _ => False⟩
theorem fn_law {cf : D → M (Fl Unit Empty)} (F : Fun K x qual st f fd) (S : FnScope N ps (defScope st))
    (body : ∀ (cdv : Value) (A : Around) (outer : List PySem.Env) (s : Shared) (H : Hp), Room k (A.deeper (envOfC qual (defScope st) s.heap.objs.size f cdv)) → ∀ a, BF (XL P w K mg base N qual st f cdv A outer s H) (defBody st) (startR N [a]) (allN N) noF (cf a)) (hn : ps.length = 1 := by rfl) :
    FnOk P w K mg base CX0 (k + 1) f fd ps (lift K fun ds m R => sp1 (fun a => fnM (cf a)) ds m R NoX) := by
  refine def_ok F S (fun ds m R h => ?_) ?_
  · rw [hn]
    match ds, h with
    | [a], _ => rfl
  · intro cdv A outer s H ds m R hr h
    match ds, h with
    | [a], h =>
      refine ((body cdv A outer s H hr a).run m _ NoX (fun _ _ _ _ z => z) h).mono ?_ ?_ ?_ ?_
      · rintro ρ' m' ⟨u, r, e, l, h⟩
        exact ⟨_, List.take_sublist _ _, h⟩
      · exact fun d m' h => ⟨_, List.take_sublist _ _, h⟩
      · rintro ρ' m' ⟨u, _⟩
        exact nomatch u
      · rintro ρ' m' ⟨u, _⟩
        exact nomatch u
/-- a def called within an except suite -/
abbrev XH (P : Program) (w : World) (K : Frag) (mg : Str → Option Value) (base : Heap) (N : List Str) (qual : Str) (st : Stmt) (f : Addr) (cdv : Value) (A : Around) (outer : List PySem.Env) (s : Shared) (H : Hp) (p : Addr × Obj) : CD := ⟨(L2H.cxH CX0 P w K mg base N qual (defScope st) f cdv A outer s H E0 p).nox, fun _ _ _ _ => False⟩
end
end DL


namespace DL
open PySem PySem.Spec PySem.Calls PySem.W PyProof.Rows L2 RZ

/-! ### the end: what the top has left, put together -/
section
variable {P : Program} {w : World} {K : Frag} {mg : Str → Option Value} {base : Heap} {x qual : Str} {st : Stmt} {f : Addr} {fd : FuncData} {dvs : List V} {ps : List Str} {k n : Nat} {sp : SpX}
theorem knows0 (ok : FnOk P w K mg base (L2.CX P w) k f fd ps (liftX K mg sp)) (hm : mg x = some (.ref f)) (hk : keepIn K (.ref f) = true) (hb : Binds K fd ps []) (hl : ps.length = n := by rfl) : KnowsX P w K mg base k x n [] sp :=
  ⟨f, fd, ps, [], [], ok, hm, hk, hb, .nil, fun _ => .nil, hl⟩
theorem knowsD {dd : List D} (ok : FnOk P w K mg base (L2.CX P w) k f fd ps (liftX K mg sp)) (hm : mg x = some (.ref f)) (hk : keepIn K (.ref f) = true) (hb : ∃ ds, Vals dvs ds ∧ Binds K fd ps ds) (hd : ∀ F, Dens K F dvs dd) (hl : ps.length = n := by rfl) : KnowsX P w K mg base k x n dd sp := by
  obtain ⟨ds, hv, hb⟩ := hb
  exact ⟨f, fd, ps, ds, dvs, ok, hm, hk, hb, hv, hd, hl⟩
theorem KnowsP.mono {spd : SpD} {j : Nat} (h : KnowsP P w K mg base k x n spd) (hj : k ≤ j) : KnowsP P w K mg base j x n spd := by
  obtain ⟨f, fd, ps, FR, r⟩ := h.fn
  exact ⟨f, fd, ps, fun A outer s H args us vs Q E p hr => FR A outer s H args us vs Q E p (hr.mono hj), r⟩
/-- a def with a closure (an __init__ that says super()) -/
abbrev fnC (name qual : Str) (st : Stmt) (cc cda : Addr) (kV doc pm : Value) (an : Option Addr) (ct : Value) : FuncData :=
  { name, qualname := qual, params := defArgs st, body := .stmts (defBody st), scope := defScope st, globals := mainGlobals, closure := [(("__class__" : Str), cc)], defaults := .none, kwdefaults := kV, doc, pyModule := pm, annotations := an, code := .ref cda, closureTuple := ct, builtins := builtinsNs }
theorem xin_mk {C fI cc cda N : Addr} {q nm qq : Str} {bs bm : List Value} {sn : List Str} {sub : List Value} {ab : Bool} {col : Option Bool} {dd : Option Addr} {k0 k1 k2 k3 k5 : Option Value} {kV doc pm ct oc ccl cl : Value} {an od cdd cld : Option Addr} {osl ccs csl : Array (Option Value)} {vs : Array Value} {file : Str} {tf : Tok}
    (lx : K.lookup C = some (excClassObj nm qq C N bs bm true sn sub ab col dd k0 k1 k2 k3 k5 "ValueError.__new__")) (rx : PySem.HandSPX.refsVE bm = true) (sx : findIn K (.ref C) "__setattr__" = some (some (.builtin "object.__setattr__")))
    (bx : subIn K (.ref C) (.type "BaseException") = some true) (tx : typeIn K (.ref C) = some (.type "type")) (kx : keepIn K (.ref C) = true) (ix : findIn K (.ref C) "__init__" = some (some (.ref fI))) (ux : typeIn K (.ref fI) = some (.type "function"))
    (fx : K.lookup fI = some ⟨oc, od, .func (fnC "__init__" q st cc cda kV doc pm an ct), osl⟩) (cx : codeIn K (.ref cda) q = true) (dx : K.lookup cda = some ⟨ccl, cdd, .fields vs, ccs⟩) (d2 : vs[2]? = some (.str file tf)) (d3 : ((P.main.file : Str) == file) = true)
    (ex : K.lookup cc = some ⟨cl, cld, .cell (some (.ref C)), csl⟩) (px : ks_superIn K C C "__init__" = some (some (.builtin "ValueError.__init__"))) (mx : mroIn K C (.ref C) = some true) (vx : subIn K (.ref C) (.type "ValueError") = some true)
    (qx : nsIn K cStatics "thirdparty.any" = some none) (ox : excInitIn K C [.type "ValueError", .type "Exception", .type "BaseException", .type "object"] "ValueError.__new__" = true) (zs : mg "super" = none) (tp : (P.main.scope.names.lookup ("super" : Str)).isSome = false) :
    XIn P K mg C fI cc cda q (fnC "__init__" q st cc cda kV doc pm an ct) :=
  { T := ⟨⟨nm, qq, N, bs, bm, sn, sub, ab, col, dd, k0, k1, k2, k3, k5, lx, rx⟩, sx, bx, tx, kx⟩, iC := ix, tI := ux, lf := ⟨oc, od, osl, fx⟩, lc := cx, fq := rfl, fc := rfl, fl := rfl, fg := rfl, fb := rfl, hcode := ⟨ccl, cdd, vs, ccs, file, tf, dx, d2, d3⟩, hcell := ⟨cl, cld, csl, ex⟩, sup := px, sub := mx, sVE := vx, opq := qx, exi := ox, mgs := zs, top := tp }
end
end DL


namespace DL
open PySem PySem.Spec PySem.Calls PyProof.Rows L2 RZ

/-! ### instances -/
def attM (cn f : Str) (d : D) : M D := fun m R _ => ∃ ns vs v, ObjV m d cn ns vs ∧ lookF ns vs f = some v ∧ R v m
def stF (cn f : Str) (o v : D) : M Unit := fun m R _ => match o with
  | .ref a => ∃ (n : Nat) (dx : Addr) (ns : List Str) (vs : List D), m[n]? = some (a, .ins cn dx ns vs) ∧ ns.length < 1000 ∧ R () (m.set n (a, .ins cn dx (putN ns f) (putV ns vs f v)))
  | _ => False
def chkO (cn mt : Str) (o : D) : M Unit := fun m R _ => ∃ ns vs, ObjV m o cn ns vs ∧ mt ∉ ns ∧ R () m
def ixO (cn : Str) (sp : SpX) (x y : D) : M D := fun m R E => (∃ ns vs, ObjV m x cn ns vs ∧ sp [x, y] m R E) ∨ ixM x y m R E
/-- while it is read, a dict of the ledger stands as a frozen one -/
def thawM (d : D) (c : D → M D) : M D := fun m R E => match d with
  | .ref a => ∃ (n : Nat) (ks : List (List Int)) (ds : List D), m[n]? = some (a, .dI ks ds) ∧ c (.dI ks ds) (m.eraseIdx n) (fun r m2 => noD r = true ∧ noDL m2 ∧ R r (m2 ++ [(a, .dI ks ds)])) NoX
  | d => c d m R NoX
section
variable {X : CD} {e o a b cc it : Expr} {es : List Expr} {rest : List Stmt} {ρ ρ' : Rn} {p p2 pos pos2 apos cpos pos' : Pos} {c ca cb ce co : M D} {cs : M (List D)} {ct : M Bool} {cn mt f x : Str} {k n i : Nat} {sp : SpX} {mg : Str → Option Value} {P : Program} {w : World} {K : Frag} {base : Heap} {σ τ : Type} {en : σ → Option Rn} {el : τ → Rn} {kk : M (Fl σ τ)} {d : D}
abbrev FnG (K : Frag) (cn : Str) : Prop := ∀ C f, CnIs K cn C → PySem.W.findIn K (.ref C) "__getitem__" = some (some (.ref f)) → PySem.W.fnIn K f = true
/-! stars, chains, ranges as values -/
def starL (d : D) : M (List D) := fun m R _ => ∃ ds, (LstV m d ds ∨ d = .tup ds) ∧ R ds m
def chainM (op' : CmpOp) (y : D) (c : M D) (k : Bool) : M D := iteM k (bnd c fun z => cmpM op' y z) (ret (.bl false))
def lrgG (b : Bool) (d : D) : M D := fun m R _ => match d with
  | .int j => -100000 ≤ j ∧ j ≤ 100000 ∧ RNewL R m (rangeD 0 j.toNat) b
  | _ => False
def trgM (d : D) : M D := fun m R _ => match d with
  | .int j => -100000 ≤ j ∧ j ≤ 100000 ∧ R (.tup (rangeD 0 j.toNat)) m
  | _ => False
theorem ev_tupRg (hml : mg "tuple" = none) (hmr : mg "range" = none) (ha : Ev X a ρ ca) (hX : X.mg = mg := by rfl) (hc : X.calm = true := by rfl) (hg : Gl X "tuple" := by rfl) (hg2 : Gl X "range" := by rfl) (hs : starEach [a] X.env = (false, eval a X.env) :: starEach [] X.env := by rfl)
    (hs2 : starEach [.Call (.Name "range" p2) [a] [] pos2] X.env = (false, eval (.Call (.Name "range" p2) [a] [] pos2) X.env) :: starEach [] X.env := by rfl) : Ev X (.Call (.Name "tuple" p) [.Call (.Name "range" p2) [a] [] pos2] [] pos) ρ (bnd ca trgM) := ⟨fun m R E xa h => by
  subst hX
  refine x_tupRg hml hmr ((ha.run m _ E xa h).mono fun d m1 h => ?_) hc hg hg2 hs hs2
  cases d <;> try exact h.elim
  exact ⟨_, rfl, h⟩⟩
/-! a dict of the ledger walked -/
end
end DL


namespace DL
open PySem PySem.Spec PySem.Calls PyProof.Rows L2 RZ

/-! ### dict comprehensions -/
def dcM (f : D → M (Option (D × D))) : List D → List (List Int) → List D → M (List (List Int) × List D)
  | [], ks, vs => ret (ks, vs)
  | d :: ds, ks, vs => fun m R E => f d m (fun o m' => match o with
    | some (k, v) => PutD ks vs k v fun ks vs => dcM f ds ks vs m' R E
    | none => dcM f ds ks vs m' R E) NoX
def dicG (b : Bool) (q : List (List Int) × List D) : M D := fun m R _ => RNew R m q.1 q.2 b
def pairM (k v : D) : M (Option (D × D)) := ret (some (k, v))
section
variable {X : CD} {kx vx it t o e : Expr} {scope : Scope} {ifs : List Expr} {ρ : Rn} {pos py apos cpos : Pos} {y x : Str} {j k n i : Nat} {ci : M (List D)} {f : D → M (Option (D × D))} {ck cv : D → M D} {ct : D → M Bool} {ρ2 : D → Rn} {ce co : M D}
structure CvD (X : CD) (scope : Scope) (ifs : List Expr) (kx vx : Expr) (y : Str) (j : Nat) (ρ : Rn) (f : D → M (Option (D × D))) : Prop where
  run : ∀ (d : D) (m : Led) (R : Option (D × D) → Led → Prop), f d m R NoX → ∃ ρ2, SetAt ρ j y d ρ2 ∧ ∀ (s : Shared) (H0 : Hp) (C : Addr) (cl : List (Str × Addr)) (fp : List Addr),
    match ifs with
    | [] => EX (X.blk s H0 scope (compEnvC scope cl C X.env) fp) kx ρ2 m fun k m2 => ∀ (s : Shared) (H0 : Hp) (C : Addr) (cl : List (Str × Addr)) (fp : List Addr), EX (X.blk s H0 scope (compEnvC scope cl C X.env) fp) vx ρ2 m2 fun v m3 => R (some (k, v)) m3
    | [c] => TX (X.blk s H0 scope (compEnvC scope cl C X.env) fp) c ρ2 m fun b m1 => (b = true → ∀ (s : Shared) (H0 : Hp) (C : Addr) (cl : List (Str × Addr)) (fp : List Addr), EX (X.blk s H0 scope (compEnvC scope cl C X.env) fp) kx ρ2 m1 fun k m2 => ∀ (s : Shared) (H0 : Hp) (C : Addr) (cl : List (Str × Addr)) (fp : List Addr), EX (X.blk s H0 scope (compEnvC scope cl C X.env) fp) vx ρ2 m2 fun v m3 => R (some (k, v)) m3) ∧ (b = false → R none m1)
    | _ => False
theorem CvD.I (hc : CvD X scope ifs kx vx y j ρ f) {ds : List D} {m : Led} {R : List (List Int) × List D → Led → Prop} {E : XR} (h : dcM f ds [] [] m R E) : CompD X scope ifs kx vx y j ρ (fun ks vs m' => R (ks, vs) m') ds m := by
  refine ⟨fun i ks vs m' => dcM f (ds.drop i) ks vs m' R E, h, fun i d ks vs m' hd hI => ?_, fun ks vs m' hI => ?_⟩
  · dsimp only at hI
    rw [drop_at hd] at hI
    obtain ⟨ρ2, h1, h2⟩ := hc.run d m' _ hI
    refine ⟨ρ2, h1, fun s H0 C cl fp => ?_⟩
    have h5 := h2 s H0 C cl fp
    rcases ifs with _ | ⟨c, _ | ⟨_, _⟩⟩ <;> exact h5
  · dsimp only at hI
    rw [List.drop_length] at hI
    exact hI
theorem CompD.mono {R R' : List (List Int) → List D → Led → Prop} {ds : List D} {m : Led} (h : CompD X scope ifs kx vx y j ρ R ds m) (q : ∀ ks vs m', R ks vs m' → R' ks vs m') : CompD X scope ifs kx vx y j ρ R' ds m := let ⟨I, a, b, c⟩ := h; ⟨I, a, b, fun ks vs m' z => q _ _ _ (c ks vs m' z)⟩
/-! xs.pop(i) -/
def popM (d y : D) : M D := fun m R _ => match d, y with
  | .ref a, .int i => ∃ (n : Nat) (ds : List D) (j : Nat) (v : D), m[n]? = some (a, .lst ds) ∧ ds.length ≤ 100000 ∧ ixN ds.length i = some j ∧ ds[j]? = some v ∧ R v (m.set n (a, .lst (ds.eraseIdx j)))
  | _, _ => False
theorem Dens.eraseIdx {K : Frag} {F : Hp} : ∀ {vs : List V} {ds : List D} (i : Nat), Dens K F vs ds → Dens K F (vs.eraseIdx i) (ds.eraseIdx i)
  | _, _, _, .nil => .nil
  | _, _, 0, .cons _ t => t
  | _, _, i + 1, .cons q t => .cons q (Dens.eraseIdx i t)
end
end DL
namespace DL
open PySem PySem.Spec PySem.Calls PyProof.Rows L2 RZ
section
variable {X : CD} {a bb c : Expr} {ρ : Rn} {m : Led} {pos : Pos} {ca cb cc : M D}
theorem t_chain {op op' : CmpOp} {R : Bool → Led → Prop} (h : EX X a ρ m fun d1 m1 => EX X bb ρ m1 fun d2 m2 => OX X (compareOp op) d1 d2 m2 fun z m3 => ∃ k, z = .bl k ∧ (k = true → EX X c ρ m3 fun d3 m4 => OX X (compareOp op') d2 d3 m4 fun z m5 => ∃ k, z = .bl k ∧ R k m5) ∧ (k = false → R false m3)) (hm : lastMarks [op, op'] [bb, c] = false) : TX X (.Compare a [op, op'] [bb, c] pos) ρ m R := .mk fun F σ H en at_ => by
  intro pins s I
  refine isTrue_chain (thn (h.run F σ H en at_ pins s I) fun v s1 ⟨x, H1, I1, r1, d1, F1, m1, st1, q1, h1⟩ => test_link (thn (h1.run F1 σ H1 (en.mono st1.ex) (at_.to st1) pins s1 I1) fun u s2 ⟨y, H2, I2, r2, d2, F2, m2, st2, q2, h2⟩ =>
    thn (h2.run F2 σ H2 x y pins s2 v u (q1.mono st2.ex) q2 (at_.to (st1.trans st2)) I2 r1 r2) fun dd s3 ⟨z, H3, I3, r3, d3, F3, m3, st3, q3, k, ek, kt, kf⟩ => ?_)) hm
  subst ek
  cases q3
  cases r3
  refine wpAny_truthy_bool ?_
  have st := (st1.trans st2).trans st3
  cases k with
  | false => exact ite_ff ⟨H3, I3, ⟨F3, m3, st, kf rfl⟩⟩
  | true =>
    refine ite_tt (test_last (thn ((kt rfl).run F3 σ H3 (en.mono st.ex) (at_.to st) pins s3 I3) fun w' s4 ⟨z', H4, I4, r4, d4, F4, m4, st4, q4, h4⟩ =>
      thn (h4.run F4 σ H4 y z' pins s4 u w' (q2.mono (st3.ex.trans st4.ex)) q4 (at_.to (st.trans st4)) I4 r2 r4) fun w5 s5 ⟨v5, H5, I5, r5, d5, F5, m5, st5, q5, k2, e2, kk⟩ => ?_))
    subst e2
    cases q5
    cases r5
    exact wpAny_truthy_bool ⟨H5, I5, ⟨F5, m5, (st.trans st4).trans st5, kk⟩⟩
def chainB (op' : CmpOp) (y : D) (c : M D) (k : Bool) : M Bool := iteM k (bnd c fun z => cmpB op' y z) (ret false)
theorem tv_chain {op op' : CmpOp} (hu : X.A.units + 64 < cLine) (ha : Ev X a ρ ca) (hb : Ev X bb ρ cb) (hc : Ev X c ρ cc) (hm : lastMarks [op, op'] [bb, c] = false := by with_unfolding_all rfl) : Tv X (.Compare a [op, op'] [bb, c] pos) ρ (bnd ca fun x => bnd cb fun y => bnd (cmpB op x y) (chainB op' y cc)) := ⟨fun m R E xa h =>
  t_chain ((ha.run m _ E xa h).mono fun d1 m1 h1 => (hb.run m1 _ E xa h1).mono fun d2 m2 h2 => (cmpB_ok hu h2).mono fun z m3 ⟨k, ek, h3⟩ => ⟨k, ek, fun e => (hc.run m3 _ E xa (h3.1 e)).mono fun d3 m4 h4 => cmpB_ok hu h4, fun e => h3.2 e⟩) hm⟩
end
end DL


namespace DL
open PySem PySem.Spec PySem.Calls PyProof.Rows L2 RZ

/-! ### several except clauses over data -/
structure ClD where
  x : Str
  nm : Option (Str × Nat)
  sts : List Stmt
abbrev RtD (rt : D → Led → Prop) : EndsD := { nx := fun _ _ => False, rt := rt }
def qN (X : CD) (rt : D → Led → Prop) : List ClD → XQ
  | [] => X.xq
  | c :: r => fun nm fd ρ2 m2 => ∃ b, XM X.K X.mg nm c.x b ∧ (b = true → ∀ a dd oe pn, SuOk X.K X.mg nm fd dd oe → match c.nm with
      | none => SX (X.suite a ((a, oe) :: pn)) c.sts ρ2 m2 (RtD rt)
      | some (n, i) => ∃ ρ3, SetAt ρ2 i n (ExD a fd dd) ρ3 ∧ SX (X.suite a ((a, oe) :: pn)) c.sts ρ3 m2 (RtD rt)) ∧ (b = false → qN X rt r nm fd ρ2 m2)
def toH (X : CD) (c : ClD) : Hdl := ((X.mg c.x).getD .none, c.nm.map (·.2), fun a cls d rt σ H => ∀ oe pn, Zc cls d oe → (∃ vs, oe.data = .fields vs) → SSs (X.toCx.suite a ((a, oe) :: pn)) c.sts (RtE rt) σ H)
inductive HdR (X : CD) : List ExceptHandler → List ClD → Prop
  | nil : HdR X [] []
  | plain {x : Str} {b₀ : Stmt} {suite : List Stmt} {np pos' : Pos} {hds : List ExceptHandler} {l : List ClD} (hc : ∃ Cc, X.mg x = some (.ref Cc)) (hg : Gl X x) (hdb : (x == ("__debug__" : Str)) = false) (r : HdR X hds l) :
      HdR X (.ExceptHandler (some (.Name x np)) none (b₀ :: suite) pos' :: hds) (⟨x, none, b₀ :: suite⟩ :: l)
  | named {x n : Str} {i : Nat} {b₀ : Stmt} {suite : List Stmt} {np pos' : Pos} {hds : List ExceptHandler} {l : List ClD} (hc : ∃ Cc, X.mg x = some (.ref Cc)) (hg : Gl X x) (hdb : (x == ("__debug__" : Str)) = false) (hi : X.N[i]? = some n) (hln : X.env.kindOf n = some .local) (r : HdR X hds l) :
      HdR X (.ExceptHandler (some (.Name x np)) (some n) (b₀ :: suite) pos' :: hds) (⟨x, some (n, i), b₀ :: suite⟩ :: l)
section
variable {X : CD} {body : List Stmt} {ρ : Rn} {m : Led} {E : EndsD} {pos : Pos} {h₀ : ExceptHandler} {hds : List ExceptHandler} {cl : List ClD}
theorem RtE.mono {Z : Cx} {sts : List Stmt} {rt : V → Hp → Prop} {D : Ends} {σ : L2.St} {H : Hp} (h : SSs Z sts (RtE rt) σ H) (k : ∀ v H', rt v H' → D.rt v H') : SSs Z sts D σ H := h.mono (fun _ _ z => z.elim) k (fun _ _ z => z.elim) fun _ _ z => z.elim
theorem HdR.n {hds : List ExceptHandler} : ∀ {cl : List ClD}, HdR X hds cl → HdsN X.toCx hds (cl.map (toH X)) := fun {cl} h => by
  induction h with
  | nil => exact .nil
  | plain hc hg hdb r ih =>
    obtain ⟨Cc, hc⟩ := hc
    exact .plain ⟨hg, hdb, .inl (by rw [hc]; rfl)⟩ (fun a oe cls d pn hz hv => ⟨fun pins s σ H D I ⟨rt, hh, hk⟩ => RtE.mono (hh oe pn hz hv) hk pins s I⟩) ih
  | named hc hg hdb hi hln r ih =>
    obtain ⟨Cc, hc⟩ := hc
    exact .named ⟨hg, hdb, .inl (by rw [hc]; rfl)⟩ hi hln (fun a oe cls d pn hz hv => ⟨fun pins s σ H D I ⟨rt, hh, hk⟩ => RtE.mono (hh oe pn hz hv) hk pins s I⟩) ih
theorem qN_wN {F F2 H H2 : Hp} {m m2 : Led} {σ2 : L2.St} {ρ2 : Rn} {nm : Str} {C : Addr} {fd : Option (Str × D)} {d : Option Addr} (h1 : X.mg nm = some (.ref C)) (h3 : Step X.K F m H F2 m2 H2) (h4 : DL.Env X.toCx F2 σ2 ρ2) (h5 : FdD X.K F2 d fd) (rt : D → Led → Prop) : ∀ {cl : List ClD}, qN X rt cl nm fd ρ2 m2 → wN X.K (WD X.toCx F m H X.xq) (PQ X.K F m H rt) (cl.map (toH X)) (.ref C) d σ2 H2
  | [], h => ⟨nm, C, fd, ρ2, F2, m2, h1, rfl, h3, h4, h5, h⟩
  | c :: r, ⟨b, ⟨C', Cc', e1, e2, e3⟩, hy, hn⟩ => by
    have e1' := e1.symm.trans h1
    cases e1'
    refine ⟨b, ?_, fun hb a na oe pn hz hv => ?_, fun hb => qN_wN h1 h3 h4 h5 rt (hn hb)⟩
    · show PySem.W.exmOne X.K (.ref C) ((X.mg c.x).getD .none) = some b
      rw [e2]
      exact e3
    · obtain ⟨dd, hd, hden⟩ : ∃ dd, d = fd.map (fun _ => dd) ∧ Den X.K F2 (.ref a) (ExD a fd dd) := by
        cases fd with
        | none => exact ⟨0, h5, .ref a⟩
        | some fx =>
          obtain ⟨f, x⟩ := fx
          obtain ⟨dd, v, hd, hF, hq⟩ := h5
          exact ⟨dd, hd, .exc hF hq⟩
      have hs := hy hb a dd oe pn ⟨C, h1, hd ▸ hz, hv⟩
      obtain ⟨x, o, sts⟩ := c
      cases o with
      | none =>
        have r := SSs.step (X := X.suite a ((a, oe) :: pn)) h3 (SX.run hs F2 σ2 H2 h4.cast (.quiet h3.at2))
        exact r.mono (fun _ _ ⟨_, _, _, _, _, z⟩ => z.elim) (fun _ _ q => q) (fun _ _ ⟨_, _, _, _, _, z⟩ => z.elim) fun _ _ ⟨_, _, _, _, _, z⟩ => z.elim
      | some ni =>
        obtain ⟨n, i⟩ := ni
        obtain ⟨ρ3, hset, hsx⟩ := hs
        have en3 : DL.Env X.toCx F2 (σ2.set i (some (.ref a))) ρ3 := h4.set hset hden
        have r := SSs.step (X := X.suite a ((a, oe) :: pn)) h3 (SX.run hsx F2 _ H2 en3.cast (.quiet h3.at2))
        exact r.mono (fun _ _ ⟨_, _, _, _, _, z⟩ => z.elim) (fun _ _ q => q) (fun _ _ ⟨_, _, _, _, _, z⟩ => z.elim) fun _ _ ⟨_, _, _, _, _, z⟩ => z.elim
theorem s_tryN (hd : HdR X (h₀ :: hds) cl) (h : ∀ pn xe, SX (X.tr pn xe (qN X E.rt cl)) body ρ m E) (hs : X.stack = X.env :: X.outer) (hf : X.env.frame = some X.env.locals) : S1 X (.Try body (h₀ :: hds) [] [] pos) ρ m E := .mk fun F σ H en at_ => by
  refine SS.of (ps_tryN (tb := tBody X body) hs hf en.nd at_.tk (fun W pn xe tk po => ⟨fun pins s σ H D I hh => hh pn xe tk po pins s I⟩) hd.n) ?_
  intro pn xe tk po
  have ax : AtX (X.tr pn xe (qN X E.rt cl)) F m H := by
    refine ⟨at_.toAt, tk.imp ?_, po⟩
    intro cls d σ2 H2 ⟨nm, C, fd, ρ2, F2, m2, h1, h2, h3, h4, h5, hq⟩
    subst h2
    exact qN_wN (X := X) h1 h3 h4.cast h5 E.rt hq
  exact SSs.cast (X := X.tr pn xe (qN X E.rt cl)) ((h pn xe).run F σ H en.cast ax)
end
/-! mirrors -/
abbrev Clz := List (List (Str × Bool) × (Option (Str × D) → M (Fl Empty Empty)))
def catchN {σ τ : Type} : Clz → Str → Option (Str × D) → Led → (Fl σ τ → Led → Prop) → XR → Prop
  | [], nm, fd, m, _, E => E nm fd m
  | (cls, ch) :: r, nm, fd, m, R, E => ∃ b, (nm, b) ∈ cls ∧ (b = true → bnd (ch fd) upF m R NoX) ∧ (b = false → catchN r nm fd m R E)
def tryN {σ τ : Type} (cb : M (Fl σ τ)) (hs : Clz) : M (Fl σ τ) := fun m R E => cb m R fun nm fd m2 => catchN hs nm fd m2 R E
inductive HvN (X : CD) (ρ : Rn) : List ExceptHandler → List ClD → Clz → Prop
  | nil : HvN X ρ [] [] []
  | plain {x : Str} {b₀ : Stmt} {suite : List Stmt} {np pos' : Pos} {hds : List ExceptHandler} {l : List ClD} {z : Clz} {cls : List (Str × Bool)} {ch : M (Fl Empty Empty)} (hc : ∃ Cc, X.mg x = some (.ref Cc)) (hX : ∀ q ∈ cls, XM X.K X.mg q.1 x q.2)
      (hh : ∀ a oe pn, BF (X.suite a ((a, oe) :: pn)) (b₀ :: suite) ρ (fun _ : Empty => none) noF ch) (r : HvN X ρ hds l z) (hg : Gl X x := by rfl) (hdb : (x == ("__debug__" : Str)) = false := by decide) :
      HvN X ρ (.ExceptHandler (some (.Name x np)) none (b₀ :: suite) pos' :: hds) (⟨x, none, b₀ :: suite⟩ :: l) ((cls, fun _ => ch) :: z)
  | named {x n : Str} {i : Nat} {b₀ : Stmt} {suite : List Stmt} {np pos' : Pos} {hds : List ExceptHandler} {l : List ClD} {z : Clz} {cls : List (Str × Bool)} {ch : Option (Str × D) → M (Fl Empty Empty)} {ρd : D → Rn} (hc : ∃ Cc, X.mg x = some (.ref Cc)) (hX : ∀ q ∈ cls, XM X.K X.mg q.1 x q.2) (hi : SlotAt ρ i n) (hset : ∀ u, SetAt ρ i n u (ρd u))
      (hh : ∀ nm fd a dd oe pn, (nm, true) ∈ cls → SuOk X.K X.mg nm fd dd oe → BF (X.suite a ((a, oe) :: pn)) (b₀ :: suite) (ρd (ExD a fd dd)) (fun _ : Empty => none) noF (ch fd)) (r : HvN X ρ hds l z) (hln : X.env.kindOf n = some .local := by rfl) (hg : Gl X x := by rfl) (hdb : (x == ("__debug__" : Str)) = false := by decide) :
      HvN X ρ (.ExceptHandler (some (.Name x np)) (some n) (b₀ :: suite) pos' :: hds) (⟨x, some (n, i), b₀ :: suite⟩ :: l) ((cls, ch) :: z)
section
variable {X : CD} {body rest : List Stmt} {ρ : Rn} {pos : Pos} {h₀ : ExceptHandler} {hds : List ExceptHandler} {cl : List ClD} {z : Clz} {σ τ σ1 : Type} {en : σ → Option Rn} {el : τ → Rn} {e1 : σ1 → Rn} {cb : M (Fl σ1 τ)} {k : σ1 → M (Fl σ τ)}
theorem HvN.r (hN : ρ.map (·.1) = X.N) {hds : List ExceptHandler} {cl : List ClD} {z : Clz} (h : HvN X ρ hds cl z) : HdR X hds cl := by
  induction h with
  | nil => exact .nil
  | plain hc hX hh r hg hdb ih => exact .plain hc hg hdb ih
  | named hc hX hi hset hh r hln hg hdb ih => exact .named hc hg hdb (by rw [← hN]; exact hi.ix) hln ih
theorem HvN.q {hds : List ExceptHandler} {cl : List ClD} {z : Clz} (h : HvN X ρ hds cl z) {R : Fl σ1 τ → Led → Prop} {E : XR} (xf : XA X ρ E) {nm : Str} {fd : Option (Str × D)} {m2 : Led} (hq : catchN z nm fd m2 R E) : qN X (fun d m' => R (.rt d) m') cl nm fd ρ m2 := by
  induction h with
  | nil => exact xf _ _ _ hq
  | plain hc hX hh r hg hdb ih =>
    obtain ⟨b, hcl, h1, h2⟩ := hq
    refine ⟨b, hX (nm, b) hcl, fun eb a dd oe pn _ => ?_, fun eb => ih (h2 eb)⟩
    refine ((hh a oe pn).run m2 _ NoX (fun _ _ _ _ z => z.elim) (h1 eb)).mono ?_ ?_ ?_ ?_
    · rintro ρ' m' ⟨s, r, e, l, h⟩
      cases e
    · exact fun d m' h => h
    · rintro ρ' m' ⟨s, l, h⟩
      exact nomatch s
    · rintro ρ' m' ⟨s, l, h⟩
      exact nomatch s
  | named hc hX hi hset hh r hln hg hdb ih =>
    obtain ⟨b, hcl, h1, h2⟩ := hq
    refine ⟨b, hX (nm, b) hcl, fun eb a dd oe pn su => ⟨_, hset _, ?_⟩, fun eb => ih (h2 eb)⟩
    subst eb
    refine ((hh nm fd a dd oe pn hcl su).run m2 _ NoX (fun _ _ _ _ z => z.elim) (h1 rfl)).mono ?_ ?_ ?_ ?_
    · rintro ρ' m' ⟨s, r, e, l, h⟩
      cases e
    · exact fun d m' h => h
    · rintro ρ' m' ⟨s, l, h⟩
      exact nomatch s
    · rintro ρ' m' ⟨s, l, h⟩
      exact nomatch s
theorem bf_tryN (hv : HvN X ρ (h₀ :: hds) cl z) (hb : ∀ pn xe q, BY (X.tr pn xe q) body ρ (fun s => some (e1 s)) el cb) (hk : ∀ s, BF X rest (e1 s) en el (k s)) (hs : X.stack = X.env :: X.outer := by rfl) (hf : X.env.frame = some X.env.locals := by rfl) :
    BF X (.Try body (h₀ :: hds) [] [] pos :: rest) ρ en el (seqF (tryN cb z) k) := ⟨fun m R E xf q => by
  refine s_cons (.mk fun F σ H en0 at_ => (s_tryN (hv.r en0.nm) (fun pn xe => ?_) hs hf).run F σ H en0 at_)
  refine ((hb pn xe _).run m _ _ (fun nm fd m2 h => ?_) q).mono ?_ ?_ ?_ ?_
  · exact hv.q (R := fun d m' => seqK k d m' R E) (xf ρ) h
  · rintro ρ' m' ⟨s, r, e, l, h⟩
    cases e
    exact ((hk s).run m' R E xf h).le l
  · exact fun d m' h => h
  · exact fun ρ' m' h => h
  · exact fun ρ' m' h => h⟩
end
end DL


namespace DL
open PySem PySem.Spec PySem.Calls PyProof.Rows L2 RZ

/-! ### a list of the ledger walked, the whole ledger being frozen for it -/
def stillM (d : D) (c : D → M D) : M D := fun m R E => match d with
  | .ref a => ∃ (n : Nat) (ds : List D), m[n]? = some (a, .lst ds) ∧ c (.lst ds) [] (fun r m2 => noL r = true ∧ m2 = [] ∧ R r m) NoX
  | d => c d m R NoX
section
variable {X : CD} {e : Expr} {ρ : Rn} {x : Str} {i : Nat} {d : D}
end
end DL


namespace DL
open PySem PySem.Spec PySem.Calls PyProof.Rows L2 RZ

/-! ### operators of own classes -/
def binO (cn : Str) (sp : SpX) (op : Operator) (x y : D) : M D := fun m R E => (∃ ns vs ns2 vs2, ObjV m x cn ns vs ∧ ObjV m y cn ns2 vs2 ∧ sp [x, y] m R E) ∨ binM op x y m R E
def binI (cn : Str) (sp : SpX) (op : Operator) (x y : D) : M D := fun m R E => (∃ ns vs i, ObjV m x cn ns vs ∧ y = .int i ∧ sp [x, y] m R E) ∨ binM op x y m R E
def unO (cn : Str) (sp : SpX) (op : UnaryOp) (x : D) : M D := fun m R E => (∃ ns vs, op = .USub ∧ ObjV m x cn ns vs ∧ sp [x] m R E) ∨ unM op x m R E
def cmpO (cn : Str) (sp : SpX) (x y : D) : M D := fun m R E => (∃ ns vs ns2 vs2, ObjV m x cn ns vs ∧ ObjV m y cn ns2 vs2 ∧ sp [x, y] m R E) ∨ cmpM .Eq x y m R E
section
variable {X : CD} {a b : Expr} {ρ : Rn} {pos : Pos} {c ca cb : M D} {cn : Str} {k n : Nat} {sp : SpX} {mg : Str → Option Value} {P : Program} {w : World} {K : Frag} {base : Heap}
def cmpOB (cn : Str) (sp : SpX) (x y : D) : M Bool := fun m R E => (∃ ns vs ns2 vs2, ObjV m x cn ns vs ∧ ObjV m y cn ns2 vs2 ∧ sp [x, y] m (fun d m' => ∃ k, d = .bl k ∧ R k m') E) ∨ cmpB .Eq x y m R E
/-! a new list times an int -/
def repM (x y : D) : M D := fun m R _ => match x, y with
  | .ref a, .int i => ∃ (n : Nat) (ds : List D), m[n]? = some (a, .lst ds) ∧ i ≤ 10000 ∧ -10000 ≤ i ∧ ds.length ≤ 5 ∧ R (.lst (List.replicate i.toNat ds).flatten) m
  | _, _ => False
theorem dens_rep {F : Hp} {xs : List V} {ds : List D} (h : Dens K F xs ds) : ∀ j : Nat, Dens K F (List.replicate j xs).flatten (List.replicate j ds).flatten
  | 0 => .nil
  | j + 1 => by
    rw [List.replicate_succ, List.replicate_succ, List.flatten_cons, List.flatten_cons]
    exact h.append (dens_rep h j)
theorem ev_rep (ha : Ev X a ρ ca) (hb : Ev X b ρ cb) : Ev X (.BinOp a .Mult b pos) ρ (bnd ca fun x => bnd cb fun y => repM x y) := ⟨fun m R E xa h =>
  x_bin ((ha.run m _ E xa h).mono fun d1 m1 h1 => (hb.run m1 _ E xa h1).mono fun d2 m2 h2 => by
    cases d1 <;> cases d2 <;> try exact h2.elim
    rename_i l i
    obtain ⟨n, ds, hm, h3, h4, h5, h6⟩ := h2
    refine OX.of op_repG fun F H x y q1 q2 at_ => ?_
    cases q1
    cases q2
    obtain ⟨hh, ⟨xs, rfl, s1⟩, e2⟩ := at_.toAt.get hm
    refine ⟨l, i, xs, rfl, rfl, e2, by omega, by omega, ?_, fun p hp => new_lst at_.toAt hp (dens_rep s1 _) h6⟩
    have h7 : xs.length * i.toNat ≤ 5 * 10000 := Nat.mul_le_mul (by rw [s1.length]; exact h5) (by omega)
    rw [sizeLine_eq]
    omega)⟩
end
end DL


namespace DL
open PySem PySem.Spec PySem.Calls PyProof.Rows L2 RZ

/-! ### {} and {k: v} -/
def newDM : M D := fun m R _ => ∀ p, R (.ref p) (m ++ [(p, .dI [] [])])
def putM (d k v : D) : M D := fun m R _ => match d, k with
  | .ref p, .tup kd => ∃ (n : Nat) (k : List Int), kd = k.map .int ∧ m[n]? = some (p, .dI [] []) ∧ R (.ref p) (m.set n (p, .dI [k] [v]))
  | _, _ => False
section
variable {X : CD} {a b kx vx : Expr} {ρ : Rn} {pos : Pos} {c ck cv : M D}
theorem ev_newD : Ev X (.Dict [] [] pos) ρ newDM := ⟨fun m R E xa h => x_newD (b := true) h⟩
end
end DL


namespace DL
open PySem PySem.Spec PySem.Calls PyProof.Rows L2 RZ

/-! ### own iteration, own in -/
def iterO (cn fld : Str) (d : D) : M (List D) := fun m R E => (∃ ns vs ds, ObjV m d cn ns vs ∧ lookF ns vs fld = some (.lst ds) ∧ R ds m)
def inOB (cn : Str) (sp : SpX) (neg : Bool) (x y : D) : M Bool := fun m R E => ∃ ns vs, ObjV m y cn ns vs ∧ sp [y, x] m (fun d m' => ∃ c, d = .bl c ∧ R (if neg then !c else c) m') E
section
variable {X : CD} {a b it tg : Expr} {ρ : Rn} {pos : Pos} {c ca cb : M D} {cn fld : Str} {k n : Nat} {sp : SpX} {mg : Str → Option Value} {P : Program} {w : World} {K : Frag} {base : Heap}
end
end DL


namespace DL
open PySem PySem.Spec PySem.Calls PyProof.Rows L2 RZ

/-! ### a[i], b[j] = e -/
def swp2 {α : Type} (d : D) (f : D → D → M α) : M α := fun m R E => match d with
  | .tup [x, y] => f x y m R E
  | _ => False
section
variable {X : CD} {e o1 i1 o2 i2 : Expr} {rest : List Stmt} {ρ : Rn} {p1 p2 pt pos : Pos} {kt : Nat} {σ τ : Type} {en : σ → Option Rn} {el : τ → Rn} {ce c1 k1 c2 k2 : M D} {k : M (Fl σ τ)}
end
/-! ### i in xs, ints -/
def inSB (neg : Bool) (x y : D) : M Bool := fun m R _ => ∃ (i : Int) (ns : List Int), x = .int i ∧ (LstV m y (ns.map D.int) ∨ y = .tup (ns.map D.int)) ∧ R (if neg then !decide (i ∈ ns) else decide (i ∈ ns)) m
section
variable {X : CD} {a b : Expr} {ρ : Rn} {pos : Pos} {ca cb : M D} {m : Led} {x y : D}
end
end DL


namespace DL
open PySem PySem.Spec PySem.Calls PyProof.Rows L2 RZ

/-! ### list(o), len(o) of an own class -/
def listO (cn fld : Str) (ds : List D) : M D := fun m R E => (∃ d ns vs xs, ds = [d] ∧ ObjV m d cn ns vs ∧ lookF ns vs fld = some (.lst xs) ∧ xs.length ≤ 100000 ∧ R (.lst xs) m) ∨ listM ds m R E
def lenO (cn fld : Str) (ds : List D) : M D := fun m R E => (∃ d ns vs xs, ds = [d] ∧ ObjV m d cn ns vs ∧ lookF ns vs fld = some (.lst xs) ∧ R (.int (xs.length : Nat)) m) ∨ lenM ds m R E
section
variable {X : CD} {cn fld : Str} {k : Nat} {mg : Str → Option Value} {P : Program} {w : World} {K : Frag} {base : Heap}
end
/-! ### f(e, .., k = v, ..) -/
structure KnowsN (P : Program) (w : World) (K : Frag) (mg : Str → Option Value) (base : Heap) (k : Nat) (x : Str) (n : Nat) (ks : List Str) (sp : SpX) : Prop where
  fn : ∃ f fd ps, FnOk P w K mg base (L2.CX P w) k f fd ps (liftX K mg sp) ∧ mg x = some (.ref f) ∧ PySem.W.keepIn K (.ref f) = true ∧ KBn K fd ps n ks (fun us ws => us ++ ws) (fun vs zs => vs ++ zs)
theorem KnowsN.mono {P : Program} {w : World} {K : Frag} {mg : Str → Option Value} {base : Heap} {k j : Nat} {x : Str} {n : Nat} {ks : List Str} {sp : SpX} (G : KnowsN P w K mg base k x n ks sp) (h : k ≤ j) : KnowsN P w K mg base j x n ks sp := by
  obtain ⟨f, fd, ps, FO, r⟩ := G.fn
  exact ⟨f, fd, ps, FO.mono h, r⟩
def kwN (n j : Nat) (sp : SpX) (ds es : List D) : M D := fun m R E => ds.length = n ∧ es.length = j ∧ sp (ds ++ es) m R E
section
variable {X : CD} {e : Expr} {es : List Expr} {kws : List Keyword} {ks : List Str} {ρ : Rn} {m : Led} {R : D → Led → Prop} {E : Str → Option (Str × D) → Led → Prop} {x : Str} {p pos : Pos} {k n : Nat} {sp : SpX} {mg : Str → Option Value} {P : Program} {w : World} {K : Frag} {base : Heap} {cs ck : M (List D)}
end
/-! ### a ledger dict read as frozen for a while, and put back where it was -/
theorem At.perm {K : Frag} {F H : Hp} {m m2 : Led} (a : At K F m H) (h : m.Perm m2) : At K F m2 H :=
  ⟨a.sub, fun p hp => a.led p (h.mem_iff.mpr hp), fun p hp => a.dis p (h.mem_iff.mpr hp), (h.map _).nodup_iff.mp a.nod⟩
theorem Step.perm {K : Frag} {F H F2 H2 : Hp} {m m1 m2 : Led} (s : Step K F m H F2 m1 H2) (h : m1.Perm m2) : Step K F m H F2 m2 H2 :=
  ⟨s.at2.perm h, s.ex, s.keep, s.frF, fun a ha => s.frM a ((h.map _).mem_iff.mpr ha)⟩
def thawS (d : D) (c : D → M D) : M D := fun m R E => match d with
  | .ref a => ∃ (n : Nat) (ks : List (List Int)) (ds : List D), m[n]? = some (a, .dI ks ds) ∧ c (.dI ks ds) (m.eraseIdx n) (fun r m2 => noD r = true ∧ m2 = m.eraseIdx n ∧ noDL m2 ∧ R r m) NoX
  | d => c d m R NoX
section
variable {X : CD} {e : Expr} {ρ : Rn} {x : Str} {i : Nat} {d : D}
end
end DL


namespace DL
open PySem PySem.Spec PySem.Calls PyProof.Rows L2 RZ

/-! ### e[::-1] -/
def revM (d : D) : M D := fun m R E => lstM d m (fun ds m' => R (.lst ds.reverse) m') E
theorem Dens.reverse {K : Frag} {F : Hp} : ∀ {vs : List V} {ds : List D}, Dens K F vs ds → Dens K F vs.reverse ds.reverse
  | _, _, .nil => .nil
  | _, _, .cons q t => by
    rw [List.reverse_cons, List.reverse_cons]
    exact (Dens.reverse t).append (.cons q .nil)
section
variable {X : CD} {e o : Expr} {es : List Expr} {ρ : Rn} {c co : M D} {cs : M (List D)} {k : Nat} {p1 p2 p3 pos apos cpos : Pos} {m : Led} {R : D → Led → Prop}
/-! ### methods of builtin kinds: the kind is known when the object is -/
structure MtId (name : Str) (T id : String) : Prop where
  pa : PlainAttrs T
  slot : Slot T name id
  hty : typeOf (.builtin id) = pure (.type "method_descriptor")
def KdX (X : CD) (m : Led) (d : D) (T : String) : Prop := ∀ F σ H x pins s v, Den X.K F x d → AtX X F m H → Inv X pins σ H s → RelV x v → s.TypeIs v T ∧ ∀ a, v = .ref a → ∃ ob, s.heap.get? a = some ob ∧ ob.dict = none
theorem ev_mt0 {name : Str} {op : D → M D} (ho : Ev X o ρ co) (hop : ∀ d m R E, op d m R E → ∃ T id, MtId name T id ∧ KdX X m d T ∧ BX X (.builtin id) [d] m R)
    (hbase : attributeBase o name X.env (eval o X.env) = eval o X.env := by rfl) (hline : (apos.endLine == cpos.line) = true := by rfl) : Ev X (.Call (.Attribute o name apos) [] [] cpos) ρ (bnd co op) := ⟨fun m R E xa h => .mk fun F σ H en at_ => by
  intro pins s I
  refine wpAny_Call_method0_late hbase hline (thn (((ho.run m _ E xa h).run F σ H en at_) pins s I) fun v s1 ⟨x, H1, I1, r1, d, F1, m1, st, q, r⟩ => ?_)
  obtain ⟨T, id, mi, kd, b⟩ := hop d m1 R E r
  obtain ⟨h1, h2⟩ := kd F1 σ H1 x pins s1 v q (at_.to st) I1 r1
  refine ⟨T, id, mi.pa, mi.slot, mi.hty, h1, h2, Calls.callWith_builtin rfl (PySem.evalArgs_none ?_)⟩
  exact thn (b.run F1 σ H1 [x] pins s1 [v] (.cons q .nil) (at_.to st) I1 (.cons r1 .nil)) fun w s2 ⟨y, H2, I2, r2, k⟩ => ⟨y, H2, I2, r2, PQ.step st k⟩⟩
/-! kinds -/
theorem kd_lst {d : D} {ds : List D} (h : LstV m d ds) : KdX X m d "list" := fun F σ H x pins s v q at_ I r => by
  obtain ⟨p, xs, rfl, e1, s1⟩ := h.read at_.toAt q
  exact tyV_is I r (.inl ⟨rfl, xs, .inl e1⟩)
end
end DL


namespace DL
open PySem PySem.Spec PySem.Calls PyProof.Rows L2 RZ

/-! ### d.clear() -/
section
variable {prog : Program} {w : World} {A : Around} {E : Value → Shared → Prop} {s : Shared}
end
section
variable {X : CD} {m : Led} {R : D → Led → Prop} {E : XR} {d y : D} {ks : List (List Int)} {ds : List D} {k : List Int} {a : Addr} {n : Nat}
/-! ### d.get(k, x) -/
end
/-! ### mirrors -/
def clrM (d : D) : M D := fun m R _ => match d with
  | .ref a => (∃ (n : Nat) (ds : List D), m[n]? = some (a, .lst ds) ∧ R .non (m.set n (a, .lst []))) ∨ ∃ (n : Nat) (ks : List (List Int)) (ds : List D), m[n]? = some (a, .dI ks ds) ∧ R .non (m.set n (a, .dI [] []))
  | _ => False
def chkD (d : D) : M Unit := fun m R _ => (∃ ks ds, DicV m d ks ds) ∧ R () m
def getM (d : D) (ys : List D) : M D := fun m R _ => ∃ k y ks ds, ys = [keyD k, y] ∧ DicV m d ks ds ∧ ((∃ (i : Nat) (x : D), ks[i]? = some k ∧ ds[i]? = some x ∧ R x m) ∨ (k ∉ ks ∧ R y m))
section
variable {X : CD} {o e e2 : Expr} {ρ : Rn} {co : M D} {cs : M (List D)} {apos cpos : Pos}
end
section
variable {m : Led} {RD : D → Led → Prop} {E : XR} {d y : D} {ks : List (List Int)} {ds : List D} {k : List Int} {a : Addr}
end
end DL


namespace DL
open PySem PySem.Spec PySem.Calls PyProof.Rows L2 RZ
/-! ### a name that a loop sets, read behind it -/
def gotM (o : Option D) : M D := fun m R _ => ∃ d, o = some d ∧ R d m
theorem bf_got {X : CD} {sts : List Stmt} {σ τ : Type} {en : σ → Option Rn} {el : τ → Rn} {e : Option D → Rn} {o : Option D} {k : D → M (Fl σ τ)} (h : ∀ d, BF X sts (e (some d)) en el (k d)) : BF X sts (e o) en el (bnd (gotM o) k) := ⟨fun m R E xf h' => by
  obtain ⟨d, rfl, r⟩ := h'
  exact (h d).run m R E xf r⟩
end DL


namespace DL
open PySem PySem.Spec PySem.Calls PyProof.Rows L2 RZ
open PySem.W (EachIs AllAlike Sortable dataLe sorted_data)
/-! ### sorted of lists of data -/
section
variable {X : CD} {m : Led} {R : D → Led → Prop} {d : D} {ds : List D} {b : Bool}
end
def sortX (b : Bool) (zs : List D) : M D := fun m R _ => ∃ d ds, zs = [d] ∧ LstV m d ds ∧ (∀ x ∈ ds, Sh 19 x) ∧ AllAlike (ds.map py) ∧ Sortable (ds.map py) ∧ RNewL R m (ds.mergeSort (dataLe false py)) b
end DL


namespace DL
open PySem PySem.Spec PySem.Calls PyProof.Rows L2 RZ
/-! ### o[lo:hi], the new list to be changed -/
def slMM (d : D) (lo hi : Option Int) : M D := fun m R E => lstM d m (fun ds m' => ∀ p, R (.ref p) (m' ++ [(p, .lst (cutD ds lo hi))])) E
section
variable {X : CD} {m : Led} {R : D → Led → Prop} {d1 : D} {e : Expr} {ρ : Rn} {c : M D} {p2 pos : Pos}
end
end DL


namespace DL
open PySem PySem.Spec PySem.Calls PyProof.Rows L2 RZ
/-! ### own == other kinds -/
abbrev NotF (K : Frag) (cn : Str) : Prop := ∀ C, CnIs K cn C → PySem.W.notFirst K C (.type "dict") = true ∧ PySem.W.notFirst K C (.type "NoneType") = true
section
variable {X : CD} {a b : Expr} {ρ : Rn} {pos : Pos} {ca cb : M D} {cn : Str} {k n : Nat} {sp : SpX} {mg : Str → Option Value} {P : Program} {w : World} {K : Frag} {base : Heap} {m : Led} {R : D → Led → Prop} {E : XR} {d1 d2 : D}
def cmpX (cn : Str) (sp : SpX) (x y : D) : M D := fun m R E => cmpO cn sp x y m R E ∨ ∃ ns vs, ObjV m x cn ns vs ∧ (y = .non ∨ ∃ ks ds, DicV m y ks ds) ∧ sp [x, y] m R E
end
end DL


namespace DL
open PySem PySem.Spec PySem.Calls PyProof.Rows L2 RZ
theorem typeCall_zipN (args : List Value) : checkTypeCall "zip" ⟨args, []⟩ = pure () := by kernel_rfl
theorem newCall_zipN (args : List Value) : checkBuiltinCall "zip.__new__" ⟨.type "zip" :: args, []⟩ = pure () := by
  rcases args with _ | ⟨a, _ | ⟨b, t⟩⟩
  · kernel_rfl
  · kernel_rfl
  · kernel_rfl
theorem args_object_initN (args : List Value) : argsOk "object.__init__" ⟨args, []⟩ := by
  unfold argsOk; rw [signature?_of (id := "object.__init__") (n := ['_', '_', 't', 'i', 'n', 'i', '_', '_']) (o := ['t', 'c', 'e', 'j', 'b', 'o']) (by kernel_rfl) PySem.F.owner_object]; kernel_rfl
/-- a loop of the model over a list, by an invariant -/
theorem wp_forIn {M : Model} {A : Around} {E : Value → Shared → Prop} {α β : Type} {f : α → β → Sem (ForInStep β)} (I : Nat → β → Shared → Prop) (l : List α)
    (hs : ∀ j x b s, l[j]? = some x → I j b s → wpAny M A (f x b) (fun r s' => ∃ b', r = .yield b' ∧ I (j + 1) b' s') E s) :
    ∀ (b : β) (s : Shared), I 0 b s → ∀ {Q : β → Shared → Prop}, (∀ b' s', I l.length b' s' → Q b' s') → wpAny M A (forIn l b f) Q E s := by
  induction l generalizing I with
  | nil => intro b s h Q hQ; rw [List.forIn_nil]; exact wpAny_pure (hQ _ _ h)
  | cons a l ih =>
    intro b s h Q hQ
    rw [List.forIn_cons]
    refine wpAny_bind (wpAny_mono (hs 0 a b s rfl h) (fun r s' ⟨b', e, h'⟩ => ?_) fun _ _ x => x)
    subst e
    exact ih (fun j => I (j + 1)) (fun j x b s e h => hs (j + 1) x b s (by simpa using e) h) b' s' h' hQ
abbrev ZObj (f0 f1 : Value) (TI TO : Addr) : Obj := { cls := .type "zip", dict := none, data := .fields #[f0, f1, .bool false, .ref TI, .ref TO], slots := #[] }
abbrev TObj (xs : List Value) : Obj := { cls := .type "tuple", data := .seq xs.toArray }
def ItAt (h : Heap) : Bool → Addr → Addr → Nat → Prop
  | true, it, l, i => h.IsListIter it l i
  | false, it, l, i => h.IsTupleIter it l i
def SrcAt (h : Heap) : Bool → Addr → List Value → Prop
  | true, l, xs => h.IsList l xs.toArray
  | false, l, xs => h.IsTuple l xs.toArray
theorem ItAt.at {h h' : Heap} {k : Bool} {it l : Addr} {i : Nat} (st : ItAt h k it l i) (e : ∀ o, h.get? it = some o → h'.get? it = some o) : ItAt h' k it l i := by
  cases k
  · exact Heap.IsTupleIter.at st e
  · exact Heap.IsListIter.at st e
theorem SrcAt.at {h h' : Heap} {k : Bool} {l : Addr} {xs : List Value} (st : SrcAt h k l xs) (e : ∀ o, h.get? l = some o → h'.get? l = some o) : SrcAt h' k l xs := by
  cases k
  · obtain ⟨o, ho, r⟩ := st
    exact ⟨o, e o ho, r⟩
  · obtain ⟨o, ho, r⟩ := st
    exact ⟨o, e o ho, r⟩
theorem ItAt.obj {h : Heap} {k : Bool} {it l : Addr} {i : Nat} (st : ItAt h k it l i) : ∃ o, h.get? it = some o ∧ ∀ v, o.data ≠ .cell v := by
  cases k
  · obtain ⟨o, ho, c, d⟩ := st
    exact ⟨o, ho, fun v q => by rw [d] at q; cases q⟩
  · obtain ⟨o, ho, c, d⟩ := st
    exact ⟨o, ho, fun v q => by rw [d] at q; cases q⟩
section
variable {prog : Program} {w : World} {A : Around} {E : Value → Shared → Prop} {s : Shared}
theorem nxt_item {k : Bool} {it l : Addr} {i : Nat} {xs : List Value} {x : Value} {Q : Value → Shared → Prop} (hh : A.handled = none) (hne : l ≠ it) (hi : ItAt s.heap k it l i) (hs : SrcAt s.heap k l xs) (hx : xs[i]? = some x)
    (hQ : ∀ h' tk, ItAt h' k it l (i + 1) → Heap.SameBut it s.heap h' → Q x { s with heap := h', toks := tk }) : wpAny (model prog w) A (Builtin.SmallTypes.nextOf (.ref it)) Q E s := by
  have hlt : i < xs.toArray.size := by have := (List.getElem?_eq_some_iff.mp hx).1; simpa using this
  cases k
  · refine (Draws.tuple hh it l hne xs.toArray).item i s Q E hlt ⟨hi, hs⟩ fun y h' tk hy st sb => ?_
    have e : y = x := by have h1 : xs[i]? = some y := by simpa using hy
                         rw [hx] at h1; exact (Option.some.inj h1).symm
    subst e
    exact hQ h' tk st.1 sb
  · refine (Draws.list hh it l hne xs.toArray).item i s Q E hlt ⟨hi, hs⟩ fun y h' tk hy st sb => ?_
    have e : y = x := by have h1 : xs[i]? = some y := by simpa using hy
                         rw [hx] at h1; exact (Option.some.inj h1).symm
    subst e
    exact hQ h' tk st.1 sb
theorem nxt_end {k : Bool} {it l : Addr} {i : Nat} {xs : List Value} {Q : Value → Shared → Prop} (hh : A.handled = none) (hne : l ≠ it) (hi : ItAt s.heap k it l i) (hs : SrcAt s.heap k l xs) (hx : xs.length = i)
    (hQ : ∀ h' e, Heap.ExtBut it s.heap h' → (∃ o, h'.get? e = some o ∧ o.cls = .type "StopIteration") → E (.ref e) { s with heap := h' }) : wpAny (model prog w) A (Builtin.SmallTypes.nextOf (.ref it)) Q E s := by
  have hz : xs.toArray.size = i := by simpa using hx
  cases k
  · exact (Draws.tuple hh it l hne xs.toArray).done s Q E (by rw [hz]; exact ⟨hi, hs⟩) hQ
  · exact (Draws.list hh it l hne xs.toArray).done s Q E (by rw [hz]; exact ⟨hi, hs⟩) hQ
end
theorem ne_of {a c : Nat} (h : ¬ @Eq Nat a c) : @Ne Addr a c := h
/-- the cells of a zip over the rows rs: the iterators at b, b + 1, .., their tuple, the owned tuple, the zip itself -/
structure ZAt (h : Heap) (b : Nat) (rs : List (Bool × Addr)) (i : Nat) (f0 f1 : Value) : Prop where
  z : h.get? (b + rs.length + 2) = some (ZObj f0 f1 (b + rs.length) (b + rs.length + 1))
  ti : h.get? (b + rs.length) = some (TObj ((List.range rs.length).map fun j => .ref (b + j)))
  to : ∃ kept : List Value, kept.length = rs.length ∧ h.get? (b + rs.length + 1) = some (TObj kept)
  its : ∀ (j : Nat) (k : Bool) (l : Nat), rs[j]? = some (k, l) → ItAt h k (b + j) l i
end DL


namespace DL
open PySem PySem.Spec PySem.Calls PyProof.Rows L2 RZ
def F0 (f0 : Value) : Prop := f0 = .none ∨ ∃ T : Addr, f0 = rawInt T
structure Off (b e : Nat) (h h' : Heap) : Prop where
  sz : h'.objs.size = h.objs.size
  out : ∀ c, (c < b ∨ e ≤ c) → h'.get? c = h.get? c
theorem Off.refl {b e : Nat} {h : Heap} : Off b e h h := ⟨rfl, fun _ _ => rfl⟩
theorem Off.but {b e x : Nat} {h h' h'' : Heap} (o : Off b e h h') (hs : Heap.SameBut x h' h'') (hb : b ≤ x) (he : x < e) : Off b e h h'' :=
  ⟨hs.1.trans o.sz, fun c hc => (hs.2 c (fun q => by subst q; rcases hc with hc | hc <;> omega)).trans (o.out c hc)⟩
section
variable {prog : Program} {w : World} {A : Around} {E : Value → Shared → Prop} {s : Shared}
theorem wp_dead {a : Addr} {Q : Option Obj → Shared → Prop} (ho : s.heap.get? a = none) (h : Q none s) : wpAny (model prog w) A (loadIfAlive a) Q E s := by
  have h' : Q (s.heap.get? a) s := by rw [ho]; exact h
  exact fun _ _ _ => h'
theorem wp_alive {a : Addr} {o : Obj} {Q : Option Obj → Shared → Prop} (ho : s.heap.get? a = some o) (h : Q (some o) s) : wpAny (model prog w) A (loadIfAlive a) Q E s := by
  have h' : Q (s.heap.get? a) s := by rw [ho]; exact h
  exact fun _ _ _ => h'
theorem setSeq {T k : Nat} {xs : List Value} {x : Value} {Q : Unit → Shared → Prop} (hT : s.heap.get? T = some (TObj xs)) (hz : xs.length ≤ sizeLine)
    (h : ∀ h', h'.get? T = some (TObj (xs.set k x)) → Heap.SameBut T s.heap h' → Q () { s with heap := h' }) :
    wpAny (model prog w) A (updateSeq T (·.setIfInBounds k x)) Q E s := by
  refine wpAny_updateSeq hT rfl (h _ ?_ (Heap.SameBut.update ..)) (by simpa using hz) (by simp; omega)
  rw [Heap.get?_update_self _ hT rfl]
  simp [Obj.mapSeq]
/-- the owned tuple is free, or held: then z's flag stands -/
theorem free_or_held {b : Nat} {rs : List (Bool × Addr)} {i : Nat} {f0 f1 : Value} {Q : Bool → Shared → Prop} (Z : ZAt s.heap b rs i f0 f1) (hf : F0 f0) (hq : ∃ q, f1 = .bool q)
    (h1 : Q true s) (h2 : ∀ h' g1, ZAt h' b rs i f0 g1 → (∃ q, g1 = .bool q) → Heap.SameBut (b + rs.length + 2) s.heap h' → Q false { s with heap := h' }) :
    wpAny (model prog w) A (Builtin.SmallTypes.ownedTupleIsFree (.ref (b + rs.length + 2))) Q E s := by
  obtain ⟨q, rfl⟩ := hq
  unfold Builtin.SmallTypes.ownedTupleIsFree
  rcases hf with rfl | ⟨T, rfl⟩
  · exact wpAny_bind (wpAny_field Z.z rfl (x := .none) rfl (wpAny_pure h1))
  · refine wpAny_bind (wpAny_field Z.z rfl (x := rawInt T) rfl ?_)
    show wpAny _ _ (loadIfAlive ((T : Int).toNat) >>= _) _ _ _
    rw [Int.toNat_natCast]
    cases hT : s.heap.get? T with
    | none =>
      refine wpAny_bind (wp_dead hT ?_)
      simp only [Option.isNone_none, if_true]
      exact wpAny_pure h1
    | some o =>
      refine wpAny_bind (wp_alive hT ?_)
      simp only [Option.isNone_some, Bool.false_eq_true, if_false]
      refine wpAny_bind (wpAny_field Z.z rfl (x := .bool q) rfl ?_)
      cases q with
      | true =>
        rw [if_neg (show ¬ ((Value.bool true != Value.bool true) = true) from Bool.false_ne_true)]
        exact wpAny_pure (h2 s.heap _ Z ⟨_, rfl⟩ (Heap.SameBut.refl _ _))
      | false =>
        rw [if_pos (show (Value.bool false != Value.bool true) = true from rfl)]
        refine wpAny_bind (wpAny_setField_rec Z.z (by simp) fun h₁ hz₁ hs₁ => wpAny_pure (h2 h₁ (.bool true) ⟨hz₁, ?_, ?_, ?_⟩ ⟨_, rfl⟩ hs₁))
        · exact (hs₁.2 _ (ne_of (by omega))).trans Z.ti
        · obtain ⟨kept, e1, e2⟩ := Z.to
          exact ⟨kept, e1, (hs₁.2 _ (ne_of (by omega))).trans e2⟩
        · intro j k l e
          have hj : j < rs.length := (List.getElem?_eq_some_iff.mp e).1
          have hj2 : ¬ @Eq Nat (b + j) (b + rs.length + 2) := by omega
          exact (Z.its j k l e).at fun o ho => (hs₁.2 (b + j) (ne_of hj2)).trans ho
/-- the free road: the owned tuple is filled anew, a new tuple of its items is handed out -/
theorem zipN_item {b : Nat} {rs : List (Bool × Addr)} {i : Nat} {f0 f1 : Value} {xs : List Value} {Q : Value → Shared → Prop} (hh : A.handled = none) (Z : ZAt s.heap b rs i f0 f1) (hf : F0 f0) (hq : ∃ q, f1 = .bool q) (hn : 0 < rs.length) (hz : rs.length ≤ sizeLine) (hxs : xs.length = rs.length)
    (hsrc : ∀ (j : Nat) (k : Bool) (l : Nat), rs[j]? = some (k, l) → (l < b ∨ b + rs.length + 3 ≤ l) ∧ ∃ items x, SrcAt s.heap k l items ∧ items[i]? = some x ∧ xs[j]? = some x)
    (hQ : ∀ h' tk g0 g1, ZAt h' b rs (i + 1) g0 g1 → F0 g0 → (∃ q, g1 = .bool q) → h'.get? s.heap.objs.size = some (TObj xs) → h'.objs.size = s.heap.objs.size + 1 →
      (∀ c o, (c < b ∨ b + rs.length + 3 ≤ c) → s.heap.get? c = some o → h'.get? c = some o) → Q (.ref s.heap.objs.size) { s with heap := h', toks := tk }) :
    wpAny (model prog w) A (Builtin.«zip.__next__» ⟨[.ref (b + rs.length + 2)], []⟩) (fun fin s' => ∃ v, fin = .done (.ret v) ∧ Q v s') E s := by
  obtain ⟨hp, g, d, tk0, os⟩ := s
  have hzlt : b + rs.length + 2 < hp.objs.size := Heap.lt_size Z.z
  show wpAny _ _ (field (.ref (b + rs.length + 2)) 2 >>= _) _ _ _
  refine wpAny_bind (wpAny_field Z.z rfl (x := .bool false) rfl ?_)
  show wpAny _ _ (field (.ref (b + rs.length + 2)) 3 >>= _) _ _ _
  refine wpAny_bind (wpAny_field Z.z rfl (x := .ref (b + rs.length)) rfl ?_)
  refine wpAny_bind (wpAny_seqItems Z.ti rfl ?_)
  have hne : ¬ ((List.map (fun j => Value.ref (b + j)) (List.range rs.length)).toArray.isEmpty = true) := by
    simp
    intro e
    rw [e] at hn
    exact absurd hn (by simp)
  dsimp only
  rw [if_neg hne]
  have src : ∀ j, j < rs.length → ∃ (k : Bool) (l : Nat) (items : List Value) (x : Value), rs[j]? = some (k, l) ∧ (l < b ∨ b + rs.length + 3 ≤ l) ∧ SrcAt hp k l items ∧ items[i]? = some x ∧ xs[j]? = some x := by
    intro j hj
    have e0 : rs[j]? = some rs[j] := List.getElem?_eq_getElem hj
    generalize rs[j] = kl at e0
    obtain ⟨k, l⟩ := kl
    have e : rs[j]? = some (k, l) := e0
    obtain ⟨h1, items, x, h2, h3, h4⟩ := hsrc j k l e
    exact ⟨k, l, items, x, e, h1, h2, h3, h4⟩
  refine wpAny_bind (free_or_held Z hf hq ?_ ?_)
  · simp only [if_true]
    refine wpAny_bind (wpAny_rule ?_)
    refine wpAny_bind (wpAny_field Z.z rfl (x := .ref (b + rs.length + 1)) rfl ?_)
    refine wpAny_bind (wpAny_setField_rec Z.z (by simp) fun g0 hz0 hs0 => ?_)
    replace hz0 : g0.get? (b + rs.length + 2) = some (ZObj .ellipsis f1 (b + rs.length) (b + rs.length + 1)) := hz0
    replace hs0 : Heap.SameBut (b + rs.length + 2) hp g0 := hs0
    refine wpAny_bind (wp_forIn (I := fun j bb sh => bb = (none, ()) ∧ ∃ hg tk, ∃ kept : List Value, sh = ⟨hg, g, d, tk, os⟩ ∧ Off b (b + rs.length + 3) hp hg ∧ hg.get? (b + rs.length + 2) = some (ZObj .ellipsis f1 (b + rs.length) (b + rs.length + 1)) ∧
        hg.get? (b + rs.length) = some (TObj ((List.range rs.length).map fun j => .ref (b + j))) ∧ kept.length = rs.length ∧ hg.get? (b + rs.length + 1) = some (TObj kept) ∧ (∀ j', j' < j → kept[j']? = xs[j']?) ∧
        ∀ (j' : Nat) (k : Bool) (l : Nat), rs[j']? = some (k, l) → ItAt hg k (b + j') l (if j' < j then i + 1 else i)) _ ?_ _ _ ?_ ?_)
    · intro j x bb sh hx hI
      obtain ⟨rfl, hg, tk, kept, rfl, of, hz1, hti, hkl, hto, hk, hits⟩ := hI
      have hj : j < rs.length := by have := (List.getElem?_eq_some_iff.mp hx).1; simpa using this
      have ex : x = (.ref (b + j), j) := by
        rw [List.getElem?_zipIdx] at hx
        simp [hj] at hx
        exact hx.symm
      subst ex
      obtain ⟨k, l, items, y, e1, hl, hs, hi, hy⟩ := src j hj
      have hit := hits j k l e1
      rw [if_neg (Nat.lt_irrefl j)] at hit
      have hlb : ¬ @Eq Nat l (b + j) := by rcases hl with h | h <;> omega
      refine wpAny_bind (wpAny_onRaise ?_)
      show wpAny _ _ (Builtin.SmallTypes.nextOf (.ref (b + j)) >>= _) _ _ _
      refine wpAny_bind (nxt_item (s := ⟨hg, g, d, tk, os⟩) hh (ne_of hlb) hit (hs.at fun o ho => (of.out l hl).trans ho) hi fun h2 tk2 hit2 sb2 => wpAny_pure ?_)
      replace sb2 : Heap.SameBut (b + j) hg h2 := sb2
      have of2 := of.but sb2 (by omega) (by omega)
      have n1 : ¬ @Eq Nat (b + rs.length + 1) (b + j) := by omega
      have n2 : ¬ @Eq Nat (b + rs.length + 2) (b + j) := by omega
      have n3 : ¬ @Eq Nat (b + rs.length) (b + j) := by omega
      have hto2 : h2.get? (b + rs.length + 1) = some (TObj kept) := (sb2.2 _ (ne_of n1)).trans hto
      refine wpAny_bind (wpAny_seqItems (s := ⟨h2, g, d, tk2, os⟩) hto2 rfl ?_)
      refine wpAny_bind (setSeq (s := ⟨h2, g, d, tk2, os⟩) hto2 (by omega) fun h3 hto3 sb3 => ?_)
      replace sb3 : Heap.SameBut (b + rs.length + 1) h2 h3 := sb3
      have n4 : ¬ @Eq Nat (b + rs.length + 2) (b + rs.length + 1) := by omega
      have n5 : ¬ @Eq Nat (b + rs.length) (b + rs.length + 1) := by omega
      refine wpAny_bind (wpAny_letGo (wpAny_pure ⟨_, rfl, rfl, h3, tk2, kept.set j y, rfl, of2.but sb3 (by omega) (by omega), (sb3.2 _ (ne_of n4)).trans ((sb2.2 _ (ne_of n2)).trans hz1), (sb3.2 _ (ne_of n5)).trans ((sb2.2 _ (ne_of n3)).trans hti), by simpa using hkl, hto3, ?_, ?_⟩))
      · intro j' hj'
        by_cases ej : j' = j
        · subst ej
          rw [hy]
          simp [hkl, hj]
        · rw [List.getElem?_set_ne (by omega)]
          exact hk j' (by omega)
      · intro j' k' l' e'
        have hj' : j' < rs.length := (List.getElem?_eq_some_iff.mp e').1
        have m1 : ¬ @Eq Nat (b + j') (b + rs.length + 1) := by omega
        by_cases ej : j' = j
        · subst ej
          rw [e1] at e'
          obtain ⟨rfl, rfl⟩ := Prod.mk.inj (Option.some.inj e')
          rw [if_pos (Nat.lt_succ_self _)]
          exact hit2.at fun o ho => (sb3.2 _ (ne_of m1)).trans ho
        · have m2 : ¬ @Eq Nat (b + j') (b + j) := by omega
          have := hits j' k' l' e'
          have e2 : (if j' < j + 1 then i + 1 else i) = (if j' < j then i + 1 else i) := by
            by_cases q : j' < j
            · rw [if_pos q, if_pos (by omega)]
            · rw [if_neg q, if_neg (by omega)]
          rw [e2]
          exact this.at fun o ho => (sb3.2 _ (ne_of m1)).trans ((sb2.2 _ (ne_of m2)).trans ho)
    · obtain ⟨kept, hk1, hk2⟩ := Z.to
      have n4 : ¬ @Eq Nat (b + rs.length + 1) (b + rs.length + 2) := by omega
      have n5 : ¬ @Eq Nat (b + rs.length) (b + rs.length + 2) := by omega
      refine ⟨rfl, g0, tk0, kept, rfl, Off.refl.but hs0 (by omega) (by omega), hz0, (hs0.2 _ (ne_of n5)).trans Z.ti, hk1, (hs0.2 _ (ne_of n4)).trans hk2, fun j' hj' => absurd hj' (Nat.not_lt_zero _), fun j' k l e => ?_⟩
      have hj' : j' < rs.length := (List.getElem?_eq_some_iff.mp e).1
      have n6 : ¬ @Eq Nat (b + j') (b + rs.length + 2) := by omega
      rw [if_neg (Nat.not_lt_zero _)]
      exact (Z.its j' k l e).at fun o ho => (hs0.2 _ (ne_of n6)).trans ho
    · intro bb sh hI
      obtain ⟨rfl, hg, tk, kept, rfl, of, hz1, hti, hkl, hto, hk, hits⟩ := hI
      have ek : kept = xs := by
        apply List.ext_getElem?
        intro j
        by_cases hj : j < rs.length
        · exact hk j (by simpa using hj)
        · rw [List.getElem?_eq_none (by omega), List.getElem?_eq_none (by omega)]
      subst ek
      dsimp only
      refine wpAny_bind (wpAny_seqItems (s := ⟨hg, g, d, tk, os⟩) hto rfl ?_)
      refine wpAny_bind (wpAny_newTuple ?_ (by simpa using (by omega : kept.length ≤ sizeLine)))
      have hsz : hg.objs.size = hp.objs.size := of.sz
      show wpAny _ _ (Builtin.SmallTypes.ownedTupleHandOut (.ref (b + rs.length + 2)) (.ref hg.objs.size) >>= _) _ _ ⟨hg.push (TObj kept), g, d, tk, os⟩
      refine wpAny_bind ?_
      unfold Builtin.SmallTypes.ownedTupleHandOut
      have hz6 : (hg.push (TObj kept)).get? (b + rs.length + 2) = some (ZObj .ellipsis f1 (b + rs.length) (b + rs.length + 1)) := Heap.get?_push_of_some _ hz1
      refine wpAny_bind (wpAny_setField_rec hz6 (by simp) fun h7 hz7 hs7 => ?_)
      replace hz7 : h7.get? (b + rs.length + 2) = some (ZObj (rawInt hg.objs.size) f1 (b + rs.length) (b + rs.length + 1)) := hz7
      replace hs7 : Heap.SameBut (b + rs.length + 2) (hg.push (TObj kept)) h7 := hs7
      refine wpAny_setField_rec hz7 (by simp) fun h8 hz8 hs8 => ?_
      replace hz8 : h8.get? (b + rs.length + 2) = some (ZObj (rawInt hg.objs.size) (.bool false) (b + rs.length) (b + rs.length + 1)) := hz8
      replace hs8 : Heap.SameBut (b + rs.length + 2) h7 h8 := hs8
      have up : ∀ c o, ¬ @Eq Nat c (b + rs.length + 2) → hg.get? c = some o → h8.get? c = some o := fun c o c1 e => (hs8.2 _ (ne_of c1)).trans ((hs7.2 _ (ne_of c1)).trans (Heap.get?_push_of_some _ e))
      have n7 : ¬ @Eq Nat hg.objs.size (b + rs.length + 2) := by omega
      refine wpAny_pure ⟨_, rfl, ?_⟩
      rw [show (Value.ref hg.objs.size) = .ref hp.objs.size from by rw [hsz]]
      refine hQ h8 tk (rawInt hg.objs.size) (.bool false) ⟨hz8, up _ _ (by omega) hti, ⟨kept, hkl, up _ _ (by omega) hto⟩, fun j k l e => ?_⟩ (.inr ⟨_, rfl⟩) ⟨_, rfl⟩ ?_ ?_ fun c o hc e => up c o (by rcases hc with h | h <;> omega) ((of.out c hc).trans e)
      · have hj' : j < rs.length := (List.getElem?_eq_some_iff.mp e).1
        have := hits j k l e
        rw [if_pos (by simpa using hj')] at this
        exact this.at fun o ho => up _ _ (by omega) ho
      · show h8.get? hp.objs.size = _
        rw [← hsz]
        exact (hs8.2 _ (ne_of n7)).trans ((hs7.2 _ (ne_of n7)).trans (Heap.get?_push_size _ rfl))
      · show h8.objs.size = hp.objs.size + 1
        rw [hs8.1, hs7.1, Heap.size_push, hsz]
  · intro h1 g1 Z1 hq1 sb1
    replace sb1 : Heap.SameBut (b + rs.length + 2) hp h1 := sb1
    simp only [Bool.false_eq_true, if_false]
    rw [← Array.forIn_toList]
    refine wpAny_bind (wp_forIn (I := fun j bb sh => bb = (none, (xs.take j).toArray) ∧ ∃ hg tk, sh = ⟨hg, g, d, tk, os⟩ ∧ Off b (b + rs.length + 3) hp hg ∧ hg.get? (b + rs.length + 2) = some (ZObj f0 g1 (b + rs.length) (b + rs.length + 1)) ∧
        hg.get? (b + rs.length) = some (TObj ((List.range rs.length).map fun j => .ref (b + j))) ∧ (∃ kept : List Value, kept.length = rs.length ∧ hg.get? (b + rs.length + 1) = some (TObj kept)) ∧
        ∀ (j' : Nat) (k : Bool) (l : Nat), rs[j']? = some (k, l) → ItAt hg k (b + j') l (if j' < j then i + 1 else i)) _ ?_ _ _ ?_ ?_)
    · intro j x bb sh hx hI
      obtain ⟨rfl, hg, tk, rfl, of, hz1, hti, ⟨kept, hkl, hto⟩, hits⟩ := hI
      have hj : j < rs.length := by have := (List.getElem?_eq_some_iff.mp hx).1; simpa using this
      have ex : x = .ref (b + j) := by
        simp [hj] at hx
        exact hx.symm
      subst ex
      obtain ⟨k, l, items, y, e1, hl, hs, hi, hy⟩ := src j hj
      have hit := hits j k l e1
      rw [if_neg (Nat.lt_irrefl j)] at hit
      have hlb : ¬ @Eq Nat l (b + j) := by rcases hl with h | h <;> omega
      refine wpAny_bind (wpAny_holding ?_)
      show wpAny _ _ (Builtin.SmallTypes.nextOf (.ref (b + j)) >>= _) _ _ _
      refine wpAny_bind (nxt_item (s := ⟨hg, g, d, tk, os⟩) hh (ne_of hlb) hit (hs.at fun o ho => (of.out l hl).trans ho) hi fun h2 tk2 hit2 sb2 => wpAny_pure ?_)
      replace sb2 : Heap.SameBut (b + j) hg h2 := sb2
      have n1 : ¬ @Eq Nat (b + rs.length + 1) (b + j) := by omega
      have n2 : ¬ @Eq Nat (b + rs.length + 2) (b + j) := by omega
      have n3 : ¬ @Eq Nat (b + rs.length) (b + j) := by omega
      refine wpAny_pure ⟨_, rfl, ?_, h2, tk2, rfl, of.but sb2 (by omega) (by omega), (sb2.2 _ (ne_of n2)).trans hz1, (sb2.2 _ (ne_of n3)).trans hti, ⟨kept, hkl, (sb2.2 _ (ne_of n1)).trans hto⟩, ?_⟩
      · rw [List.take_add_one, hy]
        simp
      · intro j' k' l' e'
        have hj' : j' < rs.length := (List.getElem?_eq_some_iff.mp e').1
        by_cases ej : j' = j
        · subst ej
          rw [e1] at e'
          obtain ⟨rfl, rfl⟩ := Prod.mk.inj (Option.some.inj e')
          rw [if_pos (Nat.lt_succ_self _)]
          exact hit2
        · have m2 : ¬ @Eq Nat (b + j') (b + j) := by omega
          have := hits j' k' l' e'
          have e2 : (if j' < j + 1 then i + 1 else i) = (if j' < j then i + 1 else i) := by
            by_cases q : j' < j
            · rw [if_pos q, if_pos (by omega)]
            · rw [if_neg q, if_neg (by omega)]
          rw [e2]
          exact this.at fun o ho => (sb2.2 _ (ne_of m2)).trans ho
    · refine ⟨by simp, h1, tk0, rfl, Off.refl.but sb1 (by omega) (by omega), Z1.z, Z1.ti, Z1.to, fun j' k l e => ?_⟩
      rw [if_neg (Nat.not_lt_zero _)]
      exact Z1.its j' k l e
    · intro bb sh hI
      obtain ⟨rfl, hg, tk, rfl, of, hz1, hti, ⟨kept, hkl, hto⟩, hits⟩ := hI
      have ek : xs.take ((List.range rs.length).map fun j => Value.ref (b + j)).length = xs := by
        rw [List.take_of_length_le]
        simp; omega
      have hsz : hg.objs.size = hp.objs.size := of.sz
      dsimp only
      rw [ek]
      refine wpAny_bind (wpAny_newTuple ?_ (by simpa using (by omega : xs.length ≤ sizeLine)))
      refine wpAny_pure ⟨_, rfl, ?_⟩
      show Q (.ref hg.objs.size) ⟨hg.push (TObj xs), g, d, tk, os⟩
      rw [hsz]
      refine hQ _ tk f0 g1 ⟨Heap.get?_push_of_some _ hz1, Heap.get?_push_of_some _ hti, ⟨kept, hkl, Heap.get?_push_of_some _ hto⟩, fun j k l e => ?_⟩ hf hq1 ?_ ?_ fun c o hc e => Heap.get?_push_of_some _ ((of.out c hc).trans e)
      · have hj' : j < rs.length := (List.getElem?_eq_some_iff.mp e).1
        have := hits j k l e
        rw [if_pos (by simpa using hj')] at this
        exact this.at fun o ho => Heap.get?_push_of_some _ ho
      · show (hg.push (TObj xs)).get? hp.objs.size = _
        rw [← hsz]
        exact Heap.get?_push_size _ rfl
      · show (hg.push (TObj xs)).objs.size = hp.objs.size + 1
        rw [Heap.size_push, hsz]
end
end DL


namespace DL
open PySem PySem.Spec PySem.Calls PyProof.Rows L2 RZ
section
variable {prog : Program} {w : World} {A : Around} {E : Value → Shared → Prop} {s : Shared}
theorem zipN_end {b : Nat} {rs : List (Bool × Addr)} {i : Nat} {f0 f1 : Value} {k : Bool} {l : Nat} {items : List Value} {Q : Fin → Shared → Prop} (hh : A.handled = none) (Z : ZAt s.heap b rs i f0 f1) (hf : F0 f0) (hq : ∃ q, f1 = .bool q)
    (e1 : rs[0]? = some (k, l)) (hl : l < b ∨ b + rs.length + 3 ≤ l) (hs : SrcAt s.heap k l items) (hi : items.length = i)
    (hE : ∀ h' e, (∀ c o, (c < b ∨ b + rs.length + 3 ≤ c) → s.heap.get? c = some o → h'.get? c = some o) → (∃ o, h'.get? e = some o ∧ o.cls = .type "StopIteration") → E (.ref e) { s with heap := h' }) :
    wpAny (model prog w) A (Builtin.«zip.__next__» ⟨[.ref (b + rs.length + 2)], []⟩) Q E s := by
  have hn : 0 < rs.length := (List.getElem?_eq_some_iff.mp e1).1
  obtain ⟨hp, g, d, tk0, os⟩ := s
  show wpAny _ _ (field (.ref (b + rs.length + 2)) 2 >>= _) _ _ _
  refine wpAny_bind (wpAny_field Z.z rfl (x := .bool false) rfl ?_)
  show wpAny _ _ (field (.ref (b + rs.length + 2)) 3 >>= _) _ _ _
  refine wpAny_bind (wpAny_field Z.z rfl (x := .ref (b + rs.length)) rfl ?_)
  refine wpAny_bind (wpAny_seqItems Z.ti rfl ?_)
  have hne : ¬ ((List.map (fun j => Value.ref (b + j)) (List.range rs.length)).toArray.isEmpty = true) := by
    simp
    intro e
    rw [e] at hn
    exact absurd hn (by simp)
  dsimp only
  rw [if_neg hne]
  have hlb : ¬ @Eq Nat l (b + 0) := by rcases hl with h | h <;> omega
  refine wpAny_bind (free_or_held Z hf hq ?_ ?_)
  · simp only [if_true]
    refine wpAny_bind (wpAny_rule ?_)
    refine wpAny_bind (wpAny_field Z.z rfl (x := .ref (b + rs.length + 1)) rfl ?_)
    refine wpAny_bind (wpAny_setField_rec Z.z (by simp) fun g0 hz0 hs0 => ?_)
    replace hz0 : g0.get? (b + rs.length + 2) = some (ZObj .ellipsis f1 (b + rs.length) (b + rs.length + 1)) := hz0
    replace hs0 : Heap.SameBut (b + rs.length + 2) hp g0 := hs0
    refine wpAny_bind (wp_forIn (I := fun j bb sh => j = 0 ∧ sh = ⟨g0, g, d, tk0, os⟩) _ ?_ _ _ ⟨rfl, rfl⟩ ?_)
    · rintro j x bb sh hx ⟨rfl, rfl⟩
      have ex : x = (.ref (b + 0), 0) := by
        rw [List.getElem?_zipIdx] at hx
        simp [hn] at hx
        exact hx.symm
      subst ex
      have n6 : ¬ @Eq Nat (b + 0) (b + rs.length + 2) := by omega
      have n7 : ¬ @Eq Nat l (b + rs.length + 2) := by rcases hl with h | h <;> omega
      refine wpAny_bind (wpAny_onRaise ?_)
      show wpAny _ _ (Builtin.SmallTypes.nextOf (.ref (b + 0)) >>= _) _ _ _
      refine wpAny_bind (nxt_end (s := ⟨g0, g, d, tk0, os⟩) hh (ne_of hlb) ((Z.its 0 k l e1).at fun o ho => (hs0.2 _ (ne_of n6)).trans ho) (hs.at fun o ho => (hs0.2 _ (ne_of n7)).trans ho) hi fun h2 e eb he => ?_)
      obtain ⟨oe, hoe, hce⟩ := he
      replace eb : Heap.ExtBut (b + 0) g0 h2 := eb
      have hz2 : h2.get? (b + rs.length + 2) = some (ZObj .ellipsis f1 (b + rs.length) (b + rs.length + 1)) := eb _ _ (ne_of (fun q => n6 q.symm)) hz0
      have hez : e ≠ b + rs.length + 2 := fun x => by subst x; rw [hz2] at hoe; cases hoe; simp at hce
      refine wpAny_setField_rec (s := ⟨h2, g, d, tk0, os⟩) hz2 (by simp) fun h3 _ hs3 => ?_
      replace hs3 : Heap.SameBut (b + rs.length + 2) h2 h3 := hs3
      refine hE h3 e (fun c o hc x => ?_) ⟨oe, (hs3.2 _ hez).trans hoe, hce⟩
      have c1 : ¬ @Eq Nat c (b + rs.length + 2) := by rcases hc with h | h <;> omega
      have c2 : ¬ @Eq Nat c (b + 0) := by rcases hc with h | h <;> omega
      exact (hs3.2 _ (ne_of c1)).trans (eb _ _ (ne_of c2) ((hs0.2 _ (ne_of c1)).trans x))
    · rintro bb sh ⟨h, _⟩
      simp at h
      rw [h] at hn
      exact absurd hn (by simp)
  · intro h1 g1 Z1 hq1 sb1
    replace sb1 : Heap.SameBut (b + rs.length + 2) hp h1 := sb1
    simp only [Bool.false_eq_true, if_false]
    rw [← Array.forIn_toList]
    refine wpAny_bind (wp_forIn (I := fun j bb sh => j = 0 ∧ sh = ⟨h1, g, d, tk0, os⟩) _ ?_ _ _ ⟨rfl, rfl⟩ ?_)
    · rintro j x bb sh hx ⟨rfl, rfl⟩
      have ex : x = .ref (b + 0) := by
        simp [hn] at hx
        exact hx.symm
      subst ex
      have n7 : ¬ @Eq Nat l (b + rs.length + 2) := by rcases hl with h | h <;> omega
      refine wpAny_bind (wpAny_holding ?_)
      show wpAny _ _ (Builtin.SmallTypes.nextOf (.ref (b + 0)) >>= _) _ _ _
      refine wpAny_bind (nxt_end (s := ⟨h1, g, d, tk0, os⟩) hh (ne_of hlb) (Z1.its 0 k l e1) (hs.at fun o ho => (sb1.2 _ (ne_of n7)).trans ho) hi fun h2 e eb he => ?_)
      replace eb : Heap.ExtBut (b + 0) h1 h2 := eb
      refine hE h2 e (fun c o hc x => ?_) he
      have c1 : ¬ @Eq Nat c (b + rs.length + 2) := by rcases hc with h | h <;> omega
      have c2 : ¬ @Eq Nat c (b + 0) := by rcases hc with h | h <;> omega
      exact eb _ _ (ne_of c2) ((sb1.2 _ (ne_of c1)).trans x)
    · rintro bb sh ⟨h, _⟩
      simp at h
      rw [h] at hn
      exact absurd hn (by simp)
theorem pyNext_zipN_item {b : Nat} {rs : List (Bool × Addr)} {i : Nat} {f0 f1 : Value} {xs : List Value} {Q : Option Value → Shared → Prop} (hh : A.handled = none) (Z : ZAt s.heap b rs i f0 f1) (hf : F0 f0) (hq : ∃ q, f1 = .bool q) (hn : 0 < rs.length) (hz : rs.length ≤ sizeLine) (hxs : xs.length = rs.length)
    (hsrc : ∀ (j : Nat) (k : Bool) (l : Nat), rs[j]? = some (k, l) → (l < b ∨ b + rs.length + 3 ≤ l) ∧ ∃ items x, SrcAt s.heap k l items ∧ items[i]? = some x ∧ xs[j]? = some x)
    (hQ : ∀ h' tk g0 g1, ZAt h' b rs (i + 1) g0 g1 → F0 g0 → (∃ q, g1 = .bool q) → h'.get? s.heap.objs.size = some (TObj xs) → h'.objs.size = s.heap.objs.size + 1 →
      (∀ c o, (c < b ∨ b + rs.length + 3 ≤ c) → s.heap.get? c = some o → h'.get? c = some o) → Q (some (.ref s.heap.objs.size)) { s with heap := h', toks := tk }) :
    wpAny (model prog w) A (pyNext (.ref (b + rs.length + 2))) Q E s := by
  have hT : s.TypeIs (.ref (b + rs.length + 2)) "zip" := ⟨_, Z.z, rfl⟩
  unfold pyNext
  exact wpAny_bind (wpAny_attempt (wpAny_callSpecial?_slot (name := Str.ofString "__next__") hT F.slot_zip_next
    (wpAny_call_entry F.slot_zip_next hT F.entry_zip_next
      (zipN_item hh Z hf hq hn hz hxs hsrc fun h' tk g0 g1 a1 a2 a3 a4 a5 a6 => wpAny_pure (hQ h' tk g0 g1 a1 a2 a3 a4 a5 a6)) (F.args_zip_next_1 _))))
theorem pyNext_zipN_end {b : Nat} {rs : List (Bool × Addr)} {i : Nat} {f0 f1 : Value} {k : Bool} {l : Nat} {items : List Value} {Q : Option Value → Shared → Prop} (hh : A.handled = none) (Z : ZAt s.heap b rs i f0 f1) (hf : F0 f0) (hq : ∃ q, f1 = .bool q)
    (e1 : rs[0]? = some (k, l)) (hl : l < b ∨ b + rs.length + 3 ≤ l) (hs : SrcAt s.heap k l items) (hi : items.length = i)
    (hQ : ∀ h', (∀ c o, (c < b ∨ b + rs.length + 3 ≤ c) → s.heap.get? c = some o → h'.get? c = some o) → Q none { s with heap := h' }) : wpAny (model prog w) A (pyNext (.ref (b + rs.length + 2))) Q E s := by
  have hT : s.TypeIs (.ref (b + rs.length + 2)) "zip" := ⟨_, Z.z, rfl⟩
  unfold pyNext
  refine wpAny_bind (wpAny_attempt (wpAny_callSpecial?_slot (name := Str.ofString "__next__") hT F.slot_zip_next
    (wpAny_call_entry F.slot_zip_next hT F.entry_zip_next (zipN_end hh Z hf hq e1 hl hs hi fun h' e hk he => ?_) (F.args_zip_next_1 _))))
  obtain ⟨o, ho, hc⟩ := he
  refine wpAny_bind (wpAny_isInstance (T := "StopIteration") (b := true) ⟨o, ho, hc⟩ isSubtype_stop ?_)
  exact wpAny_pure (hQ _ hk)
end
end DL


namespace DL
open PySem PySem.Spec PySem.Calls PyProof.Rows L2 RZ
section
variable {prog : Program} {w : World} {A : Around} {E : Value → Shared → Prop} {s : Shared}
theorem iter_k {k : Bool} {l : Addr} {items : List Value} {Q : Value → Shared → Prop} (hs : SrcAt s.heap k l items)
    (hQ : ∀ h', ItAt h' k s.heap.objs.size l 0 → h'.objs.size = s.heap.objs.size + 1 → (∀ c o, s.heap.get? c = some o → h'.get? c = some o) → Q (.ref s.heap.objs.size) { s with heap := h' }) : wpAny (model prog w) A (pyIter (.ref l)) Q E s := by
  cases k
  · exact wpAny_pyIter_tuple (show s.heap.IsTuple l items.toArray from hs) (hQ _ ⟨_, Heap.get?_push_size _ rfl, rfl, rfl⟩ (Heap.size_push ..) fun c o e => Heap.get?_push_of_some _ e)
  · exact wpAny_pyIter_list (show s.heap.IsList l items.toArray from hs) (hQ _ ⟨_, Heap.get?_push_size _ rfl, rfl, rfl⟩ (Heap.size_push ..) fun c o e => Heap.get?_push_of_some _ e)
end
def SrcAll (h : Heap) (rs : List (Bool × Addr)) : Prop := ∀ (j : Nat) (k : Bool) (l : Nat), rs[j]? = some (k, l) → ∃ items, SrcAt h k l items
theorem meets_zip_newN (rs : List (Bool × Addr)) :
    Meets (Builtin.«zip.__new__» ⟨.type "zip" :: rs.map (fun r => .ref r.2), []⟩) (fun _ R s => SrcAll s.heap rs ∧ rs.length ≤ sizeLine ∧
      ∀ h', ZAt h' s.heap.objs.size rs 0 .none (.bool false) → (∀ c o, s.heap.get? c = some o → h'.get? c = some o) → R (.ok (.ret (.ref (s.heap.objs.size + rs.length + 2)))) { s with heap := h' }) :=
  Meets.of_wp fun prog w A R s h => by
    obtain ⟨hp, g, d, tk, os⟩ := s
    obtain ⟨hs, hz, h⟩ := h
    have hsub := sub_zip
    unfold Builtin.«zip.__new__»
    refine wpAny_bind ?_
    unfold Builtin.SmallTypes.newClass
    dsimp only
    refine wpAny_bind (wpAny_of_eq (a := true) rfl ?_)
    rw [if_neg (by simp)]
    refine wpAny_bind (wpAny_of_eq (a := true) hsub ?_)
    rw [if_neg (by simp)]
    refine wpAny_pure ?_
    rw [if_neg (by simp)]
    refine wpAny_bind ?_
    unfold Builtin.SmallTypes.iterAll
    refine wpAny_bind (wp_forIn (I := fun j bb sh => bb = ((List.range j).map fun j => Value.ref (hp.objs.size + j)).toArray ∧ ∃ hg, sh = ⟨hg, g, d, tk, os⟩ ∧ hg.objs.size = hp.objs.size + j ∧ (∀ c o, hp.get? c = some o → hg.get? c = some o) ∧
        ∀ (j' : Nat) (k : Bool) (l : Nat), j' < j → rs[j']? = some (k, l) → ItAt hg k (hp.objs.size + j') l 0) _ ?_ _ _ ?_ ?_)
    · intro j x bb sh hx hI
      obtain ⟨rfl, hg, rfl, hsz, hk, hits⟩ := hI
      have hj : j < rs.length := by have := (List.getElem?_eq_some_iff.mp hx).1; simpa using this
      have e0 : rs[j]? = some rs[j] := List.getElem?_eq_getElem hj
      have ex : x = .ref rs[j].2 := by
        simp [hj] at hx
        exact hx.symm
      subst ex
      generalize rs[j] = kl at e0 hx
      obtain ⟨k, l⟩ := kl
      obtain ⟨items, hsr⟩ := hs j k l e0
      refine wpAny_bind (wpAny_holding ?_)
      refine iter_k (s := ⟨hg, g, d, tk, os⟩) (hsr.at fun o ho => hk _ o ho) fun h' hit hsz' hk' => wpAny_pure ⟨_, rfl, ?_, h', rfl, ?_, fun c o e => hk' c o (hk c o e), ?_⟩
      · show _ = _
        rw [List.range_succ]
        simp [hsz]
      · rw [hsz']
        show hg.objs.size + 1 = _
        rw [hsz]; omega
      · intro j' k' l' hj' e'
        by_cases ej : j' = j
        · subst ej
          rw [e0] at e'
          obtain ⟨rfl, rfl⟩ := Prod.mk.inj (Option.some.inj e')
          rw [← hsz]
          exact hit
        · exact (hits j' k' l' (by omega) e').at fun o ho => hk' _ o ho
    · exact ⟨rfl, hp, rfl, by simp, fun _ _ e => e, fun j' k l hj => absurd hj (Nat.not_lt_zero _)⟩
    · intro bb sh hI
      obtain ⟨rfl, hg, rfl, hsz, hk, hits⟩ := hI
      have en : (rs.map fun r => Value.ref r.2).length = rs.length := by simp
      rw [en] at hsz hits ⊢
      refine wpAny_pure ?_
      dsimp only
      refine wpAny_bind (wpAny_newTuple ?_ (by simpa using hz))
      refine wpAny_bind (wpAny_newTuple ?_ (by simpa using hz))
      show wpAny _ _ (newObj (.type "zip") (.fields #[.none, .bool false, .bool false, .ref hg.objs.size, .ref (hg.push (TObj _)).objs.size]) >>= _) _ _ _
      refine wpAny_bind (wpAny_newObj_type ?_)
      refine wpAny_pure ⟨_, rfl, ?_⟩
      dsimp only
      generalize ex : List.map (fun j => Value.ref (hp.objs.size + j)) (List.range rs.length) = its
      have z1 : (hg.push (TObj its)).objs.size = hp.objs.size + rs.length + 1 := by rw [Heap.size_push, hsz]
      have z2 : ((hg.push (TObj its)).push (TObj (its.map fun x => Value.none))).objs.size = hp.objs.size + rs.length + 2 := by rw [Heap.size_push, z1]
      rw [z2, z1, hsz]
      refine h _ ⟨?_, ?_, ⟨its.map fun x => Value.none, ?_, ?_⟩, fun j k l e => ?_⟩ fun c o e => Heap.get?_push_of_some _ (Heap.get?_push_of_some _ (Heap.get?_push_of_some _ (hk c o e)))
      · show Heap.get? _ (hp.objs.size + rs.length + 2) = _
        rw [← z2]
        exact Heap.get?_push_size _ rfl
      · show Heap.get? _ (hp.objs.size + rs.length) = some (TObj _)
        rw [← hsz, ex]
        exact Heap.get?_push_of_some _ (Heap.get?_push_of_some _ (Heap.get?_push_size _ rfl))
      · rw [← ex]; simp
      · show Heap.get? _ (hp.objs.size + rs.length + 1) = _
        rw [← z1]
        exact Heap.get?_push_of_some _ (Heap.get?_push_size _ rfl)
      · exact (hits j k l ((List.getElem?_eq_some_iff.mp e).1) e).at fun o ho => Heap.get?_push_of_some _ (Heap.get?_push_of_some _ (Heap.get?_push_of_some _ ho))
section
variable {prog : Program} {w : World} {A : Around} {E : Value → Shared → Prop} {s : Shared}
theorem call_zipN {rs : List (Bool × Addr)} {Q : Value → Shared → Prop} (hs : SrcAll s.heap rs) (hz : rs.length ≤ sizeLine)
    (h : ∀ h', ZAt h' s.heap.objs.size rs 0 .none (.bool false) → (∀ c o, s.heap.get? c = some o → h'.get? c = some o) → Q (.ref (s.heap.objs.size + rs.length + 2)) { s with heap := h' }) :
    wpAny (model prog w) A (call (.type "zip") (rs.map fun r => .ref r.2)) Q E s :=
  callType_new F.called_zip (by decide) (typeCall_zipN _) (newCall_zipN _) (fun obj => args_object_initN _) F.entry_zip_new
    (meets_zip_newN rs) ⟨hs, hz, fun h' Z hk => ⟨⟨_, Z.z, rfl⟩, h h' Z hk⟩⟩
end
end DL


namespace DL
open PySem PySem.Spec PySem.Calls PyProof.Rows L2 RZ
def SqK (K : Frag) (H : Hp) : Bool → Addr → List V → Prop
  | true, a, xs => SqL K H a xs
  | false, a, xs => SqT K H a xs
/-- xs: the column at i of the rows -/
def Zrow (K : Frag) (H : Hp) (rs : List (Bool × Addr)) (i : Nat) (xs : List V) : Prop :=
  xs.length = rs.length ∧ ∀ (j : Nat) (k : Bool) (l : Nat), rs[j]? = some (k, l) → ∃ ys x, SqK K H k l ys ∧ ys[i]? = some x ∧ xs[j]? = some x
def IteZ (K : Frag) (rs : List (Bool × Addr)) : It :=
  ⟨fun i H => ∃ xs, Zrow K H rs i xs, fun i H v H' => ∃ T xs, v = .ref T ∧ H T = none ∧ H' = upd H T (.tup xs) ∧ xs.length = rs.length ∧ ∀ (j : Nat) (k : Bool) (l : Nat) ys, rs[j]? = some (k, l) → SqK K H k l ys → ∃ x, ys[i]? = some x ∧ xs[j]? = some x,
    fun i H => ∃ k l ys, rs[0]? = some (k, l) ∧ SqK K H k l ys ∧ ys.length = i⟩
section
variable {X : Cx} {pins : List (Addr × Obj)} {σ : L2.St} {H : Hp} {s : Shared}
theorem sqk_src (I : Inv X pins σ H s) {k : Bool} {l : Addr} {ys : List V} (h : SqK X.K H k l ys) : ∃ its : List Value, Vals ys its ∧ SrcAt s.heap k l its ∧ ys.length ≤ sizeLine := by
  cases k
  · exact I.tuple h
  · obtain ⟨its, r, p, z⟩ := I.list h
    exact ⟨its, r, p.isList, z⟩
theorem sqk_inj (I : Inv X pins σ H s) {k : Bool} {l : Addr} {ys zs : List V} (h : SqK X.K H k l ys) (h' : SqK X.K H k l zs) : ys = zs := by
  cases k
  · exact I.tuple_inj h h'
  · exact I.list_inj h h'
/-- the values of a column -/
theorem zrow_vals (I : Inv X pins σ H s) {i : Nat} : ∀ {rs : List (Bool × Addr)} {xs : List V}, Zrow X.K H rs i xs →
    ∃ us : List Value, Vals xs us ∧ us.length = rs.length ∧ ∀ (j : Nat) (k : Bool) (l : Nat), rs[j]? = some (k, l) → ∃ items x, SrcAt s.heap k l items ∧ items[i]? = some x ∧ us[j]? = some x
  | [], xs, ⟨e, _⟩ => by
    obtain rfl : xs = [] := List.eq_nil_of_length_eq_zero e
    exact ⟨[], .nil, rfl, fun j k l h => by simp at h⟩
  | (k, l) :: rs, xs, ⟨e, h⟩ => by
    obtain ⟨ys, x, h1, h2, h3⟩ := h 0 k l rfl
    cases xs with
    | nil => simp at h3
    | cons x' xs =>
      obtain rfl : x' = x := by simpa using h3
      obtain ⟨us, r, el, hu⟩ := zrow_vals I (rs := rs) (xs := xs) ⟨by simpa using e, fun j k l hj => by simpa using h (j + 1) k l (by simpa using hj)⟩
      obtain ⟨its, rv, sa, _⟩ := sqk_src I h1
      obtain ⟨u, hu2, ru⟩ := rv.get h2
      refine ⟨u :: us, .cons ru r, by simp [el], fun j k' l' hj => ?_⟩
      cases j with
      | zero =>
        obtain ⟨rfl, rfl⟩ := Prod.mk.inj (Option.some.inj (by simpa using hj : some (k, l) = some (k', l')))
        exact ⟨its, u, sa, hu2, rfl⟩
      | succ j =>
        obtain ⟨a, b, c, d, f⟩ := hu j k' l' (by simpa using hj)
        exact ⟨a, b, c, d, by simpa using f⟩
end
theorem mem_fp {b n c : Nat} : (c ∈ (List.range n).map (fun j => b + j)) ↔ (b ≤ c ∧ c < b + n) := by
  simp only [List.mem_map, List.mem_range]
  constructor
  · rintro ⟨j, h, rfl⟩; omega
  · intro h; exact ⟨c - b, by omega, by omega⟩
def ZTn (b : Nat) (rs : List (Bool × Addr)) (i : Nat) (h : Heap) : Prop := ∃ f0 f1, ZAt h b rs i f0 f1 ∧ F0 f0 ∧ (∃ q, f1 = .bool q) ∧ 0 < rs.length ∧ rs.length ≤ sizeLine ∧ ∀ (j : Nat) (k : Bool) (l : Nat), rs[j]? = some (k, l) → l < b
theorem ZAt.keep {h h' : Heap} {b : Nat} {rs : List (Bool × Addr)} {i : Nat} {f0 f1 : Value} (Z : ZAt h b rs i f0 f1) (k : ∀ c ∈ (List.range (rs.length + 3)).map (fun j => b + j), ∀ o, h.get? c = some o → h'.get? c = some o) : ZAt h' b rs i f0 f1 := by
  obtain ⟨kept, e1, e2⟩ := Z.to
  exact ⟨k _ (mem_fp.mpr (by omega)) _ Z.z, k _ (mem_fp.mpr (by omega)) _ Z.ti, ⟨kept, e1, k _ (mem_fp.mpr (by omega)) _ e2⟩, fun j kk l e => (Z.its j kk l e).at fun o ho => k _ (mem_fp.mpr (by have := (List.getElem?_eq_some_iff.mp e).1; omega)) o ho⟩
theorem ZAt.there {h : Heap} {b : Nat} {rs : List (Bool × Addr)} {i : Nat} {f0 f1 : Value} (Z : ZAt h b rs i f0 f1) (c : Nat) (hc : b ≤ c ∧ c < b + (rs.length + 3)) : ∃ o, h.get? c = some o ∧ ∀ v, o.data ≠ .cell v := by
  obtain ⟨kept, e1, e2⟩ := Z.to
  by_cases h1 : c < b + rs.length
  · have hj : c - b < rs.length := by omega
    have e0 : rs[c - b]? = some rs[c - b] := List.getElem?_eq_getElem hj
    have := (Z.its (c - b) _ _ e0).obj
    rw [show b + (c - b) = c from by omega] at this
    exact this
  · by_cases h2 : c = b + rs.length
    · subst h2; exact ⟨_, Z.ti, fun v q => nomatch q⟩
    · by_cases h3 : c = b + rs.length + 1
      · subst h3; exact ⟨_, e2, fun v q => nomatch q⟩
      · have h4 : c = b + rs.length + 2 := by omega
        subst h4; exact ⟨_, Z.z, fun v q => nomatch q⟩
theorem iter_zipN {prog : Program} {w : World} {A : Around} {E : Value → Shared → Prop} {s : Shared} {b : Nat} {rs : List (Bool × Addr)} {i : Nat} {f0 f1 : Value} {Q : Value → Shared → Prop} (Z : ZAt s.heap b rs i f0 f1) (h : Q (.ref (b + rs.length + 2)) s) : wpAny (model prog w) A (pyIter (.ref (b + rs.length + 2))) Q E s := by
  have hT : s.TypeIs (.ref (b + rs.length + 2)) "zip" := ⟨_, Z.z, rfl⟩
  refine wpAny_pyIter_slot hT F.slot_zip_iter (wpAny_call_entry F.slot_zip_iter hT F.entry_zip_iter ?_ (F.args_zip_iter_1 _))
  show wpAny _ _ (PySem.ret (.ref (b + rs.length + 2))) _ _ s
  exact wpAny_pure ⟨_, rfl, "zip", _, hT, F.slot_zip_next.lookup, h⟩
theorem go_zipN {prog : Program} {w : World} {A : Around} {E : Value → Shared → Prop} {s : Shared} {b : Nat} {rs : List (Bool × Addr)} {i : Nat} {f0 f1 : Value} {tg : Expr} {T : Addr} {Q : Unit → Shared → Prop} (Z : ZAt s.heap b rs i f0 f1) (hf : F0 f0)
    (hQ : ∀ h' g0, ZAt h' b rs i g0 f1 → F0 g0 → Heap.SameBut (b + rs.length + 2) s.heap h' → Q () { s with heap := h' }) : wpAny (model prog w) A (letOwnedTupleGo tg (.ref (b + rs.length + 2)) (.ref T)) Q E s := by
  have h1 : wpAny (model prog w) A (pure () : Sem Unit) Q E s := wpAny_pure (hQ s.heap f0 Z hf (Heap.SameBut.refl _ _))
  have h2 : wpAny (model prog w) A (setField (.ref (b + rs.length + 2)) 0 .none) Q E s := by
    refine wpAny_setField_rec Z.z (by simp) fun h' hz' hs' => hQ h' .none ⟨hz', ?_, ?_, ?_⟩ (.inl rfl) hs'
    · exact (hs'.2 _ (ne_of (by omega))).trans Z.ti
    · obtain ⟨kept, e1, e2⟩ := Z.to
      exact ⟨kept, e1, (hs'.2 _ (ne_of (by omega))).trans e2⟩
    · intro j k l e
      have hj : j < rs.length := (List.getElem?_eq_some_iff.mp e).1
      have hj2 : ¬ @Eq Nat (b + j) (b + rs.length + 2) := by omega
      exact (Z.its j k l e).at fun o ho => (hs'.2 (b + j) (ne_of hj2)).trans ho
  have h3 : wpAny (model prog w) A (do
      let o ← load (b + rs.length + 2)
      match o.cls, o.data with
      | .type n, .fields vs =>
        if ["enumerate", "zip", "dict_itemiterator", "dict_reverseitemiterator", "odict_iterator", "itertools.zip_longest", "itertools.pairwise"].contains n && vs[0]? == some (rawInt T) then
          rule "for.unpacks-the-owned-tuple"
          updateField (b + rs.length + 2) 0 .none
      | _, _ => pure ()) Q E s := by
    refine wpAny_bind (wpAny_load Z.z ?_)
    dsimp only
    split
    · exact wpAny_bind (wpAny_rule h2)
    · exact h1
  unfold letOwnedTupleGo
  cases tg <;> first | exact h1 | exact h3
theorem turn_zipN {P : Program} {w : World} {K : Frag} {tg : Expr} (b : Nat) (rs : List (Bool × Addr)) :
    Turn P w K tg (IteZ K rs) ((List.range (rs.length + 3)).map fun j => b + j) (b + rs.length + 2) (ZTn b rs) where
  mem := mem_fp.mpr (by omega)
  obj := fun i h st c hc => by
    obtain ⟨f0, f1, Z, _⟩ := st
    exact Z.there c (mem_fp.mp hc)
  keep := fun i h h' st k => by
    obtain ⟨f0, f1, Z, r⟩ := st
    exact ⟨f0, f1, Z.keep k, r⟩
  item := by
    intro X hP hw hK hc i pins s σ H E I hf st hg
    subst hP hw hK
    obtain ⟨f0, f1, Z, hF, hq, hn, hz, hlt⟩ := st
    obtain ⟨xs, hx⟩ := hg
    obtain ⟨us, rv, el, hu⟩ := zrow_vals I hx
    refine pyNext_zipN_item (I.ok.hd hc) Z hF hq hn hz el (fun j k l e => ⟨.inl (hlt j k l e), hu j k l e⟩) fun h' tk g0 g1 Z' hF' hq' hT hsz hk => ?_
    refine ⟨_, rfl, go_zipN (s := { s with heap := h', toks := tk }) Z' hF' fun h2 g2 Z2 hF2 sb => ?_⟩
    replace sb : Heap.SameBut (b + rs.length + 2) h' h2 := sb
    have hzl : b + rs.length + 2 < s.heap.objs.size := Heap.lt_size Z.z
    have n1 : ¬ @Eq Nat s.heap.objs.size (b + rs.length + 2) := Nat.ne_of_gt hzl
    replace hT : h2.get? s.heap.objs.size = some (TObj us) := (sb.2 _ (ne_of n1)).trans hT
    replace hk : ∀ (c : Nat) o, (c < b ∨ b + rs.length + 3 ≤ c) → s.heap.get? c = some o → h2.get? c = some o := fun c o hc e => by
      have n2 : ¬ @Eq Nat c (b + rs.length + 2) := by rcases hc with h | h <;> omega
      exact (sb.2 _ (ne_of n2)).trans (hk c o hc e)
    have new : ObjOk X.prog X.w (upd H s.heap.objs.size (.tup xs)) h2 s.heap.objs.size (.tup xs) :=
      ⟨by rw [hx.1]; exact hz, us, rv, ⟨_, hT, rfl, _, rfl⟩⟩
    have I1 : Inv X pins σ (upd H s.heap.objs.size (.tup xs)) { s with heap := h2, toks := tk } :=
      I.turnedNew (ch := (List.range (rs.length + 3)).map fun j => b + j) (fun c o hb q => hk c o (by
        have h0 : ¬ (b ≤ c ∧ c < b + (rs.length + 3)) := fun q' => hb (mem_fp.mpr q')
        by_cases h1 : c < b
        · exact .inl h1
        · exact .inr (Nat.not_lt.mp fun h2 => h0 ⟨Nat.not_lt.mp h1, by exact h2⟩)) q) hf (Nat.le_refl _) new
    refine ⟨.ref s.heap.objs.size, _, I1, rfl, ⟨_, xs, rfl, I.hok.fresh (Nat.le_refl _), rfl, hx.1, fun j k l ys e hy => ?_⟩, ⟨g2, g1, Z2, hF2, hq', hn, hz, hlt⟩, fun c hcm => ?_⟩
    · obtain ⟨zs, x, h1, h2, h3⟩ := hx.2 j k l e
      obtain rfl := sqk_inj I h1 hy
      exact ⟨x, h2, h3⟩
    · have hb' : c < s.heap.objs.size := by
        obtain ⟨o, ho, _⟩ := Z.there c (mem_fp.mp hcm)
        exact Heap.lt_size ho
      rw [upd_ne (Nat.ne_of_lt hb')]
      exact (hf c hcm).1
  done := by
    intro X hP hw hK hc i pins s σ H E I hf st hg
    subst hP hw hK
    obtain ⟨f0, f1, Z, hF, hq, hn, hz, hlt⟩ := st
    obtain ⟨k, l, ys, e0, hy, hl⟩ := hg
    obtain ⟨its, rv, sa, _⟩ := sqk_src I hy
    refine pyNext_zipN_end (I.ok.hd hc) Z hF hq e0 (.inl (hlt _ _ _ e0)) sa (by rw [← rv.length]; exact hl) fun h' hk => ⟨rfl, I.turnedL (t' := s.toks) (ch := (List.range (rs.length + 3)).map fun j => b + j) (fun c o hb q => hk c o (by
        have h0 : ¬ (b ≤ c ∧ c < b + (rs.length + 3)) := fun q' => hb (mem_fp.mpr q')
        by_cases h1 : c < b
        · exact .inl h1
        · exact .inr (Nat.not_lt.mp fun h2 => h0 ⟨Nat.not_lt.mp h1, by exact h2⟩)) q) hf⟩
  self := fun A i s Q E st h => by
    obtain ⟨f0, f1, Z, _⟩ := st
    exact iter_zipN Z h
end DL


namespace DL
open PySem PySem.Spec PySem.Calls PyProof.Rows L2 RZ
theorem vals_refs {rs : List (Bool × Addr)} {us : List Value} (h : Vals (rs.map fun r => V.ref r.2) us) : us = rs.map fun r => Value.ref r.2 := by
  induction rs generalizing us with
  | nil => cases h; rfl
  | cons r rs ih =>
    cases h with
    | cons h1 h2 =>
      cases h1
      rw [ih h2]
      rfl
def iZipS (K : Frag) (te : TE) : TI := fun σ H R => te σ H fun v H1 => ∃ a rs, v = .ref a ∧ (SqT K H1 a (rs.map fun r => V.ref r.2) ∨ SqL K H1 a (rs.map fun r => V.ref r.2)) ∧ 0 < rs.length ∧ (∀ (j : Nat) (k : Bool) (l : Nat), rs[j]? = some (k, l) → ∃ ys, SqK K H1 k l ys) ∧ R (IteZ K rs) H1
theorem SrcAt.lt {h : Heap} {k : Bool} {l : Addr} {xs : List Value} (st : SrcAt h k l xs) : l < h.objs.size := by
  cases k
  · obtain ⟨o, ho, _⟩ := st
    exact Heap.lt_size ho
  · obtain ⟨o, ho, _⟩ := st
    exact Heap.lt_size ho
theorem walk_zipN {K : Frag} {rs : List (Bool × Addr)} {n : Nat} (hn : 0 < rs.length) {yss : List (List V)} (hl : yss.length = rs.length) (hy : ∀ ys ∈ yss, ys.length = n) :
    Walk (IteZ K rs) n (fun H => ∀ (j : Nat) (k : Bool) (l : Nat) ys, rs[j]? = some (k, l) → yss[j]? = some ys → SqK K H k l ys)
      (fun i H v H' => ∃ T xs, v = .ref T ∧ H T = none ∧ H' = upd H T (.tup xs) ∧ xs.length = rs.length ∧ ∀ (j : Nat) ys, yss[j]? = some ys → ∃ x, ys[i]? = some x ∧ xs[j]? = some x) := by
  have get : ∀ j, j < rs.length → ∃ (k : Bool) (l : Nat) (ys : List V), rs[j]? = some (k, l) ∧ yss[j]? = some ys ∧ ys.length = n := fun j hj => by
    have e0 : rs[j]? = some rs[j] := List.getElem?_eq_getElem hj
    have hj2 : j < yss.length := by omega
    have e1 : yss[j]? = some yss[j] := List.getElem?_eq_getElem hj2
    exact ⟨rs[j].1, rs[j].2, yss[j], e0, e1, hy _ (List.getElem_mem hj2)⟩
  refine ⟨fun i H hi q => ?_, fun H q => ?_, fun i H v H' hi q y => ?_⟩
  · refine ⟨yss.map (fun ys => (ys[i]?).getD .non), by simpa using hl, fun j k l e => ?_⟩
    obtain ⟨k', l', ys, e1, e2, e3⟩ := get j (List.getElem?_eq_some_iff.mp e).1
    rw [e] at e1
    obtain ⟨rfl, rfl⟩ := Prod.mk.inj (Option.some.inj e1)
    have hi' : i < ys.length := by omega
    exact ⟨ys, ys[i], q j k l ys e e2, List.getElem?_eq_getElem hi', by simp [e2, hi']⟩
  · obtain ⟨k', l', ys, e1, e2, e3⟩ := get 0 hn
    exact ⟨k', l', ys, e1, q 0 k' l' ys e1 e2, e3⟩
  · obtain ⟨T, xs, h1, h2, h3, h4, h5⟩ := y
    refine ⟨T, xs, h1, h2, h3, h4, fun j ys e => ?_⟩
    have hj : j < rs.length := by have := (List.getElem?_eq_some_iff.mp e).1; omega
    obtain ⟨k', l', ys', e1, e2, e3⟩ := get j hj
    exact h5 j k' l' ys e1 (q j k' l' ys e1 e)
/-- rows as data, their columns -/
def SeqS (ds : List D) (rss : List (List D)) : Prop := ds.length = rss.length ∧ ∀ (j : Nat) d r, ds[j]? = some d → rss[j]? = some r → Seq d r
def colD (rss : List (List D)) (i : Nat) : D := .tup (rss.map fun r => (r[i]?).getD .non)
def colsD (n : Nat) (rss : List (List D)) : List D := (List.range n).map (colD rss)
theorem SeqS.cons {d : D} {ds : List D} {r : List D} {rss : List (List D)} (h : SeqS (d :: ds) (r :: rss)) : Seq d r ∧ SeqS ds rss :=
  ⟨h.2 0 d r rfl rfl, by simpa using h.1, fun j d' r' h1 h2 => h.2 (j + 1) d' r' (by simpa using h1) (by simpa using h2)⟩
section
variable {X : CD} {e : Expr} {ρ : Rn} {m : Led} {R : List D → Led → Prop} {p p2 pos : Pos} {tg : Expr}
end
end DL


namespace DL
open PySem PySem.Spec PySem.Calls PyProof.Rows L2 RZ
/-! ### zip of a list and a tuple -/
def iZip2 (K : Frag) (ta : TA) : TI := fun σ H R => ta σ H fun vs H1 => ∃ (k1 : Bool) (l1 : Nat) (k2 : Bool) (l2 : Nat) (xs ys : List V), vs = [.ref l1, .ref l2] ∧ SqK K H1 k1 l1 xs ∧ SqK K H1 k2 l2 ys ∧ R (IteZ K [(k1, l1), (k2, l2)]) H1
theorem pi_zip2 {X : Cx} {e e2 : Expr} {ta : TA} {p pos : Pos} {tg : Expr} (hg : Gl X "zip") (hm : X.mg "zip" = none) (ha : PA X [e, e2] ta)
    (hs : starEach [e, e2] X.env = (false, eval e X.env) :: starEach [e2] X.env := by rfl) (hpl : (backTo pos (starEach [e2] X.env)).any (·.1) = false := by rfl) :
    PI X tg (.Call (.Name "zip" p) [e, e2] [] pos) (iZip2 X.K ta) := by
  refine ⟨fun pins s σ H R I h => ?_⟩
  refine Call_ (ld_blt I hg hm PyProof.Rows.boot_zip (PyProof.Rows.callWith_type1 (thn (ha.run pos pins s σ H _ I h) fun us s1 ⟨vs, H1, I1, r1, q1⟩ => ?_) hs hpl))
  obtain ⟨k1, l1, k2, l2, xs, ys, ex, hqx, hqy, q⟩ := q1
  subst ex
  cases r1 with
  | cons r rr =>
    cases rr with
    | cons r' rr =>
      cases rr
      cases r
      cases r'
      have hy : ∀ (j : Nat) (k : Bool) (l : Nat), [(k1, l1), (k2, l2)][j]? = some (k, l) → ∃ ys, SqK X.K H1 k l ys := by
        intro j k l e
        rcases j with _ | _ | j
        · obtain ⟨rfl, rfl⟩ := Prod.mk.inj (Option.some.inj (by simpa using e : some (k1, l1) = some (k, l)))
          exact ⟨_, hqx⟩
        · obtain ⟨rfl, rfl⟩ := Prod.mk.inj (Option.some.inj (by simpa using e : some (k2, l2) = some (k, l)))
          exact ⟨_, hqy⟩
        · simp at e
      have src : SrcAll s1.heap [(k1, l1), (k2, l2)] := fun j k l e => by
        obtain ⟨ys, hy⟩ := hy j k l e
        obtain ⟨its, _, sa, _⟩ := sqk_src I1 hy
        exact ⟨its, sa⟩
      refine call_zipN (rs := [(k1, l1), (k2, l2)]) src (show (2 : Nat) ≤ sizeLine by decide) fun h' Z hk => iter_zipN Z ?_
      have I3 : Inv X pins σ H1 { s1 with heap := h' } := I1.kept (t' := s1.toks) hk
      refine ⟨s1.heap.objs.size + 2 + 2, (List.range (2 + 3)).map (fun j => s1.heap.objs.size + j), _, _, H1, rfl, I3, turn_zipN s1.heap.objs.size [(k1, l1), (k2, l2)], ⟨_, _, Z, .inl rfl, ⟨_, rfl⟩, show (0 : Nat) < 2 by decide, show (2 : Nat) ≤ sizeLine by decide, fun j k l e => ?_⟩, fun c hc => ?_, q⟩
      · obtain ⟨its, sa⟩ := src j k l e
        exact sa.lt
      · have hle : s1.heap.objs.size ≤ c := (mem_fp.mp hc).1
        exact I1.fpOk hle (I1.hok.fresh hle)
theorem sqk_of {K : Frag} {F : Hp} {v : V} {d : D} {as : List D} (h : Seq d as) (q : Den K F v d) : ∃ (k : Bool) (l : Nat) (xs : List V), v = .ref l ∧ SqK K F k l xs ∧ Dens K F xs as := by
  rcases h with rfl | rfl
  · cases q with
    | lst hq hqs => exact ⟨true, _, _, rfl, .inl hq, hqs⟩
  · cases q with
    | tup hq hqs => exact ⟨false, _, _, rfl, hq, hqs⟩
theorem SqK.ex {K : Frag} {H H' : Hp} {k : Bool} {l : Addr} {xs : List V} (h : SqK K H k l xs) (e : Ex H H') : SqK K H' k l xs := by
  cases k
  · exact e.sqT h
  · exact e.sqL h
section
variable {X : CD} {a b : Expr} {ρ : Rn} {m : Led} {R : List D → Led → Prop} {p pos : Pos} {tg : Expr}
theorem ix_zip2 (h : EX X a ρ m fun d m1 => EX X b ρ m1 fun d2 m2 => ∃ as bs, Seq d as ∧ Seq d2 bs ∧ as.length = bs.length ∧ R (zipD as bs) m2) (hm : X.mg "zip" = none) (hg : Gl X "zip" := by rfl)
    (hs : starEach [a, b] X.env = (false, eval a X.env) :: starEach [b] X.env := by rfl) (hs2 : starEach [b] X.env = (false, eval b X.env) :: starEach [] X.env := by rfl) (hpl : (backTo pos (starEach [b] X.env)).any (·.1) = false := by rfl) : IX X tg (.Call (.Name "zip" p) [a, b] [] pos) ρ m R := .mk fun F σ H en at_ =>
  SI.of (pi_zip2 hg hm (pa_cons (pe_SE (e := a)) (pa_cons (pe_SE (e := b)) pa_nil hs2) hs) hs hpl) (h.go en at_ fun v d F1 m1 H1 s1 en1 q r1 => r1.go en1 s1.at2 fun v2 d2 F2 m2 H2 s2 en2 q2 ⟨as, bs, ed, ed2, hl, r⟩ => by
    obtain ⟨k1, l1, xs, rfl, a1, a2⟩ := sqk_of ed (q.mono s2.ex)
    obtain ⟨k2, l2, ys, rfl, b1, b2⟩ := sqk_of ed2 q2
    refine ⟨k1, l1, k2, l2, xs, ys, rfl, a1.ex s2.at2.sub, b1.ex s2.at2.sub, _, F2, m2, s1.trans s2, r, ?_⟩
    have hx : xs.length = as.length := a2.length
    have hy : ys.length = as.length := by rw [b2.length, hl]
    rw [show (zipD as bs).length = as.length from by rw [zipD_len]; omega]
    refine Walk.mono (walk_zipN (rs := [(k1, l1), (k2, l2)]) (n := as.length) (show (0 : Nat) < 2 by decide) (yss := [xs, ys]) rfl (fun zs hz => by
      rcases List.mem_cons.mp hz with rfl | hz
      · exact hx
      · obtain rfl : zs = ys := by simpa using hz
        exact hy)) (fun H' ex j k l zs g1 g2 => ?_) fun i H' x H'' hi _ y => fun F3 m3 ex at2 => ?_
    · rcases j with _ | _ | j
      · obtain ⟨rfl, rfl⟩ := Prod.mk.inj (Option.some.inj (by simpa using g1 : some (k1, l1) = some (k, l)))
        obtain rfl : xs = zs := by simpa using g2
        exact a1.ex ex
      · obtain ⟨rfl, rfl⟩ := Prod.mk.inj (Option.some.inj (by simpa using g1 : some (k2, l2) = some (k, l)))
        obtain rfl : ys = zs := by simpa using g2
        exact b1.ex ex
      · simp at g1
    · obtain ⟨T, us, rfl, hT, rfl, el, hu⟩ := y
      have nw := Step.new (o := .tup us) at2 hT
      have i1 : as[i]? = some as[i] := List.getElem?_eq_getElem hi
      have i2 : bs[i]? = some bs[i] := List.getElem?_eq_getElem (by omega)
      refine ⟨_, .tup [as[i], bs[i]], zipD_get i1 i2, nw, .tup (.inl (.inl upd_same)) ?_⟩
      obtain ⟨x, g1, g2⟩ := hu 0 xs rfl
      obtain ⟨y, g3, g4⟩ := hu 1 ys rfl
      obtain ⟨dx, g5, qx⟩ := a2.getV g1
      obtain ⟨dy, g6, qy⟩ := b2.getV g3
      rw [i1] at g5
      rw [i2] at g6
      obtain rfl := Option.some.inj g5
      obtain rfl := Option.some.inj g6
      have eu : us = [x, y] := by
        match us, el, g2, g4 with
        | [a, b], _, g2, g4 => simp at g2 g4; rw [g2, g4]
      subst eu
      exact .cons (qx.mono (ex.trans nw.ex)) (.cons (qy.mono (ex.trans nw.ex)) .nil))
end
/-! ### mirrors -/
/-- code that the law never reaches -/
def noM : M D := fun _ _ _ => False
def zipX (d d2 : D) : M (List D) := fun m R _ => ∃ as bs, Seq d as ∧ Seq d2 bs ∧ as.length = bs.length ∧ R (zipD as bs) m
def zipS (d : D) : M (List D) := fun m R _ => ∃ ds rss n, (LstV m d ds ∨ d = .tup ds) ∧ SeqS ds rss ∧ rss ≠ [] ∧ (∀ r ∈ rss, r.length = n) ∧ R (colsD n rss) m
section
variable {X : CD} {a b e tg it : Expr} {ρ : Rn} {p p2 pos tpos : Pos} {mg : Str → Option Value} {c ca cb : M D}
theorem iv_zipX {elts : List Expr} {kk : Nat} (hm : mg "zip" = none) (ha : Ev X a ρ ca) (hb : Ev X b ρ cb) (hX : X.mg = mg := by rfl) (hg : Gl X "zip" := by rfl)
    (hs : starEach [a, b] X.env = (false, eval a X.env) :: starEach [b] X.env := by rfl) (hs2 : starEach [b] X.env = (false, eval b X.env) :: starEach [] X.env := by rfl) (hpl : (backTo pos (starEach [b] X.env)).any (·.1) = false := by rfl) : Iv X (.Tuple elts kk tpos) (.Call (.Name "zip" p) [a, b] [] pos) ρ (bnd ca fun x => bnd cb fun y => zipX x y) := ⟨fun m R E xa k =>
  ix_zip2 ((ha.run m _ E xa k).mono fun d1 m1 h1 => (hb.run m1 _ E xa h1).mono fun d2 m2 h => h) (by rw [hX]; exact hm) hg hs hs2 hpl⟩
end
end DL


namespace DL
open PySem PySem.Spec PySem.Calls PyProof.Rows L2 RZ
/-! ### a def with *rest -/
/-- the binding of a call's arguments, which may lay objects (the tuple of the rest) -/
def BindsV (s0 s : Shared) (fd : FuncData) (args : Args) (binds : List (Str × Value)) : Prop :=
  ∀ (M : Model) (A : Around) (E : Value → Shared → Prop) (Q : List (Str × Value) → Shared → Prop), Q binds s → wpAny M A (bindArgs fd args) Q E s0
structure FnOkV (P : Program) (w : World) (K : Frag) (mg : Str → Option Value) (base : Heap) (CX : CXT) (k : Nat) (f : Addr) (fd : FuncData) (ps : List Str) (sp : Sp) : Prop where
  len : ∀ vs H Q E, sp vs H Q E → vs.length = ps.length
  run : ∀ (A : Around) (outer : List PySem.Env) (s0 s : Shared) (H : Hp) (args : Args) (us : List Value) (vs : List V) (Q : VK) (E : XK), Room k A → K.In s0.heap → Env0 P w K mg base A outer s H → BindsV s0 s fd args (ps.zip us) → Vals vs us → sp vs H Q E →
    codeAny (model P w) A (.call (.ref f) args) (CR CX outer P w H s Q E) s0
theorem FnOkV.mono {P : Program} {w : World} {K : Frag} {mg : Str → Option Value} {base : Heap} {CX : CXT} {j k : Nat} {f : Addr} {fd : FuncData} {ps : List Str} {sp : Sp} (F : FnOkV P w K mg base CX j f fd ps sp) (h : j ≤ k) :
    FnOkV P w K mg base CX k f fd ps sp := ⟨F.len, fun A outer s0 s H args us vs Q E hr => F.run A outer s0 s H args us vs Q E (hr.mono h)⟩
section
variable {P : Program} {w : World} {K : Frag} {mg : Str → Option Value} {base : Heap}
/-- a def f(x, *rest), called with n values behind x -/
structure KnowsV (P : Program) (w : World) (K : Frag) (mg : Str → Option Value) (base : Heap) (k : Nat) (x : Str) (n : Nat) (sp : SpX) : Prop where
  fn : ∃ f fd ps, FnOkV P w K mg base (L2.CX P w) k f fd ps (liftX K mg sp) ∧ mg x = some (.ref f) ∧ PySem.W.keepIn K (.ref f) = true ∧ ps.length = 2 ∧ n ≤ 1000 ∧
    ∀ (s : Shared) (u : Value) (us : List Value), us.length = n → BindsV s { s with heap := s.heap.push (TObj us) } fd ⟨u :: us, []⟩ (ps.zip [u, .ref s.heap.objs.size])
theorem KnowsV.mono {P : Program} {w : World} {K : Frag} {mg : Str → Option Value} {base : Heap} {k j : Nat} {x : Str} {n : Nat} {sp : SpX} (G : KnowsV P w K mg base k x n sp) (h : k ≤ j) : KnowsV P w K mg base j x n sp := by
  obtain ⟨f, fd, ps, FO, r⟩ := G.fn
  exact ⟨f, fd, ps, FO.mono h, r⟩
end
section
variable {X : CD} {e : Expr} {es : List Expr} {ρ : Rn} {m : Led} {R : D → Led → Prop} {x : Str} {p pos : Pos} {k n : Nat} {sp : SpX} {E : XR}
end
/-- the values behind the first one come as a tuple -/
def varM (n : Nat) (sp : SpX) (ds : List D) : M D := fun m R E => ∃ d dr, ds = d :: dr ∧ dr.length = n ∧ sp [d, .tup dr] m R E
section
variable {X : CD} {e : Expr} {es : List Expr} {ρ : Rn} {x : Str} {p pos : Pos} {k n : Nat} {sp : SpX} {P : Program} {w : World} {K : Frag} {mg : Str → Option Value} {base : Heap} {c : M (List D)}
end
end DL


namespace DL
open PySem PySem.Spec PySem.Calls PyProof.Rows L2 RZ
/-! ### a, b, .. = a list; four names -/
section
variable {X : CD} {ρ : Rn} {m : Led} {pos : Pos}
end
def ut4 {α : Type} (d : D) (k : D → D → D → D → M α) : M α := fun m R E => ∃ a1 a2 a3 a4, d = .tup [a1, a2, a3, a4] ∧ k a1 a2 a3 a4 m R E
def ul2 {α : Type} (d : D) (k : D → D → M α) : M α := fun m R E => ∃ a1 a2, d = .lst [a1, a2] ∧ k a1 a2 m R E
def ul3 {α : Type} (d : D) (k : D → D → D → M α) : M α := fun m R E => ∃ a1 a2 a3, d = .lst [a1, a2, a3] ∧ k a1 a2 a3 m R E
def ul4 {α : Type} (d : D) (k : D → D → D → D → M α) : M α := fun m R E => ∃ a1 a2 a3 a4, d = .lst [a1, a2, a3, a4] ∧ k a1 a2 a3 a4 m R E
section
variable {X : CD} {body : List Stmt} {ρ : Rn} {σ τ : Type} {en : σ → Option Rn} {el : τ → Rn} {p0 q1 q2 q3 q4 : Pos} {x1 x2 x3 x4 : Str} {i1 i2 i3 i4 n0 : Nat} {d : D} {ρ1 : D → Rn} {ρ2 : D → D → Rn} {ρ3 : D → D → D → Rn} {ρ4 : D → D → D → D → Rn}
end
section
variable {P : Program} {w : World} {K : Frag} {mg : Str → Option Value} {base : Heap} {k n : Nat} {x qual : Str} {st : Stmt} {f : Addr} {fd : FuncData} {ps : List Str} {sp : SpX}
end
end DL


namespace DL
open PySem PySem.Spec PySem.Calls PyProof.Rows L2 RZ
/-! ### walks of lists that stand in the ledger -/
def Hold (a : Addr) (ds : List D) (m : Led) : Prop := ∃ n : Nat, m[n]? = some (a, MO.lst ds)
def GL (a : Addr) (n : Nat) (H : Hp) : Prop := ∃ xs, Rd H a (.lst xs) ∧ xs.length = n
def YL (K : Frag) (a : Addr) (ds0 ds : List D) (i : Nat) (H2 : Hp) (x : V) (H3 : Hp) : Prop := ∀ F2 m2, At K F2 m2 H2 → Hold a ds0 m2 → ∃ F3 d, ds[i]? = some d ∧ Step K F2 m2 H2 F3 m2 H3 ∧ Den K F3 x d
theorem Hold.read {K : Frag} {F H : Hp} {m : Led} {a : Addr} {ds : List D} (h : Hold a ds m) (at_ : At K F m H) : ∃ xs, H a = some (.lst xs) ∧ Dens K F xs ds := by
  obtain ⟨n, h⟩ := h
  obtain ⟨hh, ⟨xs, rfl, hx⟩, e⟩ := at_.get h
  exact ⟨xs, e, hx⟩
theorem Hold.gl {K : Frag} {F H : Hp} {m : Led} {a : Addr} {ds : List D} (h : Hold a ds m) (at_ : At K F m H) : GL a ds.length H := by
  obtain ⟨xs, e, hx⟩ := h.read at_
  exact ⟨xs, .inl e, hx.length⟩
structure IXL (X : CD) (tg it : Expr) (ρ : Rn) (m : Led) (R : Addr → List D → List D → Led → Prop) : Prop where
  run : ∀ F σ H, Env X F σ ρ → AtX X F m H →
  SI X tg it σ H fun J H1 => ∃ a ds0 ds F1 m1, Step X.K F m H F1 m1 H1 ∧ R a ds0 ds m1 ∧ Walk J ds.length (GL a ds0.length) (YL X.K a ds0 ds)
section
variable {X : CD} {c tg it e : Expr} {body : List Stmt} {ρ : Rn} {m : Led} {E : EndsD} {pos p tpos : Pos} {R : Addr → List D → List D → Led → Prop}
def ForIL (X : CD) (tg : Expr) (body : List Stmt) (ρ : Rn) (E : EndsD) (a : Addr) (ds0 ds : List D) (m1 : Led) : Prop := ∃ I : Nat → Rn → Led → Prop, I 0 ρ m1 ∧ (∀ i ρ' m', I i ρ' m' → Hold a ds0 m') ∧
  (∀ i d ρ' m', ds[i]? = some d → I i ρ' m' → GX X tg d ρ' m' fun ρ2 m2 => SX X body ρ2 m2 { E with nx := I (i + 1), ct := I (i + 1), bk := E.nx }) ∧ ∀ ρ' m', I ds.length ρ' m' → E.nx ρ' m'
end
/-! ### mirrors -/
def ledL (u : D) : M (List D) := fun m R _ => ∃ p ds, u = .ref p ∧ Hold p ds m ∧ R ds m
def hold (u : D) (ds : List D) : M Unit := fun m R _ => (∃ p, u = .ref p ∧ Hold p ds m) ∧ R () m
def forH {σ τ : Type} (u : D) (ds0 : List D) (f : D → σ → M (Fl σ σ)) : List D → σ → M (Fl σ τ)
  | [], s => bnd (hold u ds0) fun _ => ret (.nx s)
  | d :: ds, s => bnd (hold u ds0) fun _ => bnd (f d s) fun fl => match fl with
    | .nx s' => forH u ds0 f ds s'
    | .ct s' => forH u ds0 f ds s'
    | .bk s' => ret (.nx s')
    | .rt d => ret (.rt d)
structure IvL (X : CD) (tg it : Expr) (ρ : Rn) (c : M D) (g : List D → List D) : Prop where
  run : ∀ (m : Led) (R : D → List D → Led → Prop) (E : XR), XA X ρ E → c m (fun u m1 => ∃ p ds, u = .ref p ∧ Hold p ds m1 ∧ R u ds m1) E → IXL X tg it ρ m fun a ds0 ds m1 => ds = g ds0 ∧ Hold a ds0 m1 ∧ R (.ref a) ds0 m1
section
variable {X : CD} {tg it a : Expr} {ρ : Rn} {ca : M D} {mg : Str → Option Value} {p pos tpos : Pos} {rest body : List Stmt} {σ τ σ1 : Type} {en : σ → Option Rn} {el : τ → Rn} {e1 : σ1 → Rn} {g : List D → List D}
end
end DL


namespace DL
open PySem PySem.Spec PySem.Calls PyProof.Rows L2 RZ
/-! ### [elt for y in a list of the ledger] -/
section
variable {X : CD} {elt it : Expr} {scope : Scope} {ρ : Rn} {m : Led} {R : D → Led → Prop} {pos py : Pos} {y : Str} {j : Nat}
def CompIL (X : CD) (scope : Scope) (elt : Expr) (y : Str) (j : Nat) (ρ : Rn) (R : List D → Led → Prop) (a : Addr) (ds0 ds : List D) (m1 : Led) : Prop := ∃ I : Nat → List D → Led → Prop, I 0 [] m1 ∧ (∀ i acc m', I i acc m' → Hold a ds0 m') ∧
  (∀ i d acc m', ds[i]? = some d → I i acc m' → ∃ ρ2, SetAt ρ j y d ρ2 ∧ ∀ (s : Shared) (H0 : Hp) (C : Addr) (cl : List (Str × Addr)) (fp : List Addr),
    EX (X.blk s H0 scope (compEnvC scope cl C X.env) fp) elt ρ2 m' fun z m3 => acc.length < 100000 ∧ I (i + 1) (acc ++ [z]) m3) ∧ ∀ acc m', I ds.length acc m' → R acc m'
end
/-- a comprehension over a ledger list: it stands at each turn and at the end -/
def compH (u : D) (ds0 : List D) (f : D → M (Option D)) : List D → List D → M (List D)
  | [], acc => bnd (hold u ds0) fun _ => ret acc
  | d :: ds, acc => fun m R E => bnd (hold u ds0) (fun _ => f d) m (fun o m' => match o with
    | some z => acc.length < 100000 ∧ compH u ds0 f ds (acc ++ [z]) m' R E
    | none => compH u ds0 f ds acc m' R E) NoX
section
variable {X : CD} {elt it : Expr} {scope : Scope} {ρ : Rn} {pos py : Pos} {y : Str} {j : Nat} {ca : M D} {f : D → M (Option D)} {g : List D → List D}
end
end DL


namespace DL
open PySem PySem.Spec PySem.Calls PyProof.Rows L2 RZ
/-- C(..), the instance stays in the ledger -/
def makeK (cn : Str) (sp : SpX) (ds : List D) (m : Led) (R : D → Led → Prop) (E : Str → Option (Str × D) → Led → Prop) : Prop := ∀ x dx, sp (.ref x :: ds) (m ++ [(dx, .own x), (x, .ins cn dx [] [])])
  (fun d m2 => d = .non ∧ R (.ref x) m2) fun nm fd m2 => E nm fd (m2.take m.length)
section
variable {X : CD} {o e : Expr} {es : List Expr} {ρ : Rn} {m : Led} {R : D → Led → Prop} {E : Str → Option (Str × D) → Led → Prop} {cn mt f : Str} {p pos apos : Pos} {k n : Nat} {sp : SpX}
end
section
variable {X : CD} {e o a b cc it : Expr} {es : List Expr} {rest : List Stmt} {ρ ρ' : Rn} {p p2 pos pos2 apos cpos pos' : Pos} {c ca cb ce co : M D} {cs : M (List D)} {ct : M Bool} {cn mt f x : Str} {k n i : Nat} {sp : SpX} {mg : Str → Option Value} {P : Program} {w : World} {K : Frag} {base : Heap} {σ τ : Type} {en : σ → Option Rn} {el : τ → Rn} {kk : M (Fl σ τ)} {d : D}
end
end DL


namespace DL
open PySem PySem.Spec PyProof.Rows L2 RZ
section
variable {X : CD} {sts rest A B : List Stmt} {ρ : Rn} {σ τ : Type} {en : σ → Option Rn} {el : τ → Rn} {ct : M Bool} {t : Expr} {pos : Pos}
end
end DL


namespace DL
open PySem PySem.Spec PySem.Calls PyProof.Rows L2 RZ
/-! ### x in xs, plain data -/
noncomputable def eqN (h : Heap) (d : PyData) (y : Value) : Bool := @decide (∃ d' as, Reads h y d' as ∧ d'.plain = true ∧ PyData.eqv d' d = true) (Classical.propDecidable _)
def rInP (K : Frag) (neg : Bool) : R2 := fun x y H Q => ∃ p xs d es, y = .ref p ∧ (SqL K H p xs ∨ SqT K H p xs) ∧ Dp K H x d ∧ DpAll K H xs es ∧ d.plain = true ∧ (∀ e ∈ es, e.plain = true) ∧ d.depth ≤ 60 ∧ Q (.bl (if neg then !es.any (fun e => PyData.eqv e d) else es.any fun e => PyData.eqv e d)) H
section
variable {X : CD}
end
/-- x in a list or a tuple of plain data; the list may be one of the ledger -/
def inPB (neg : Bool) (x y : D) : M Bool := fun m R _ => ∃ (x' : D) (ds : List D), DW m x x' ∧ (LstV m y ds ∨ y = .tup ds) ∧ Sh 20 x' ∧ (∀ d ∈ ds, Sh 20 d) ∧ R (if neg then !ds.any (fun d => eqD d x') else ds.any fun d => eqD d x') m
section
variable {X : CD} {a b : Expr} {ρ : Rn} {pos : Pos} {ca cb : M D} {m : Led} {x y : D}
end
end DL


namespace DL
open PySem PySem.Spec PySem.Calls PyProof.Rows L2 RZ
/-! ### xs += ys, xs a list of the ledger -/
def rExt3 : R2 := fun x y H Q => ∃ l b xs zs, x = .ref l ∧ y = .ref b ∧ H l = some (.lst xs) ∧ Rd H b (.lst zs) ∧ xs.length + zs.length ≤ sizeLine ∧ Q (.ref l) (upd H l (.lst (xs ++ zs)))
section
variable {X : Cx}
end
def extM (a b : D) : M D := fun m R _ => ∃ p n ds es, a = .ref p ∧ m[n]? = some (p, .lst ds) ∧ LstV m b es ∧ ds.length + es.length ≤ 100000 ∧ R (.ref p) (m.set n (p, .lst (ds ++ es)))
section
variable {X : CD} {rest : List Stmt} {ρ : Rn} {σ τ : Type} {en : σ → Option Rn} {el : τ → Rn} {ce : M D} {e : Expr} {pos pos' : Pos} {x : Str} {i : Nat} {kd : D → M (Fl σ τ)} {ρd : D → Rn}
end
end DL


namespace DL
open PySem PySem.Spec PySem.Calls PyProof.Rows L2 RZ
/-! ### sum of a tuple of ints -/
section
variable {prog : Program} {w : World} {A : Around} {E : Value → Shared → Prop} {s : Shared} {l : Addr} {xs : Array (Int × Tok)}
theorem sum_tupG {Q : Value → Shared → Prop} (hh : A.handled = none) (hl : s.heap.IsTuple l (intItems xs))
    (h : ∀ h' tk t', (∀ b o, s.heap.get? b = some o → h'.get? b = some o) → Q (.int (preSum (numAt xs) xs.size) t') { s with heap := h', toks := tk }) :
    wpAny (model prog w) A (call (.builtin "sum") [.ref l]) Q E s := by
  have hlt : l < s.heap.objs.size := by obtain ⟨_, e, _⟩ := hl; exact Heap.lt_size e
  refine call_sum_walkG (wpAny_pyIter_tuple hl ?_)
  refine ⟨_, _, _, _, _, _, numAt xs, rfl, Walks.tuple (A := A.in1) hh _ l (Nat.ne_of_lt hlt) (intItems xs), ⟨⟨_, Heap.get?_push_size _ rfl, rfl, rfl⟩, hl.push _⟩, (fun b hb => ?_), (fun _ _ => intItems_at), fun h' tk t' hk => ?_⟩
  · show b < (s.heap.push _).objs.size
    rw [Heap.size_push]
    rcases List.mem_cons.mp hb with rfl | hb
    · exact Nat.lt_succ_self _
    · rw [List.mem_singleton.mp hb]; exact Nat.lt_succ_of_lt hlt
  · have := h h' tk t' fun b o e => hk b o (by simp; exact Nat.ne_of_lt (Heap.lt_size e)) (Heap.get?_push_of_some _ e)
    simpa [intItems] using this
theorem sum_rawT {its : List Value} {ns : List Int} {Q : Value → Shared → Prop} (hh : A.handled = none) (hl : s.heap.IsTuple l its.toArray) (hi : IntsAre its ns)
    (h : ∀ h' tk t', (∀ b o, s.heap.get? b = some o → h'.get? b = some o) → Q (.int ns.sum t') { s with heap := h', toks := tk }) : wpAny (model prog w) A (call (.builtin "sum") [.ref l]) Q E s := by
  obtain ⟨xs, e⟩ := hi.allInts.items
  have hn : numsOf (intItems xs).toList = ns := by rw [← e]; exact hi.numsOf
  rw [nums_intItems] at hn
  rw [e] at hl
  refine sum_tupG hh hl fun h' tk t' hk => ?_
  have := h h' tk t' hk
  rw [preSum_eq, List.take_of_length_le (by simp), hn]; exact this
end
def rSumT (K : Frag) : List V → Hp → VK → Prop := fun vs H Q => ∃ (a : Addr) (ns : List Int), vs = [V.ref a] ∧ SqT K H a (ns.map V.int) ∧ Q (.int ns.sum) H
section
variable {X : CD} {m : Led} {R : D → Led → Prop} {E : XR}
theorem cr_sumT (hc : X.calm = true) : CallR X.toCx (.builtin "sum") (rSumT X.K) := by
  intro pins s σ H vs us Q I r h
  obtain ⟨a, ns, rfl, hs, q⟩ := h
  obtain ⟨its, rv, hl, _⟩ := I.tuple hs
  rw [Vals.ref1 r]
  exact sum_rawT (I.ok.hd hc) hl rv.ints fun h' tk t' hk => ⟨.int _, H, I.kept hk, ⟨_, rfl⟩, q⟩
theorem b_sumT {ns : List Int} (k : R (.int ns.sum) m) (hc : X.calm = true := by rfl) : BX X (.builtin "sum") [.tup (ns.map D.int)] m R := BX.of (cr_sumT hc) fun F H xs qs at_ => by
  obtain ⟨v, rfl, q⟩ := qs.one
  obtain ⟨p, ys, rfl, e1, s1⟩ := tup_read at_.toAt q
  exact ⟨p, ns, rfl, by rw [← s1.ints]; exact e1, PQ.now at_.toAt (.int _) k⟩
def sumQ (ds : List D) : M D := fun m R E => (∃ ns : List Int, ds = [.tup (ns.map D.int)] ∧ R (.int ns.sum) m) ∨ sumM ds m R E
theorem sumQ_ok (hc : X.calm = true := by rfl) (ds : List D) (m R E) (h : sumQ ds m R E) : BX X (.builtin "sum") ds m R := by
  rcases h with ⟨ns, rfl, k⟩ | h
  · exact b_sumT k hc
  · exact sumM_ok hc ds m R E h
theorem sumQ_t {ns : List Int} (h : R (.int ns.sum) m) : sumQ [.tup (ns.map D.int)] m R E := .inl ⟨ns, rfl, h⟩
end
end DL


namespace DL
open PySem PySem.Spec PySem.Calls PyProof.Rows L2 RZ

/-! ### {k: v for y, z in it if ..} -/
def CompDP (X : CD) (scope : Scope) (ifs : List Expr) (kx vx : Expr) (y : Str) (j : Nat) (z : Str) (k : Nat) (ρ : Rn) (R : List (List Int) → List D → Led → Prop) (ds : List D) (m1 : Led) : Prop := ∃ I : Nat → List (List Int) → List D → Led → Prop, I 0 [] [] m1 ∧
  (∀ i d ks vs m', ds[i]? = some d → I i ks vs m' → ∃ d1 d2 ρ1 ρ2, d = .tup [d1, d2] ∧ SetAt ρ j y d1 ρ1 ∧ SetAt ρ1 k z d2 ρ2 ∧ ∀ (s : Shared) (H0 : Hp) (C : Addr) (cl : List (Str × Addr)) (fp : List Addr),
    match ifs with
    | [] => EX (X.blk s H0 scope (compEnvC scope cl C X.env) fp) kx ρ2 m' fun kd m2 => ∀ (s : Shared) (H0 : Hp) (C : Addr) (cl : List (Str × Addr)) (fp : List Addr), EX (X.blk s H0 scope (compEnvC scope cl C X.env) fp) vx ρ2 m2 fun v m3 => PutD ks vs kd v fun ks vs => I (i + 1) ks vs m3
    | [c] => TX (X.blk s H0 scope (compEnvC scope cl C X.env) fp) c ρ2 m' fun b m1 => (b = true → ∀ (s : Shared) (H0 : Hp) (C : Addr) (cl : List (Str × Addr)) (fp : List Addr), EX (X.blk s H0 scope (compEnvC scope cl C X.env) fp) kx ρ2 m1 fun kd m2 => ∀ (s : Shared) (H0 : Hp) (C : Addr) (cl : List (Str × Addr)) (fp : List Addr), EX (X.blk s H0 scope (compEnvC scope cl C X.env) fp) vx ρ2 m2 fun v m3 => PutD ks vs kd v fun ks vs => I (i + 1) ks vs m3) ∧ (b = false → I (i + 1) ks vs m1)
    | _ => False) ∧ ∀ ks vs m', I ds.length ks vs m' → R ks vs m'
section
variable {X : CD} {kx vx it t : Expr} {scope : Scope} {ρ : Rn} {m : Led} {R : D → Led → Prop} {pos p0 p1 p2 : Pos} {y z : Str} {j k n0 : Nat} {ifs : List Expr} {f : D → M (Option (D × D))} {ci : M (List D)} {ck cv : D → D → M D} {ct : D → D → M Bool} {ρ3 : D → D → Rn}
def un2P (d : D) (f : D → D → M (Option (D × D))) : M (Option (D × D)) := fun m R E => ∃ a b, d = .tup [a, b] ∧ f a b m R E
structure CvDP (X : CD) (scope : Scope) (ifs : List Expr) (kx vx : Expr) (y : Str) (j : Nat) (z : Str) (k : Nat) (ρ : Rn) (f : D → M (Option (D × D))) : Prop where
  run : ∀ (d : D) (m : Led) (R : Option (D × D) → Led → Prop), f d m R NoX → ∃ d1 d2 ρ1 ρ2, d = .tup [d1, d2] ∧ SetAt ρ j y d1 ρ1 ∧ SetAt ρ1 k z d2 ρ2 ∧ ∀ (s : Shared) (H0 : Hp) (C : Addr) (cl : List (Str × Addr)) (fp : List Addr),
    match ifs with
    | [] => EX (X.blk s H0 scope (compEnvC scope cl C X.env) fp) kx ρ2 m fun kd m2 => ∀ (s : Shared) (H0 : Hp) (C : Addr) (cl : List (Str × Addr)) (fp : List Addr), EX (X.blk s H0 scope (compEnvC scope cl C X.env) fp) vx ρ2 m2 fun v m3 => R (some (kd, v)) m3
    | [c] => TX (X.blk s H0 scope (compEnvC scope cl C X.env) fp) c ρ2 m fun b m1 => (b = true → ∀ (s : Shared) (H0 : Hp) (C : Addr) (cl : List (Str × Addr)) (fp : List Addr), EX (X.blk s H0 scope (compEnvC scope cl C X.env) fp) kx ρ2 m1 fun kd m2 => ∀ (s : Shared) (H0 : Hp) (C : Addr) (cl : List (Str × Addr)) (fp : List Addr), EX (X.blk s H0 scope (compEnvC scope cl C X.env) fp) vx ρ2 m2 fun v m3 => R (some (kd, v)) m3) ∧ (b = false → R none m1)
    | _ => False
theorem CvDP.I (hc : CvDP X scope ifs kx vx y j z k ρ f) {ds : List D} {m : Led} {R : List (List Int) × List D → Led → Prop} {E : XR} (h : dcM f ds [] [] m R E) : CompDP X scope ifs kx vx y j z k ρ (fun ks vs m' => R (ks, vs) m') ds m := by
  refine ⟨fun i ks vs m' => dcM f (ds.drop i) ks vs m' R E, h, fun i d ks vs m' hd hI => ?_, fun ks vs m' hI => ?_⟩
  · dsimp only at hI
    rw [drop_at hd] at hI
    obtain ⟨d1, d2, ρ1, ρ2, e, h1, h1', h2⟩ := hc.run d m' _ hI
    refine ⟨d1, d2, ρ1, ρ2, e, h1, h1', fun s H0 C cl fp => ?_⟩
    have h5 := h2 s H0 C cl fp
    rcases ifs with _ | ⟨c, _ | ⟨_, _⟩⟩ <;> exact h5
  · dsimp only at hI
    rw [List.drop_length] at hI
    exact hI
end
end DL


namespace DL
open PySem PySem.Spec PySem.Calls PyProof.Rows L2 RZ
/-! ### x in xs, as a value -/
def inSM (neg : Bool) (x y : D) : M D := bnd (inSB neg x y) blM
section
variable {X : CD} {a b : Expr} {ρ : Rn} {pos : Pos} {ca cb : M D}
end
end DL


namespace DL
open PySem PySem.Spec PySem.Calls PyProof.Rows L2 RZ

/-! ### displays of dicts with several keys, tuples of ints -/
section
variable {X : CD} {ρ : Rn} {m : Led} {pos : Pos}
def KVs (K : Frag) (F : Hp) : List (Value × Value) → List (List Int × D) → Prop
  | [], [] => True
  | (a, b) :: vs, (k, d) :: kvs => (∃ y, RelV y a ∧ Den K F y (keyD k)) ∧ (∃ z, RelV z b ∧ Den K F z d) ∧ KVs K F vs kvs
  | _, _ => False
theorem KVs.mono {K : Frag} {F F' : Hp} (e : Ex F F') : ∀ {vs : List (Value × Value)} {kvs : List (List Int × D)}, KVs K F vs kvs → KVs K F' vs kvs
  | [], [], _ => trivial
  | (_, _) :: _, (_, _) :: _, ⟨⟨y, h1, h2⟩, ⟨z, h3, h4⟩, h5⟩ => ⟨⟨y, h1, h2.mono e⟩, ⟨z, h3, h4.mono e⟩, KVs.mono e h5⟩
  | [], _ :: _, h => h.elim
  | _ :: _, [], h => h.elim
def keyK {α : Type} (d : D) (k : List Int → M α) : M α := fun m R E => ∃ kk, d = keyD kk ∧ k kk m R E
def prsM : List (M D × M D) → M (List (List Int × D))
  | [] => ret []
  | (ck, cv) :: r => bnd ck fun d => bnd cv fun v => keyK d fun k => bnd (prsM r) fun t => ret ((k, v) :: t)
def putNM (d : D) (kvs : List (List Int × D)) : M D := fun m R _ => match d with
  | .ref p => ∃ n, m[n]? = some (p, .dI [] []) ∧ (kvs.map (·.1)).Nodup ∧ R (.ref p) (m.set n (p, .dI (kvs.map (·.1)) (kvs.map (·.2))))
  | _ => False
inductive EvP (X : CD) (ρ : Rn) : List (Expr × Expr) → List (M D × M D) → Prop
  | nil : EvP X ρ [] []
  | cons {kx vx : Expr} {ck cv : M D} {ps : List (Expr × Expr)} {cs : List (M D × M D)} : Ev X kx ρ ck → Ev X vx ρ cv → EvP X ρ ps cs → EvP X ρ ((kx, vx) :: ps) ((ck, cv) :: cs)
theorem EvP.len {ps : List (Expr × Expr)} {cs : List (M D × M D)} (h : EvP X ρ ps cs) : ps.length = cs.length := by
  induction h with
  | nil => rfl
  | cons _ _ _ ih => simp [ih]
theorem KVs.len {K : Frag} {F : Hp} : ∀ {vs : List (Value × Value)} {kvs : List (List Int × D)}, KVs K F vs kvs → kvs.length = vs.length
  | [], [], _ => rfl
  | (_, _) :: _, (_, _) :: _, ⟨_, _, h5⟩ => by simp [KVs.len h5]
  | [], _ :: _, h => h.elim
  | _ :: _, [], h => h.elim
end
end DL


namespace DL
open PySem PySem.Spec PySem.Calls PyProof.Rows L2 RZ

/-! ### sorted(d): the keys of a dict, tuples of ints -/
section
variable {X : CD} {m : Led} {R : D → Led → Prop} {d : D} {ks : List (List Int)} {ds : List D} {b : Bool}
def sortH (b : Bool) (zs : List D) : M D := fun m R E => match zs with
  | [d] => ∃ (ks : List (List Int)) (ds : List D), DicV m d ks ds ∧ SrtOk ks ∧ ∀ ks' : List (List Int), ks'.Perm ks → ks'.Pairwise (fun a c => lexI c a = false) → RNewL R m (ks'.map keyD) b
  | _ => False
end
end DL


namespace DL
open PySem PySem.Spec PySem.Calls PyProof.Rows L2 RZ

/-! ### calls whose arguments are read as frozen: the whole ledger stays as it is -/
mutual
inductive Thw (m : Led) : D → D → Prop
  | same (d : D) : Thw m d d
  | lst {n : Nat} {a : Addr} {es es' : List D} : m[n]? = some (a, .lst es) → Thws m es es' → Thw m (.ref a) (.lst es')
  | dI {n : Nat} {a : Addr} {ks : List (List Int)} {es es' : List D} : m[n]? = some (a, .dI ks es) → Thws m es es' → Thw m (.ref a) (.dI ks es')
  | tup {es es' : List D} : Thws m es es' → Thw m (.tup es) (.tup es')
  | lstF {es es' : List D} : Thws m es es' → Thw m (.lst es) (.lst es')
inductive Thws (m : Led) : List D → List D → Prop
  | nil : Thws m [] []
  | cons {d d' : D} {es es' : List D} : Thw m d d' → Thws m es es' → Thws m (d :: es) (d' :: es')
end
theorem Thws.same (m : Led) : ∀ ds : List D, Thws m ds ds
  | [] => .nil
  | d :: ds => .cons (.same d) (Thws.same m ds)
inductive Apt (m : Led) : D → Prop
  | atom {d : D} (h : noL d = true) : Apt m d
  | tup {xs : List D} (h : ∀ x ∈ xs, Apt m x) : Apt m (.tup xs)
  | dI {ks : List (List Int)} {vs : List D} (hm : ∀ q ∈ m, ∃ es, q.2 = MO.lst es) (h : ∀ x ∈ vs, Apt m x) : Apt m (.dI ks vs)
  | lst {xs : List D} (hm : ∀ q ∈ m, ∀ es, q.2 = MO.lst es → es.length ≠ xs.length) (h : ∀ x ∈ xs, Apt m x) : Apt m (.lst xs)
section
variable {K : Frag} {F H : Hp} {m : Led}
theorem frzA_key (a : At K F m H) {n : Nat} {p : Addr} {o : MO} (h : m[n]? = some (p, o)) : frzA F m H p = H p := by
  unfold frzA
  rw [if_pos (List.mem_map.mpr ⟨_, List.mem_of_getElem? h, rfl⟩)]
mutual
theorem Thw.den (a : At K F m H) : ∀ {d d' : D}, Thw m d d' → ∀ {v : V}, Den K F v d → Den K (frzA F m H) v d'
  | _, _, .same d, v, q => q.mono (Step.frzA a).ex
  | _, _, .lst hm ht, v, q => by
    cases q
    obtain ⟨hh, ⟨xs, rfl, hx⟩, e⟩ := a.get hm
    exact .lst (.inl (by rw [frzA_key a hm]; exact e)) (Thws.den a ht hx)
  | _, _, .dI hm ht, v, q => by
    cases q
    obtain ⟨hh, ⟨o, xs, vs, rfl, h1, h2, h3, h4, h5⟩, e⟩ := a.get hm
    exact .dI (by rw [frzA_key a hm]; exact e) h1 h2 (fun x hx => (Step.frzA a).ex.sqT (h3 x hx)) h4 (Thws.den a ht h5)
  | _, _, .tup ht, v, q => by
    cases q with
    | tup h hs => exact .tup ((Step.frzA a).ex.sqT h) (Thws.den a ht hs)
  | _, _, .lstF ht, v, q => by
    cases q with
    | lst h hs => exact .lst ((Step.frzA a).ex.rd h) (Thws.den a ht hs)
theorem Thws.den (a : At K F m H) : ∀ {ds ds' : List D}, Thws m ds ds' → ∀ {vs : List V}, Dens K F vs ds → Dens K (frzA F m H) vs ds'
  | _, _, .nil, _, .nil => .nil
  | _, _, .cons h hs, _, .cons q qs => .cons (Thw.den a h q) (Thws.den a hs qs)
end
theorem dens_of {F F' : Hp} : ∀ {xs : List D} {vs : List V}, (∀ x ∈ xs, ∀ v, Den K F v x → Den K F' v x) → Dens K F vs xs → Dens K F' vs xs
  | [], _, _, .nil => .nil
  | x :: xs, _, h, .cons q qs => .cons (h x List.mem_cons_self _ q) (dens_of (fun y hy => h y (List.mem_cons_of_mem _ hy)) qs)
/-- what stands at the place of a cell of the ledger -/
theorem cell_at {F2 : Hp} (a : At K F m H) (ex : Ex (frzA F m H) F2) {b : Addr} (hb : b ∈ keys m) : ∃ o h, (b, o) ∈ m ∧ MDen K F b o h ∧ F2 b = some h := by
  obtain ⟨q, hq, rfl⟩ := List.mem_map.mp hb
  obtain ⟨h, h1, h2⟩ := a.led q hq
  refine ⟨q.2, h, hq, h1, ex _ _ ?_⟩
  unfold frzA
  rw [if_pos hb]
  exact h2
theorem cutA_rd {F2 : Hp} (a : At K F m H) (ex : Ex (frzA F m H) F2) {b : Addr} {zs : List V} (hl : ∀ q ∈ m, ∀ es, q.2 = MO.lst es → es.length ≠ zs.length) (h : Rd F2 b (.lst zs)) : Rd (DL.cutA F2 m) b (.lst zs) := by
  have nk : b ∉ keys m := fun hb => by
    obtain ⟨o, hh, ho, hd, e⟩ := cell_at a ex hb
    rcases h with h | ⟨o2, h⟩
    · rw [h] at e
      cases e
      cases o with
      | lst es =>
        obtain ⟨xs, q, hs⟩ := hd
        cases q
        exact hl _ ho es rfl hs.length.symm
      | ins nm dx ns ds => obtain ⟨C, fs, q, _⟩ := hd; cases q
      | own x => have q : HO.lst zs = HO.own x := hd; cases q
      | dI ks ds =>
        obtain ⟨o3, xs, vs, q, _⟩ := hd
        unfold objO at q
        cases q
      | dK ks ds => obtain ⟨kvs, q, _⟩ := hd; cases q
    · have := hd.ntp
      rw [h] at e
      cases e
      cases this
  have hc : DL.cutA F2 m b = F2 b := by unfold DL.cutA; rw [if_neg nk]
  rcases h with h | ⟨o2, h⟩
  · exact .inl (by rw [hc]; exact h)
  · exact .inr ⟨o2, by rw [hc]; exact h⟩
theorem cutA_obj {F2 : Hp} (a : At K F m H) (ex : Ex (frzA F m H) F2) {b : Addr} {o : Obj} (hl : ∀ q ∈ m, ∃ es, q.2 = MO.lst es) (h : F2 b = some (objO b o)) : DL.cutA F2 m b = some (objO b o) := by
  have nk : b ∉ keys m := fun hb => by
    obtain ⟨o1, hh, ho, hd, e⟩ := cell_at a ex hb
    obtain ⟨es, he⟩ := hl _ ho
    have he : o1 = .lst es := he
    subst he
    obtain ⟨xs, q, hs⟩ := hd
    rw [h] at e
    cases e
    unfold objO at q
    cases q
  unfold DL.cutA
  rw [if_neg nk]
  exact h
theorem Apt.den {F2 : Hp} (a : At K F m H) (ex : Ex (frzA F m H) F2) (nt : Nt F2 (DL.cutA F2 m)) {d : D} (h : Apt m d) : ∀ v, Den K F2 v d → Den K (DL.cutA F2 m) v d := by
  induction h with
  | atom h => exact fun v q => q.nt nt h
  | tup h ih =>
    intro v q
    cases q with
    | tup h1 hs => exact .tup (nt.sqT h1) (dens_of ih hs)
  | dI hm h ih =>
    intro v q
    cases q with
    | dI h1 h2 h3 h4 h5 hs => exact .dI (cutA_obj a ex hm h1) h2 h3 (fun x hx => nt.sqT (h4 x hx)) h5 (dens_of ih hs)
  | lst hm h ih =>
    intro v q
    cases q with
    | lst h1 hs => exact .lst (cutA_rd a ex (by rw [hs.length]; exact hm) h1) (dens_of ih hs)
end
def thwS (sp : SpX) : SpX := fun ds m R _ => ∃ ds', Thws m ds ds' ∧ sp ds' [] (fun r m2 => m2 = [] ∧ Apt m r ∧ R r m) fun _ _ _ => False
theorem FnOk.imp {P : Program} {w : World} {K : Frag} {mg : Str → Option Value} {base : Heap} {CX : CXT} {k : Nat} {f : Addr} {fd : FuncData} {ps : List Str} {sp sp' : Sp} (h : FnOk P w K mg base CX k f fd ps sp) (i : ∀ vs H Q E, sp' vs H Q E → sp vs H Q E) : FnOk P w K mg base CX k f fd ps sp' :=
  ⟨fun vs H Q E z => h.len vs H Q E (i vs H Q E z), fun A outer s H args us vs Q E hr e0 hb r z => h.run A outer s H args us vs Q E hr e0 hb r (i vs H Q E z)⟩
section
variable {P : Program} {w : World} {K : Frag} {mg : Str → Option Value} {base : Heap} {k : Nat} {x : Str} {n : Nat} {dd : List D} {ks : List Str} {sp : SpX}
end
end DL


namespace DL
open PySem PySem.Spec PySem.Calls PyProof.Rows L2 RZ

/-! ### list(range(a, b)) -/
section
variable {X : CD} {a b : Expr} {ρ : Rn} {m : Led} {p p2 pos pos2 : Pos} {mg : Str → Option Value} {ca cb : M D}
def lrgG2 (bb : Bool) (x y : D) : M D := fun m R _ => match x, y with
  | .int i, .int j => (-100000 ≤ i ∧ i ≤ 100000 ∧ -100000 ≤ j ∧ j ≤ 100000) ∧ RNewL R m (rangeD i (j - i).toNat) bb
  | _, _ => False
end
end DL


namespace DL
open PySem PySem.Spec PySem.Calls PyProof.Rows L2 RZ

/-! ### [elt for y in a list of the ledger if c]: frozen, or in the ledger itself -/
section
variable {X : CD} {elt it : Expr} {ifs : List Expr} {scope : Scope} {ρ : Rn} {m : Led} {R : D → Led → Prop} {pos py : Pos} {y : Str} {j : Nat}
def CompIL2 (X : CD) (scope : Scope) (ifs : List Expr) (elt : Expr) (y : Str) (j : Nat) (ρ : Rn) (R : List D → Led → Prop) (a : Addr) (ds0 ds : List D) (m1 : Led) : Prop := ∃ I : Nat → List D → Led → Prop, I 0 [] m1 ∧ (∀ i acc m', I i acc m' → Hold a ds0 m') ∧
  (∀ i d acc m', ds[i]? = some d → I i acc m' → ∃ ρ2, SetAt ρ j y d ρ2 ∧ ∀ (s : Shared) (H0 : Hp) (C : Addr) (cl : List (Str × Addr)) (fp : List Addr),
    match ifs with
    | [] => EX (X.blk s H0 scope (compEnvC scope cl C X.env) fp) elt ρ2 m' fun z m3 => acc.length < 100000 ∧ I (i + 1) (acc ++ [z]) m3
    | [c] => TX (X.blk s H0 scope (compEnvC scope cl C X.env) fp) c ρ2 m' fun k m2 => (k = true → ∀ (s : Shared) (H0 : Hp) (C : Addr) (cl : List (Str × Addr)) (fp : List Addr), EX (X.blk s H0 scope (compEnvC scope cl C X.env) fp) elt ρ2 m2 fun z m3 => acc.length < 100000 ∧ I (i + 1) (acc ++ [z]) m3) ∧ (k = false → I (i + 1) acc m2)
    | _ => False) ∧ ∀ acc m', I ds.length acc m' → R acc m'
end
section
variable {X : CD} {elt it : Expr} {ifs : List Expr} {scope : Scope} {ρ : Rn} {pos py : Pos} {y : Str} {j : Nat} {ca : M D} {f : D → M (Option D)} {g : List D → List D}
theorem IXL.mono {tg it : Expr} {m : Led} {R R' : Addr → List D → List D → Led → Prop} (h : IXL X tg it ρ m R) (q : ∀ a ds0 ds m1, R a ds0 ds m1 → R' a ds0 ds m1) : IXL X tg it ρ m R' :=
  ⟨fun F σ H en at_ => (h.run F σ H en at_).mono fun J H1 ⟨a, ds0, ds, F1, m1, st, r, w⟩ => ⟨a, ds0, ds, F1, m1, st, q _ _ _ _ r, w⟩⟩
theorem CompIL2.mono {R R' : List D → Led → Prop} {a : Addr} {ds0 ds : List D} {m1 : Led} (h : CompIL2 X scope ifs elt y j ρ R a ds0 ds m1) (q : ∀ acc m', R acc m' → R' acc m') : CompIL2 X scope ifs elt y j ρ R' a ds0 ds m1 := by
  obtain ⟨I, h1, h2, h3, h4⟩ := h
  exact ⟨I, h1, h2, h3, fun acc m' z => q _ _ (h4 acc m' z)⟩
variable {rest : List Stmt} {σ τ : Type} {en : σ → Option Rn} {el : τ → Rn} {ρd : D → Rn} {kd : D → M (Fl σ τ)} {x : Str} {i : Nat} {px spos : Pos}
end
/-! ### an expression or a test with one list of the ledger read as frozen -/
def stillA (d : D) (c : D → M D) : M D := fun m R _ => match d with
  | .ref a => ∃ (n : Nat) (ds ds' : List D), m[n]? = some (a, .lst ds) ∧ Thws m ds ds' ∧ c (.lst ds') [] (fun r m2 => m2 = [] ∧ Apt m r ∧ R r m) fun _ _ _ => False
  | d => c d m R fun _ _ _ => False
def stillT (d : D) (c : D → M Bool) : M Bool := fun m R _ => match d with
  | .ref a => ∃ (n : Nat) (ds ds' : List D), m[n]? = some (a, .lst ds) ∧ Thws m ds ds' ∧ c (.lst ds') [] (fun r m2 => m2 = [] ∧ R r m) fun _ _ _ => False
  | d => c d m R fun _ _ _ => False
section
variable {X : CD} {e : Expr} {ρ ρ' : Rn} {m : Led} {x : Str} {i n : Nat} {p : Addr} {ds ds' : List D} {d : D}
end
/-! ### cells of the ledger that are not needed any more: forgotten -/
def subS (sp : SpX) : SpX := fun ds m R E => sp ds m (fun d m2 => ∃ m3, m3.Sublist m2 ∧ R d m3) E
theorem At.sub2 {K : Frag} {F H : Hp} {m m3 : Led} (h : m3.Sublist m) (a : At K F m H) : At K F m3 H := ⟨a.sub, fun p hp => a.led p (h.subset hp), fun p hp => a.dis p (h.subset hp), (h.map (·.1)).nodup a.nod⟩
theorem Step.sub2 {K : Frag} {F F2 H H2 : Hp} {m m2 m3 : Led} (h : m3.Sublist m2) (s : Step K F m H F2 m2 H2) : Step K F m H F2 m3 H2 := ⟨s.at2.sub2 h, s.ex, s.keep, s.frF, fun x hx => s.frM x ((h.map (·.1)).subset hx)⟩
theorem liftX_sub {K : Frag} {mg : Str → Option Value} {sp : SpX} {vs : List V} {H : Hp} {Q : VK} {E : XK} (h : liftX K mg (subS sp) vs H Q E) : liftX K mg sp vs H Q E := by
  obtain ⟨F, m, ds, R, XR, hd, at_, hs, k1, k2⟩ := h
  exact ⟨F, m, ds, _, XR, hd, at_, hs, fun d m2 v F2 H2 ⟨m3, h3, r⟩ st q => k1 d m3 v F2 H2 r (st.sub2 h3) q, k2⟩
section
variable {P : Program} {w : World} {K : Frag} {mg : Str → Option Value} {base : Heap} {k : Nat} {x : Str} {n : Nat} {dd : List D} {ks : List Str} {sp : SpX}
theorem KnowsX.sub (G : KnowsX P w K mg base k x n dd sp) : KnowsX P w K mg base k x n dd (subS sp) := by
  obtain ⟨f, fd, ps, ds, dvs, FO, r⟩ := G.fn
  exact ⟨f, fd, ps, ds, dvs, FO.imp fun vs H Q E z => liftX_sub z, r⟩
theorem KnowsN.sub (G : KnowsN P w K mg base k x n ks sp) : KnowsN P w K mg base k x n ks (subS sp) := by
  obtain ⟨f, fd, ps, FO, r⟩ := G.fn
  exact ⟨f, fd, ps, FO.imp fun vs H Q E z => liftX_sub z, r⟩
end
end DL


namespace DL
open PySem PySem.Spec PySem.Calls PyProof.Rows L2 RZ
/-! ### zip(zip(*rows), costs): a zip over a zip and a list or tuple -/
section
variable {prog : Program} {w : World} {A : Around} {E : Value → Shared → Prop} {s : Shared}
end
structure Z2At (h : Heap) (b c : Nat) (rs : List (Bool × Addr)) (k : Bool) (l i : Nat) (g0 g1 f0 f1 : Value) : Prop where
  le : b + rs.length + 3 ≤ c
  inn : ZAt h b rs i g0 g1
  it : ItAt h k c l i
  ti : h.get? (c + 1) = some (TObj [.ref (b + rs.length + 2), .ref c])
  to : ∃ kept : List Value, kept.length = 2 ∧ h.get? (c + 2) = some (TObj kept)
  z : h.get? (c + 3) = some (ZObj f0 f1 (c + 1) (c + 2))
def Out2 (b c n a : Nat) : Prop := (a < b ∨ b + n + 3 ≤ a) ∧ (a < c ∨ c + 4 ≤ a)
theorem ZAt.but {h h' : Heap} {b x : Nat} {rs : List (Bool × Addr)} {i : Nat} {f0 f1 : Value} (Z : ZAt h b rs i f0 f1) (sb : Heap.SameBut x h h') (hx : b + rs.length + 3 ≤ x) : ZAt h' b rs i f0 f1 :=
  Z.keep fun c hc o e => by
    have hc' : b ≤ c ∧ c < b + (rs.length + 3) := mem_fp.mp hc
    have n1 : ¬ @Eq Nat c x := by omega
    exact (sb.2 _ (ne_of n1)).trans e
section
variable {prog : Program} {w : World} {A : Around} {E : Value → Shared → Prop} {s : Shared}
/-- where the walk of the two iterators stands -/
structure Mid (hp hg : Heap) (b c : Nat) (rs : List (Bool × Addr)) (k : Bool) (l i j : Nat) (f0 f1 : Value) (xs : List Value) : Prop where
  z : hg.get? (c + 3) = some (ZObj f0 f1 (c + 1) (c + 2))
  ti : hg.get? (c + 1) = some (TObj [.ref (b + rs.length + 2), .ref c])
  inn : ∃ p0 p1, ZAt hg b rs (if 0 < j then i + 1 else i) p0 p1 ∧ F0 p0 ∧ (∃ q, p1 = .bool q)
  it : ItAt hg k c l (if 1 < j then i + 1 else i)
  sz : hg.objs.size = hp.objs.size + if 0 < j then 1 else 0
  out : ∀ a o, Out2 b c rs.length a → hp.get? a = some o → hg.get? a = some o
  new : 0 < j → hg.get? hp.objs.size = some (TObj xs)
variable {b c : Nat} {rs : List (Bool × Addr)} {k : Bool} {l i : Nat} {f0 f1 : Value} {xs items : List Value} {x : Value} {hp : Heap}
end
end DL


namespace DL
open PySem PySem.Spec PySem.Calls PyProof.Rows L2 RZ
section
variable {prog : Program} {w : World} {A : Around} {E : Value → Shared → Prop} {s : Shared} {b c : Nat} {rs : List (Bool × Addr)} {k : Bool} {l i : Nat} {f0 f1 g0 g1 : Value} {xs items : List Value} {x : Value} {hp : Heap}
end
section
variable {prog : Program} {w : World} {A : Around} {E : Value → Shared → Prop} {s : Shared}
end
end DL


namespace DL
open PySem PySem.Spec PySem.Calls PyProof.Rows L2 RZ
def fp2 (b c n : Nat) : List Addr := (List.range (n + 3)).map (fun j => b + j) ++ (List.range 4).map (fun j => c + j)
theorem mem_fp2 {b c n a : Nat} : (a ∈ fp2 b c n) ↔ ((b ≤ a ∧ a < b + (n + 3)) ∨ (c ≤ a ∧ a < c + 4)) := by
  unfold fp2
  rw [List.mem_append]
  exact or_congr mem_fp mem_fp
theorem Z2At.keep {h h' : Heap} {b c : Nat} {rs : List (Bool × Addr)} {k : Bool} {l i : Nat} {g0 g1 f0 f1 : Value} (Z : Z2At h b c rs k l i g0 g1 f0 f1) (kk : ∀ a ∈ fp2 b c rs.length, ∀ o, h.get? a = some o → h'.get? a = some o) : Z2At h' b c rs k l i g0 g1 f0 f1 := by
  obtain ⟨kept, e1, e2⟩ := Z.to
  exact ⟨Z.le, Z.inn.keep fun a ha => kk a (mem_fp2.mpr (.inl (mem_fp.mp ha))), Z.it.at fun o ho => kk _ (mem_fp2.mpr (by omega)) o ho, kk _ (mem_fp2.mpr (by omega)) _ Z.ti, ⟨kept, e1, kk _ (mem_fp2.mpr (by omega)) _ e2⟩, kk _ (mem_fp2.mpr (by omega)) _ Z.z⟩
theorem Z2At.there {h : Heap} {b c : Nat} {rs : List (Bool × Addr)} {k : Bool} {l i : Nat} {g0 g1 f0 f1 : Value} (Z : Z2At h b c rs k l i g0 g1 f0 f1) (a : Nat) (ha : a ∈ fp2 b c rs.length) : ∃ o, h.get? a = some o ∧ ∀ v, o.data ≠ .cell v := by
  rcases mem_fp2.mp ha with h1 | h1
  · exact Z.inn.there a h1
  · obtain ⟨kept, e1, e2⟩ := Z.to
    by_cases a0 : a = c
    · subst a0; exact Z.it.obj
    · by_cases a1 : a = c + 1
      · subst a1; exact ⟨_, Z.ti, fun v q => nomatch q⟩
      · by_cases a2 : a = c + 2
        · subst a2; exact ⟨_, e2, fun v q => nomatch q⟩
        · have a3 : a = c + 3 := by omega
          subst a3; exact ⟨_, Z.z, fun v q => nomatch q⟩
def IteZ2 (K : Frag) (rs : List (Bool × Addr)) (k : Bool) (l : Nat) : It :=
  ⟨fun i H => (∃ xs, Zrow K H rs i xs) ∧ ∃ ys x, SqK K H k l ys ∧ ys[i]? = some x,
   fun i H v H' => ∃ T T2 xs x, v = .ref T2 ∧ H T = none ∧ upd H T (.tup xs) T2 = none ∧ H' = upd (upd H T (.tup xs)) T2 (.tup [.ref T, x]) ∧ xs.length = rs.length ∧
     (∀ (j : Nat) (k : Bool) (l : Nat) ys, rs[j]? = some (k, l) → SqK K H k l ys → ∃ x, ys[i]? = some x ∧ xs[j]? = some x) ∧ ∀ ys, SqK K H k l ys → ys[i]? = some x,
   fun i H => ∃ k l ys, rs[0]? = some (k, l) ∧ SqK K H k l ys ∧ ys.length = i⟩
def Z2Tn (b c : Nat) (rs : List (Bool × Addr)) (k : Bool) (l i : Nat) (h : Heap) : Prop :=
  ∃ g0 g1 f0 f1, Z2At h b c rs k l i g0 g1 f0 f1 ∧ F0 g0 ∧ (∃ q, g1 = .bool q) ∧ F0 f0 ∧ (∃ q, f1 = .bool q) ∧ 0 < rs.length ∧ rs.length ≤ sizeLine ∧ (∀ (j : Nat) (k : Bool) (l : Nat), rs[j]? = some (k, l) → l < b) ∧ l < c ∧ (l < b ∨ b + rs.length + 3 ≤ l)
def iZipZ (K : Frag) (te te2 : TE) : TI := fun σ H R => te σ H fun v H1 => ∃ a rs, v = .ref a ∧ (SqT K H1 a (rs.map fun r => V.ref r.2) ∨ SqL K H1 a (rs.map fun r => V.ref r.2)) ∧ 0 < rs.length ∧ (∀ (j : Nat) (k : Bool) (l : Nat), rs[j]? = some (k, l) → ∃ ys, SqK K H1 k l ys) ∧
  te2 σ H1 fun v2 H2 => ∃ k l ys, v2 = .ref l ∧ SqK K H2 k l ys ∧ R (IteZ2 K rs k l) H2
section
variable {X : CD} {e e2 : Expr} {ρ : Rn} {m : Led} {R : List D → Led → Prop} {p p1 p2 pos pos1 : Pos} {tg : Expr}
end
/-! ### mirrors -/
def zipC (cs : List D) (d2 : D) : M (List D) := fun m R _ => ∃ bs, Seq d2 bs ∧ bs.length = cs.length ∧ R (zipD cs bs) m
section
variable {X : CD} {a b tg : Expr} {ρ : Rn} {p p1 p2 pos pos1 tpos : Pos} {mg : Str → Option Value} {ca cb : M D}
end
end DL


namespace DL
open PySem PySem.Spec PySem.Calls PyProof.Rows L2 RZ
/-! ### min of a tuple of ints -/
section
variable {prog : Program} {w : World} {A : Around} {E : Value → Shared → Prop} {s : Shared} {l : Addr}
end
section
variable {X : Cx}
def rMinT (K : PySem.W.Frag) : List V → Hp → VK → Prop := fun vs H Q => ∃ (a : Addr) (ns : List Int), vs = [V.ref a] ∧ SqT K H a (ns.map V.int) ∧ 0 < ns.length ∧ ∀ m, m ∈ ns → (∀ y, y ∈ ns → m ≤ y) → Q (.int m) H
end
section
variable {X : CD} {d : D} {m : Led} {R : D → Led → Prop}
/-- min of two ints, of a list of ints, of a tuple of ints -/
def minG (ds : List D) : M D := fun m R E => match ds with
  | [.tup xs] => ∃ ns : List Int, xs = ns.map D.int ∧ 0 < ns.length ∧ ∀ i, i ∈ ns → (∀ y ∈ ns, i ≤ y) → R (.int i) m
  | ds => minM ds m R E
end
end DL


namespace DL
open PySem PySem.Spec PySem.Calls PyProof.Rows L2 RZ
/-! ### starred and nested assign targets -/
section
variable {prog : Program} {w : World} {A : Around} {E : Value → Shared → Prop} {s : Shared}
end
def gStarL (K : PySem.W.Frag) (n i : Nat) (t : TGs) : TG := fun v σ H Q => ∃ a xs, v = .ref a ∧ SqL K H a xs ∧ n ≤ xs.length + 1 ∧ ∀ p, H p = none → t (xs.take i ++ [.ref p] ++ (xs.drop i).drop (xs.length + 1 - n)) σ (upd H p (.lst ((xs.drop i).take (xs.length + 1 - n)))) Q
section
variable {X : Cx} {pos sp : Pos}
end
section
variable {X : CD} {ρ : Rn} {m : Led} {pos sp : Pos}
end
/-! ### mirrors -/
def us3_0 {α : Type} (d : D) (k : D → D → D → M α) : M α := fun m R E => ∃ ds b c, d = .lst (ds ++ [b, c]) ∧ k (.lst ds) b c m R E
def us3_2 {α : Type} (d : D) (k : D → D → D → M α) : M α := fun m R E => ∃ a b ds, d = .lst (a :: b :: ds) ∧ k a b (.lst ds) m R E
def un14 {α : Type} (d : D) (k : D → D → D → D → D → M α) : M α := fun m R E => ∃ a1 a2 a3 a4 a5, d = .tup [a1, .tup [a2, a3, a4, a5]] ∧ k a1 a2 a3 a4 a5 m R E
section
variable {X : CD} {body : List Stmt} {ρ : Rn} {σ τ : Type} {en : σ → Option Rn} {el : τ → Rn} {p0 p1 q1 q2 q3 q4 q5 : Pos} {x1 x2 x3 x4 x5 : Str} {i1 i2 i3 i4 i5 n0 n1 : Nat} {d : D} {ρ1 : D → Rn} {ρ2 : D → D → Rn} {ρ3 : D → D → D → Rn} {ρ4 : D → D → D → D → Rn} {ρ5 : D → D → D → D → D → Rn}
end
end DL


namespace DL
open PySem PySem.Spec PySem.Calls PyProof.Rows L2 RZ

/-! ### d.items(), d.values(), walked -/
def Itxp (d : Addr) (o : Obj) (xs : List (List Int × Addr × Value)) (vs : List V) : It :=
  ⟨fun i H => H d = some (objO d o) ∧ i < xs.length, fun i H x H' => ∃ T y v, xs[i]? = some y ∧ vs[i]? = some v ∧ x = .ref T ∧ H T = none ∧ H' = upd H T (.tup [.ref y.2.1, v]), fun i H => H d = some (objO d o) ∧ xs.length ≤ i⟩
def Itxv (d : Addr) (o : Obj) (xs : List (List Int × Addr × Value)) (vs : List V) : It :=
  ⟨fun i H => H d = some (objO d o) ∧ i < xs.length, fun i H x H' => H' = H ∧ vs[i]? = some x, fun i H => H d = some (objO d o) ∧ xs.length ≤ i⟩
section
variable {P : Program} {w : World} {K : PySem.W.Frag} {tg : Expr} {d : Addr} {o : Obj} {ep : Nat} {xs : List (List Int × Addr × Value)} {vs : List V}
end
def iItemsX (td : TE) : TI := fun σ H R => td σ H fun x H1 => ∃ d o xs vs, x = .ref d ∧ H1 d = some (objO d o) ∧ DictObj d o xs ∧ Vals vs (xs.map (·.2.2)) ∧ R (Itxp d o xs vs) H1
def iValsX (td : TE) : TI := fun σ H R => td σ H fun x H1 => ∃ d o xs vs, x = .ref d ∧ H1 d = some (objO d o) ∧ DictObj d o xs ∧ Vals vs (xs.map (·.2.2)) ∧ R (Itxv d o xs vs) H1
section
variable {X : Cx} {tg e : Expr} {td : TE} {apos cpos : Pos}
end
/-- the pairs of a dict -/
def itemsD (ks : List (List Int)) (ds : List D) : List D := zipD (ks.map keyD) ds
section
variable {X : CD} {tg a : Expr} {ρ : Rn} {m : Led} {R : List D → Led → Prop} {apos cpos tpos : Pos}
def itemsM (d : D) : M (List D) := fun m R _ => ∃ ks ds, d = .dI ks ds ∧ R (itemsD ks ds) m
def valuesM (d : D) : M (List D) := fun m R _ => ∃ ks ds, d = .dI ks ds ∧ R ds m
end
end DL


namespace DL
open PySem PySem.Spec PySem.Calls PyProof.Rows L2 RZ

/-! ### list(d.values()) -/
def tListVals (te : TE) : TE := fun σ H Q => te σ H fun x H1 => ∃ d o xs vs, x = .ref d ∧ H1 d = some (objO d o) ∧ DictObj d o xs ∧ Vals vs (xs.map (·.2.2)) ∧ ∀ S, H1 S = none → Q (.ref S) (upd H1 S (.lst vs))
section
variable {X : Cx} {e : Expr} {te : TE} {apos cpos p pos : Pos}
end
section
variable {X : CD} {a : Expr} {ρ : Rn} {m : Led} {R : D → Led → Prop} {apos cpos p pos : Pos} {b : Bool}
def listV (b : Bool) (d : D) : M D := fun m R _ => ∃ ks ds, d = .dI ks ds ∧ RNewL R m ds b
end
end DL


namespace DL
open PySem PySem.Spec PySem.Calls PyProof.Rows L2 RZ

/-! ### == of equal data with dicts in it; == {} -/
def ShN : Nat → D → Prop
  | 0, d => NB 20 d
  | n + 1, d => NB 20 d ∨ (∃ ds, d = .tup ds ∧ ∀ x ∈ ds, ShN n x) ∨ (∃ ks vs, d = .dI ks vs ∧ ks.Nodup ∧ ∀ x ∈ vs, ShN n x)
section
variable {X : CD} {pins : List (Addr × Obj)} {σ : L2.St} {F H : Hp} {s : Shared} {m : Led}
end
section
variable {X : CD} {m : Led} {R : D → Led → Prop} {d1 d2 : D} {ks : List (List Int)} {vs : List D} {n : Nat}
def eqNB (ne : Bool) (a b : D) : M Bool := fun m R E => (∃ ks vs, Thw m a (.dI ks vs) ∧ Thw m b (.dI ks vs) ∧ ks.Nodup ∧ (∀ x ∈ vs, ShN 6 x) ∧ R (!ne) m) ∨
  (∃ ks vs, Thw m a (.dI ks vs) ∧ Thw m b (.dI [] []) ∧ R (if ne then !ks.isEmpty else ks.isEmpty) m) ∨ cmpB (if ne then .NotEq else .Eq) a b m R E
end
section
variable {X : CD} {a b : Expr} {ρ : Rn} {ca cb : M D} {pos : Pos}
def eqNM (ne : Bool) (a b : D) : M D := fun m R E => eqNB ne a b m (fun k m' => R (.bl k) m') E
end
end DL


namespace DL
open PySem PySem.Spec PySem.Calls PyProof.Rows L2 RZ

/-! ### x = [elt for y in a dict of the ledger]: the dict frozen for the while -/
section
variable {X : CD} {elt it : Expr} {ifs : List Expr} {scope : Scope} {ρ ρ' : Rn} {m : Led} {pos py px spos : Pos} {y x x0 : Str} {j i i0 n : Nat} {E : EndsD} {p : Addr} {ks : List (List Int)} {ds : List D}
variable {rest : List Stmt} {σ τ : Type} {en : σ → Option Rn} {el : τ → Rn} {ρu ρd : D → Rn} {kd : D → M (Fl σ τ)} {ci : D → M (List D)} {f : D → D → M (Option D)} {d0 : D}
end
end DL


namespace DL
open PySem PySem.Spec PySem.Calls PyProof.Rows L2 RZ

/-! ### == and != of equal data with lists, tuples and dicts in one another, all read as frozen -/
def ShG : Nat → D → Prop
  | 0, d => NB 20 d
  | n + 1, d => NB 20 d ∨ (∃ ds, d = .tup ds ∧ ∀ x ∈ ds, ShG n x) ∨ (∃ ds, d = .lst ds ∧ ∀ x ∈ ds, ShG n x) ∨ (∃ ks vs, d = .dI ks vs ∧ ks.Nodup ∧ ∀ x ∈ vs, ShG n x)
theorem ShG.nb {n : Nat} {d : D} (h : NB 20 d) : ShG n d := by
  cases n with
  | zero => exact h
  | succ n => exact .inl h
theorem ShG.tup {n : Nat} {ds : List D} (h : ∀ x ∈ ds, ShG n x) : ShG (n + 1) (.tup ds) := .inr (.inl ⟨_, rfl, h⟩)
theorem ShG.lst {n : Nat} {ds : List D} (h : ∀ x ∈ ds, ShG n x) : ShG (n + 1) (.lst ds) := .inr (.inr (.inl ⟨_, rfl, h⟩))
theorem ShG.dI {n : Nat} {ks : List (List Int)} {vs : List D} (nd : ks.Nodup) (h : ∀ x ∈ vs, ShG n x) : ShG (n + 1) (.dI ks vs) := .inr (.inr (.inr ⟨_, _, rfl, nd, h⟩))
section
variable {X : CD} {pins : List (Addr × Obj)} {σ : L2.St} {F H : Hp} {s : Shared} {m : Led}
/-- the two answers, with room for n steps -/
def BothG (A : Around) (s : Shared) (u v : Value) : Prop := ∀ (prog : Program) (w : World) (E : Value → Shared → Prop) (Q : Value → Shared → Prop), (Q (.bool true) s → wpAny (model prog w) A (compareOp .Eq u v) Q E s) ∧ (Q (.bool false) s → wpAny (model prog w) A (compareOp .NotEq u v) Q E s)
end
section
variable {X : CD} {m : Led} {R : D → Led → Prop} {d1 d2 d : D} {n : Nat}
def eqGB (ne : Bool) (a b : D) : M Bool := fun m R E => (∃ d, Thw m a d ∧ Thw m b d ∧ ShG 9 d ∧ R (!ne) m) ∨
  (∃ ks vs, Thw m a (.dI ks vs) ∧ Thw m b (.dI [] []) ∧ R (if ne then !ks.isEmpty else ks.isEmpty) m) ∨ cmpB (if ne then .NotEq else .Eq) a b m R E
end
section
variable {X : CD} {a b : Expr} {ρ : Rn} {ca cb : M D} {pos : Pos}
def eqGM (ne : Bool) (a b : D) : M D := fun m R E => eqGB ne a b m (fun k m' => R (.bl k) m') E
end
end DL


namespace DL
open PySem PySem.Spec PySem.Calls PyProof.Rows L2 RZ

/-! ### or, and as values, by truth -/
section
variable {X : CD} {a b : Expr} {ρ : Rn} {m : Led} {R : D → Led → Prop} {rest : List Expr} {pos : Pos} {ca cb : M D}
def orT (c : M D) (d : D) : M D := fun m R E => ∃ k, TruD m d k ∧ iteM k (ret d) c m R E
def andT (c : M D) (d : D) : M D := fun m R E => ∃ k, TruD m d k ∧ iteM k c (ret d) m R E
end
end DL


namespace DL
open PySem PySem.Spec PySem.Calls PyProof.Rows L2 RZ

/-! ### x in o (own class), as a value -/
def inOM (cn : Str) (sp : SpX) (neg : Bool) (x y : D) : M D := bnd (inOB cn sp neg x y) blM
section
variable {X : CD} {a b it tg : Expr} {ρ : Rn} {pos : Pos} {c ca cb : M D} {cn fld : Str} {k n : Nat} {sp : SpX} {mg : Str → Option Value} {P : Program} {w : World} {K : Frag} {base : Heap}
end
end DL


namespace DL
open PySem PySem.Spec PySem.Calls PyProof.Rows L2 RZ

/-! ### xs.pop() -/
theorem Dens.dropLast {K : Frag} {F : Hp} : ∀ {vs : List V} {ds : List D}, Dens K F vs ds → Dens K F vs.dropLast ds.dropLast
  | _, _, .nil => .nil
  | _, _, .cons _ .nil => .nil
  | _, _, .cons q (.cons q2 t) => .cons q (Dens.dropLast (.cons q2 t))
section
variable {X : CD} {m : Led} {R : D → Led → Prop} {E : XR} {d y v : D} {ds : List D} {a : Addr} {n : Nat}
theorem b_popL0 (hm : m[n]? = some (a, .lst ds)) (hv : ds[ds.length - 1]? = some v) (kk : R v (m.set n (a, .lst ds.dropLast))) : BX X (.builtin "list.pop") [.ref a] m R := .mk fun F σ H xs pins s us qs at_ I rs => by
  obtain ⟨w, rfl, q⟩ := qs.one
  obtain ⟨u, rfl, rx⟩ := vals1 rs
  cases q
  obtain ⟨hh, ⟨ys, rfl, hs⟩, e2⟩ := at_.toAt.get hm
  obtain ⟨z, hz, qz⟩ := hs.get hv
  exact mt_pop pins s σ H (.ref a) [] u [] _ I rx .nil ⟨a, ys, z, rfl, rfl, e2, by rw [hs.length]; exact hz, v, F, _, Step.write (o' := .lst ds.dropLast) at_.toAt hm ⟨_, rfl, hs.dropLast⟩, qz, kk⟩
def pop0M (d : D) : M D := fun m R _ => match d with
  | .ref a => ∃ (n : Nat) (ds : List D) (v : D), m[n]? = some (a, .lst ds) ∧ ds[ds.length - 1]? = some v ∧ R v (m.set n (a, .lst ds.dropLast))
  | _ => False
end
section
variable {X : CD} {o : Expr} {ρ : Rn} {co : M D} {apos cpos : Pos}
theorem ev_pop0 (ho : Ev X o ρ co) (hbase : attributeBase o "pop" X.env (eval o X.env) = eval o X.env := by rfl) (hline : (apos.endLine == cpos.line) = true := by rfl) : Ev X (.Call (.Attribute o "pop" apos) [] [] cpos) ρ (bnd co pop0M) :=
  ev_mt0 ho (fun d m R E h => by
    cases d <;> try exact h.elim
    obtain ⟨n, ds, v, hm, hv, k⟩ := h
    exact ⟨"list", "list.pop", ⟨PySem.F.plainAttrs_list, PySem.F.slot_list_pop, PySem.F.type_list_pop⟩, kd_lst (.inr ⟨n, _, rfl, hm⟩), b_popL0 hm hv k⟩) hbase hline
theorem pop0_i {m : Led} {R : D → Led → Prop} {E : XR} {a : Addr} {ds : List D} {v : D} (n : Nat) (hm : m[n]? = some (a, .lst ds)) (hv : ds[ds.length - 1]? = some v) (h : R v (m.set n (a, .lst ds.dropLast))) : pop0M (.ref a) m R E := ⟨n, ds, v, hm, hv, h⟩
end
/-! ### list(d.values()), d perhaps of the ledger -/
section
variable {X : CD} {a : Expr} {ρ : Rn} {m : Led} {R : D → Led → Prop} {apos cpos p pos : Pos} {b : Bool}
def listVW (b : Bool) (d : D) : M D := fun m R _ => ∃ ks ds, DicV m d ks ds ∧ RNewL R m ds b
end
end DL


namespace DL
open PySem PySem.Spec PySem.Calls PyProof.Rows L2 RZ

/-! ### a list of lists of the ledger that is not changed any more: the rows are frozen, and the list -/
inductive FrzR : Led → List (Addr × D) → Led → Prop
  | nil (m : Led) : FrzR m [] m
  | cons {m m' : Led} {i : Nat} {a : Addr} {ds : List D} {T : List (Addr × D)} : m[i]? = some (a, .lst ds) → FrzR (m.eraseIdx i) T m' → FrzR m ((a, .lst ds) :: T) m'
inductive TDs (T : List (Addr × D)) : List D → List D → Prop
  | nil : TDs T [] []
  | keep {d : D} {ds es : List D} : TDs T ds es → TDs T (d :: ds) (d :: es)
  | sub {a : Addr} {d : D} {ds es : List D} : (a, d) ∈ T → TDs T ds es → TDs T (.ref a :: ds) (d :: es)
section
variable {K : Frag} {F H : Hp} {m m1 : Led} {T : List (Addr × D)}
theorem FrzR.step (h : FrzR m T m1) : ∀ {F : Hp}, At K F m H → ∃ F2, Step K F m H F2 m1 H ∧ ∀ q ∈ T, Den K F2 (.ref q.1) q.2 := by
  induction h with
  | nil m => exact fun {F} a => ⟨F, Step.refl a, fun q hq => (List.not_mem_nil hq).elim⟩
  | cons hm _ ih =>
    intro F a
    obtain ⟨F2, s2, q2⟩ := Step.freeze a hm
    obtain ⟨F3, s3, q3⟩ := ih s2.at2
    refine ⟨F3, s2.trans s3, fun q hq => ?_⟩
    rcases List.mem_cons.mp hq with rfl | hq
    · exact q2.mono s3.ex
    · exact q3 q hq
theorem Dens.subT (hT : ∀ q ∈ T, Den K F (.ref q.1) q.2) {ds es : List D} (h : TDs T ds es) : ∀ {xs : List V}, Dens K F xs ds → Dens K F xs es := by
  induction h with
  | nil => exact fun q => q
  | keep _ ih =>
    intro xs q
    cases q with
    | cons q1 q2 => exact .cons q1 (ih q2)
  | sub hm _ ih =>
    intro xs q
    cases q with
    | cons q1 q2 =>
      cases q1
      exact .cons (hT _ hm) (ih q2)
theorem Step.freezeT (a : At K F m H) {n : Nat} {p : Addr} {ds es : List D} (hr : FrzR m T m1) (hm : m1[n]? = some (p, .lst ds)) (hs : TDs T ds es) : ∃ F2, Step K F m H F2 (m1.eraseIdx n) H ∧ Den K F2 (.ref p) (.lst es) := by
  obtain ⟨F2, s2, q2⟩ := hr.step a
  obtain ⟨F3, s3, q3⟩ := Step.freeze s2.at2 hm
  refine ⟨F3, s2.trans s3, ?_⟩
  cases q3 with
  | lst h hd => exact .lst h (hd.subT (fun q hq => (q2 q hq).mono s3.ex) hs)
end
def frzdM (d : D) : M D := fun m R _ => match d with
  | .ref p => ∃ (T : List (Addr × D)) (m1 : Led) (n : Nat) (ds es : List D), FrzR m T m1 ∧ m1[n]? = some (p, .lst ds) ∧ TDs T ds es ∧ R (.lst es) (m1.eraseIdx n)
  | _ => False
section
variable {X : CD} {ρ : Rn} {x : Str} {i : Nat} {rest : List Stmt} {σ τ : Type} {en : σ → Option Rn} {el : τ → Rn} {kd : D → M (Fl σ τ)} {ρd : D → Rn} {d : D}
theorem bf_frzd (hl : LookAt ρ i x d) (hset : ∀ u, SetAt ρ i x u (ρd u)) (hk : ∀ u, BF X rest (ρd u) en el (kd u)) : BF X rest ρ en el (bnd (frzdM d) kd) := ⟨fun m R E xf h => by
  cases d with
  | ref p =>
    obtain ⟨T, m1, n, ds, es, h1, h2, h3, h⟩ := h
    refine .mk fun F σ H en at_ => ?_
    obtain ⟨F2, s2, q2⟩ := Step.freezeT at_.toAt h1 h2 h3
    exact SSs.step s2 (((hk _).run _ R E xf h).run F2 σ H (look_same (en.mono s2.ex) hl (hset _) q2) (at_.to s2))
  | _ => exact h.elim⟩
end
theorem frzd_i {m m1 : Led} {R : D → Led → Prop} {E : XR} {p : Addr} {T : List (Addr × D)} {ds es : List D} (n : Nat) (h1 : FrzR m T m1) (h2 : m1[n]? = some (p, .lst ds)) (h3 : TDs T ds es) (h : R (.lst es) (m1.eraseIdx n)) : frzdM (.ref p) m R E := ⟨T, m1, n, ds, es, h1, h2, h3, h⟩
end DL


namespace DL
open PySem PySem.Spec PyProof.Rows L2 RZ
/-- a ratio as data -/
abbrev Q := Int × Int
@[reducible] def rat (q : Q) : D := .tup [.int q.1, .int q.2]
def Bd (n : Nat) (i : Int) : Prop := i.natAbs < 2 ^ n
theorem Bd.up {a b : Nat} {i : Int} (h : Bd a i) (hl : a ≤ b) : Bd b i := Nat.lt_of_lt_of_le h (Nat.pow_le_pow_right (by decide) hl)
theorem Bd.mulR {a b : Nat} {i j : Int} (h1 : Bd a i) (h2 : Bd b j) : Bd (a + b) (i * j) := wide_lt h1 h2
theorem Bd.addR {a b : Nat} {i j : Int} (h1 : Bd a i) (h2 : Bd b j) : Bd (max a b + 1) (i + j) := by
  have p1 : Bd (max a b) i := h1.up (Nat.le_max_left _ _)
  have p2 : Bd (max a b) j := h2.up (Nat.le_max_right _ _)
  unfold Bd at p1 p2 ⊢
  rw [Nat.pow_succ]
  omega
theorem Bd.lit (k : Nat) : Bd (k.log2 + 1) (OfNat.ofNat k : Int) := by
  unfold Bd
  exact Nat.lt_log2_self
theorem Bd.one : Bd 1 (1 : Int) := by unfold Bd; decide
theorem Bd.mul {a b : Nat} {i j : Int} (h1 : Bd a i) (h2 : Bd b j) (h : a + b ≤ 900000) : IntMulOk i j := by
  refine (CMulW.ok ?_)
  refine wide_mul (a := a + 1) (b := b + 1) ?_ ?_ (Nat.succ_pos _) (Nat.succ_pos _) (by omega)
  · exact Nat.lt_of_lt_of_le h1 (Nat.pow_le_pow_right (by decide) (Nat.le_succ _))
  · exact Nat.lt_of_lt_of_le h2 (Nat.pow_le_pow_right (by decide) (Nat.le_succ _))
theorem Bd.divG {a : Nat} {i j : Int} (h : Bd a j) (h0 : j ≠ 0) (ha : a ≤ 8000) : CDivG i j := by
  refine ⟨h0, ?_⟩
  have h1 : j.natAbs < 2 ^ (a + 1) := Nat.lt_of_lt_of_le h (Nat.pow_le_pow_right (by decide) (Nat.le_succ _))
  have := PySem.Flt.log2_lt_of (Nat.succ_pos _) h1
  omega
/-- a ratio whose parts are below 2 ^ n -/
def Rb (n : Nat) (q : Q) : Prop := Bd n q.1 ∧ Bd n q.2
theorem nb_int (n : Nat) (i : Int) : NB n (.int i) := by cases n <;> trivial
theorem nb_lst {α : Type} {f : α → D} {n : Nat} {xs : List α} (h : ∀ x ∈ xs, NB n (f x)) : NB (n + 1) (.lst (xs.map f)) := fun x hx => by
  obtain ⟨a, ha, rfl⟩ := List.mem_map.mp hx
  exact h a ha
theorem nb_tup {α : Type} {f : α → D} {n : Nat} {xs : List α} (h : ∀ x ∈ xs, NB n (f x)) : NB (n + 1) (.tup (xs.map f)) := fun x hx => by
  obtain ⟨a, ha, rfl⟩ := List.mem_map.mp hx
  exact h a ha
theorem nb_rat (n : Nat) (q : Q) : NB (n + 1) (rat q) := fun x hx => by
  simp only [List.mem_cons, List.not_mem_nil, or_false] at hx
  rcases hx with rfl | rfl <;> exact nb_int n _
/-- the greatest common divisor of a list -/
def gL (ns : List Int) : Nat := ns.foldl (fun g n => Nat.gcd n.natAbs g) 0
/-- lowest terms, the bottom above 0 -/
def Nf (q : Q) : Prop := 0 < q.2 ∧ Int.gcd q.1 q.2 = 1
def piece (u d : Int) : Int := if d < 0 then -(Int.gcd u d : Int) else (Int.gcd u d : Int)
def mkQ (u d : Int) : Q := (u.fdiv (piece u d), d.fdiv (piece u d))
theorem gL2 (u d : Int) : gL [u, d] = Int.gcd u d := by
  show Nat.gcd d.natAbs (Nat.gcd u.natAbs 0) = Int.gcd u d
  rw [Nat.gcd_zero_right, Nat.gcd_comm]
  rfl
theorem gcd_pos {u d : Int} (h : d ≠ 0) : 0 < Int.gcd u d := by
  rcases Nat.eq_zero_or_pos (Int.gcd u d) with e | e
  · exact absurd (Int.gcd_eq_zero_iff.mp e).2 h
  · exact e
theorem piece_ne {u d : Int} (h : d ≠ 0) : piece u d ≠ 0 := by
  have := gcd_pos (u := u) h
  unfold piece
  split <;> omega
theorem piece_bd {u d : Int} {n : Nat} (h : d ≠ 0) (hb : Bd n d) : Bd n (piece u d) := by
  have h1 : Int.gcd u d ∣ d.natAbs := Nat.gcd_dvd_right _ _
  have h2 := Nat.le_of_dvd (by omega) h1
  unfold Bd at hb ⊢
  have : (piece u d).natAbs = Int.gcd u d := by unfold piece; split <;> simp
  rw [this]
  omega
theorem mkQ_spec {u d : Int} (h : d ≠ 0) : ∃ p : Int, p = piece u d ∧ p ≠ 0 ∧ u = (mkQ u d).1 * p ∧ d = (mkQ u d).2 * p ∧ 0 < (mkQ u d).2 ∧ Int.gcd (mkQ u d).1 (mkQ u d).2 = 1 := by
  have hp := piece_ne (u := u) h
  have hg := gcd_pos (u := u) h
  have d1 : (Int.gcd u d : Int) ∣ u := Int.gcd_dvd_left ..
  have d2 : (Int.gcd u d : Int) ∣ d := Int.gcd_dvd_right ..
  have e1 : piece u d ∣ u := by unfold piece; split; exact Int.neg_dvd.mpr d1; exact d1
  have e2 : piece u d ∣ d := by unfold piece; split; exact Int.neg_dvd.mpr d2; exact d2
  have f1 : u = (mkQ u d).1 * piece u d := by
    show u = u.fdiv (piece u d) * piece u d
    rw [Int.fdiv_eq_ediv_of_dvd e1, Int.ediv_mul_cancel e1]
  have f2 : d = (mkQ u d).2 * piece u d := by
    show d = d.fdiv (piece u d) * piece u d
    rw [Int.fdiv_eq_ediv_of_dvd e2, Int.ediv_mul_cancel e2]
  refine ⟨_, rfl, hp, f1, f2, ?_, ?_⟩
  · rcases Int.lt_or_le 0 (mkQ u d).2 with q | q
    · exact q
    · exfalso
      by_cases hd : d < 0
      · have : piece u d < 0 := by unfold piece; rw [if_pos hd]; omega
        have := Int.mul_nonneg_of_nonpos_of_nonpos q (Int.le_of_lt this)
        omega
      · have : 0 < piece u d := by unfold piece; rw [if_neg hd]; omega
        have := Int.mul_nonpos_of_nonpos_of_nonneg q (Int.le_of_lt this)
        omega
  · have hn : (piece u d).natAbs = Int.gcd u d := by unfold piece; split <;> simp
    have k : Int.gcd u d = Int.gcd (mkQ u d).1 (mkQ u d).2 * (piece u d).natAbs := by
      have k0 : Int.gcd u d = Int.gcd ((mkQ u d).1 * piece u d) ((mkQ u d).2 * piece u d) := by rw [← f1, ← f2]
      rw [Int.gcd_mul_right] at k0
      exact k0
    rw [hn] at k
    have : 1 * Int.gcd u d = Int.gcd (mkQ u d).1 (mkQ u d).2 * Int.gcd u d := by rw [Nat.one_mul]; exact k
    exact (Nat.eq_of_mul_eq_mul_right hg this).symm
theorem mkQ_nf {u d : Int} (h : d ≠ 0) : Nf (mkQ u d) := by
  obtain ⟨p, _, _, _, _, h1, h2⟩ := mkQ_spec (u := u) h
  exact ⟨h1, h2⟩
theorem mkQ_cross {u d : Int} (h : d ≠ 0) : (mkQ u d).1 * d = u * (mkQ u d).2 := by
  obtain ⟨p, _, _, e1, e2, _, _⟩ := mkQ_spec (u := u) h
  generalize hq : mkQ u d = q at *
  rw [e1, e2]
  simp only [Int.mul_assoc, Int.mul_comm, Int.mul_left_comm]
theorem natAbs_le_mul {a p : Int} (hp : p ≠ 0) : a.natAbs ≤ (a * p).natAbs := by
  rw [Int.natAbs_mul]
  exact Nat.le_mul_of_pos_right _ (by omega)
theorem mkQ_bd {u d : Int} {n k : Nat} (h : d ≠ 0) (hu : Bd n u) (hd : Bd k d) : Bd n (mkQ u d).1 ∧ Bd k (mkQ u d).2 := by
  obtain ⟨p, _, hp, e1, e2, _, _⟩ := mkQ_spec (u := u) h
  constructor
  · have := natAbs_le_mul (a := (mkQ u d).1) hp
    rw [← e1] at this
    exact Nat.lt_of_le_of_lt this hu
  · have := natAbs_le_mul (a := (mkQ u d).2) hp
    rw [← e2] at this
    exact Nat.lt_of_le_of_lt this hd
theorem mkQ_rb {u d : Int} {n : Nat} (h : d ≠ 0) (hu : Bd n u) (hd : Bd n d) : Rb n (mkQ u d) := mkQ_bd h hu hd
/-- lowest terms are unique -/
theorem nf_unique {p q : Q} (hp : Nf p) (hq : Nf q) (h : p.1 * q.2 = q.1 * p.2) : p = q := by
  obtain ⟨a, b⟩ := p
  obtain ⟨c, d⟩ := q
  simp only [Nf] at hp hq h
  have h1 : d.natAbs ∣ b.natAbs := by
    have e : c.natAbs * b.natAbs = a.natAbs * d.natAbs := by rw [← Int.natAbs_mul, ← Int.natAbs_mul, h]
    have dv : d.natAbs ∣ c.natAbs * b.natAbs := by rw [e]; exact Nat.dvd_mul_left _ _
    have cop : Nat.Coprime d.natAbs c.natAbs := by rw [Nat.coprime_comm]; exact hq.2
    exact cop.dvd_of_dvd_mul_left dv
  have h2 : b.natAbs ∣ d.natAbs := by
    have e : c.natAbs * b.natAbs = a.natAbs * d.natAbs := by rw [← Int.natAbs_mul, ← Int.natAbs_mul, h]
    have dv : b.natAbs ∣ a.natAbs * d.natAbs := by rw [← e]; exact Nat.dvd_mul_left _ _
    have cop : Nat.Coprime b.natAbs a.natAbs := by rw [Nat.coprime_comm]; exact hp.2
    exact cop.dvd_of_dvd_mul_left dv
  have e : b.natAbs = d.natAbs := Nat.dvd_antisymm h2 h1
  have ebd : b = d := by omega
  subst ebd
  have : a = c := Int.eq_of_mul_eq_mul_right (by omega) h
  rw [this]
def lowL (ns : List Int) : List Int := if gL ns = 0 then ns else ns.map fun n => n.fdiv (gL ns : Nat)
def plusQ (p q : Q) : Q := mkQ (p.1 * q.2 + q.1 * p.2) (p.2 * q.2)
def minusQ (p q : Q) : Q := mkQ (p.1 * q.2 - q.1 * p.2) (p.2 * q.2)
def timesQ (p q : Q) : Q := mkQ (p.1 * q.1) (p.2 * q.2)
def cmpR (p q : Q) : Int := (if p.1 * q.2 > q.1 * p.2 then 1 else 0) - (if p.1 * q.2 < q.1 * p.2 then 1 else 0)
@[reducible] def poolO (at_ cur : Int) (ns : List Int) : MO := .lst [.int at_, .int cur, .lst (ns.map D.int)]

/-! ### rules about mirrors -/
section
variable {m : Led} {E : XR}
theorem atI_0 {α : Type} {a : α} {t : List α} : atI (a :: t) 0 = some a := atI_nat (j := 0) rfl
theorem atI_1 {α : Type} {a b : α} {t : List α} : atI (a :: b :: t) 1 = some b := atI_nat (j := 1) rfl
theorem atI_2 {α : Type} {a b c : α} {t : List α} : atI (a :: b :: c :: t) 2 = some c := atI_nat (j := 2) rfl
theorem eqD_int {i j : Int} : eqD (.int i) (.int j) = decide (i = j) := by
  simp only [eqD, py, PyData.eqv]
  by_cases h : i = j
  · subst h; simp
  · simp [h]
theorem eqB_int {i j : Int} {R : Bool → Led → Prop} : eqB (.int i) (.int j) m R E = R (decide (i = j)) m := by
  have e : eqD (.int i) (.int j) = decide (i = j) := eqD_int
  apply propext
  constructor
  · rintro (⟨a, b, h1, h2, _, _, r⟩ | ⟨ks, ds, ls, es, h1 | ⟨_, _, h1, _⟩, _⟩)
    · cases h1
      cases h2
      rw [e] at r
      exact r
    · cases h1
    · cases h1
  · intro r
    exact .inl ⟨_, _, .now _, .now _, trivial, trivial, by rw [e]; exact r⟩
theorem neB_int {i j : Int} {R : Bool → Led → Prop} : neB (.int i) (.int j) m R E = R (!decide (i = j)) m := by
  have e : eqD (.int i) (.int j) = decide (i = j) := eqD_int
  apply propext
  constructor
  · rintro (⟨a, b, h1, h2, _, _, r⟩ | ⟨ks, ds, ls, es, h1 | ⟨_, _, h1, _⟩, _⟩)
    · cases h1
      cases h2
      rw [e] at r
      exact r
    · cases h1
    · cases h1
  · intro r
    exact .inl ⟨_, _, .now _, .now _, trivial, trivial, by rw [e]; exact r⟩
/-- == of data without bools -/
theorem eqB_d {a b : D} {R : Bool → Led → Prop} (ha : NB 20 a) (hb : NB 20 b) (k : ∀ t : Bool, (t = true ↔ a = b) → R t m) : eqB a b m R E := .inl ⟨a, b, .now _, .now _, ha.sh, hb.sh, k _ (eqv_iff 20 20 _ _ ha hb)⟩
theorem truB_int {i : Int} {R : Bool → Led → Prop} : truB (.int i) m R E = R (i != 0) m := by
  apply propext
  constructor
  · rintro ⟨k, h, r⟩
    cases h
    exact r
  · exact fun r => ⟨_, rfl, r⟩
theorem truB_bl {i : Bool} {R : Bool → Led → Prop} : truB (.bl i) m R E = R i m := by
  apply propext
  constructor
  · rintro ⟨k, h, r⟩
    cases h
    exact r
  · exact fun r => ⟨_, rfl, r⟩
/-- a comprehension whose turns change nothing -/
theorem comp_map {α : Type} {f : D → M (Option D)} {e : α → D} {g : α → D} {R : List D → Led → Prop} : ∀ (xs : List α) (acc : List D), (∀ x ∈ xs, ∀ Q : Option D → Led → Prop, Q (some (g x)) m → f (e x) m Q NoX) → acc.length + xs.length ≤ 100000 → R (acc ++ xs.map g) m → compM f (xs.map e) acc m R E
  | [], acc, _, _, h => by simp at h; exact h
  | x :: xs, acc, hf, hl, h => by
    refine hf x List.mem_cons_self _ ⟨by simp at hl; omega, ?_⟩
    refine comp_map xs (acc ++ [g x]) (fun y hy => hf y (List.mem_cons_of_mem _ hy)) (by simp at hl ⊢; omega) ?_
    simpa using h
theorem comp_filter {α : Type} {f : D → M (Option D)} {e : α → D} {g : α → D} {p : α → Bool} {R : List D → Led → Prop} : ∀ (xs : List α) (acc : List D), (∀ x ∈ xs, ∀ Q : Option D → Led → Prop, (p x = true → Q (some (g x)) m) → (p x = false → Q none m) → f (e x) m Q NoX) → acc.length + xs.length ≤ 100000 → R (acc ++ (xs.filter p).map g) m → compM f (xs.map e) acc m R E
  | [], acc, _, _, h => by simp at h; exact h
  | x :: xs, acc, hf, hl, h => by
    refine hf x List.mem_cons_self _ (fun hp => ⟨by simp at hl; omega, ?_⟩) (fun hp => ?_)
    · refine comp_filter xs (acc ++ [g x]) (fun y hy => hf y (List.mem_cons_of_mem _ hy)) (by simp at hl ⊢; omega) ?_
      rw [List.filter_cons_of_pos hp] at h
      simpa using h
    · refine comp_filter xs acc (fun y hy => hf y (List.mem_cons_of_mem _ hy)) (by simp at hl ⊢; omega) ?_
      rw [List.filter_cons_of_neg (by simp [hp])] at h
      exact h
/-- a for loop by an invariant over the items that are left -/
theorem for_ind {α σ τ : Type} {f : D → σ → M (Fl σ σ)} {e : α → D} {R : Fl σ τ → Led → Prop} (I : List α → σ → Led → Prop) (hs : ∀ x xs s m, I (x :: xs) s m → ∀ Q : Fl σ σ → Led → Prop, (∀ s' m', I xs s' m' → Q (.nx s') m') → (∀ d m', R (.rt d) m' → Q (.rt d) m') → (∀ s' m', R (.nx s') m' → Q (.bk s') m') → f (e x) s m Q E) (he : ∀ s m, I [] s m → R (.nx s) m) :
    ∀ (xs : List α) (s : σ) (m : Led), I xs s m → forF f (xs.map e) s m R E
  | [], s, m, h => he s m h
  | x :: xs, s, m, h => hs x xs s m h _ (fun s' m' h' => for_ind I hs he xs s' m' h') (fun d m' h' => h') (fun s' m' h' => h')
theorem for_fold {α β σ τ : Type} {f : D → σ → M (Fl σ σ)} {e : α → D} {enc : β → σ} {step : β → α → β} {R : Fl σ τ → Led → Prop} : ∀ (xs : List α) (b : β), (∀ x ∈ xs, ∀ (b : β) (Q : Fl σ σ → Led → Prop), Q (.nx (enc (step b x))) m → f (e x) (enc b) m Q E) → R (.nx (enc (xs.foldl step b))) m → forF f (xs.map e) (enc b) m R E
  | [], b, _, h => h
  | x :: xs, b, hf, h => hf x List.mem_cons_self b _ (for_fold xs (step b x) (fun y hy => hf y (List.mem_cons_of_mem _ hy)) h)
theorem while_ind {σ τ : Type} {t : σ → M Bool} {f : σ → M (Fl σ σ)} {R : Fl σ τ → Led → Prop} (W : Nat → σ → Led → Prop) (hs : ∀ n s m, W n s m → ∀ Q : Bool → Led → Prop, (∀ m', (∀ Q : Fl σ σ → Led → Prop, (∀ s' m' n', n' < n → W n' s' m' → Q (.nx s') m') → f s m' Q E) → Q true m') → (∀ m', R (.nx s) m' → Q false m') → t s m Q E) (n : Nat) (s : σ) (m : Led) (h : W n s m) : whileF t f s m R E := by
  have key : ∀ (j n : Nat), n < j → ∀ s m, W n s m → whileN (τ := τ) t f j s m R E := by
    intro j
    induction j with
    | zero => intro n hn; exact absurd hn (Nat.not_lt_zero _)
    | succ j ih =>
      intro n hn s m hw
      refine hs n s m hw _ (fun m' hf => ⟨fun _ => ?_, fun z => (nomatch z)⟩) (fun m' hr => ⟨fun z => (nomatch z), fun _ => hr⟩)
      exact hf _ fun s' m' n' hn' hw' => ih n' (Nat.lt_of_lt_of_le hn' (Nat.le_of_lt_succ hn)) s' m' hw'
  exact ⟨n + 1, key (n + 1) n (Nat.lt_succ_self n) s m h⟩
end
end DL


namespace DL
open PySem PySem.Spec PyProof.Rows L2 RZ
/-! ### steps of a mirror, from the head -/
section
variable {α β σ σ' τ : Type} {m m' : Led} {E : XR} {RD : D → Led → Prop} {RB : Bool → Led → Prop} {RL : List D → Led → Prop} {d x y a b : D} {i j : Int} {ds es : List D}
theorem ret_i {a : α} {R : α → Led → Prop} (h : R a m) : ret a m R E := h
theorem bnd_i {c : M α} {k : α → M β} {R : β → Led → Prop} (h : c m (fun a m' => k a m' R E) E) : bnd c k m R E := h
theorem rtM_i {R : Fl σ τ → Led → Prop} (h : R (.rt d) m) : rtM d m R E := h
theorem fnM_i {c : M (Fl Unit Empty)} (h : c m (fnR m RD) fun nm fd m' => E nm fd (m'.take m.length)) : fnM c m RD E := h
theorem fnK_i {c : M (Fl Unit Empty)} (h : c m (fnRK RD) E) : fnK c m RD E := h
theorem fnR_same (h : RD d m) : fnR m RD (.rt d) m := by show RD d (m.take m.length); rw [List.take_length]; exact h
theorem fnR_len (e : m'.length = m.length) (h : RD d m') : fnR m RD (.rt d) m' := by show RD d (m'.take m.length); rw [← e, List.take_length]; exact h
theorem fnR_rt (h : RD d (m'.take m.length)) : fnR m RD (.rt d) m' := h
theorem seqF_i {c : M (Fl σ τ)} {k : σ → M (Fl σ' τ)} {R : Fl σ' τ → Led → Prop} (h : c m (fun a m' => seqK k a m' R E) E) : seqF c k m R E := h
theorem seqK_nx {s : σ} {k : σ → M (Fl σ' τ)} {R : Fl σ' τ → Led → Prop} (h : k s m R E) : seqK k (.nx s) m R E := h
theorem seqK_rt {k : σ → M (Fl σ' τ)} {R : Fl σ' τ → Led → Prop} (h : R (.rt d) m) : seqK k (.rt d) m R E := h
theorem iteM_i {k : Bool} {a b : M α} {R : α → Led → Prop} (h1 : k = true → a m R E) (h2 : k = false → b m R E) : iteM k a b m R E := ⟨h1, h2⟩
theorem iteM_ti {a b : M α} {R : α → Led → Prop} (h : a m R E) : iteM true a b m R E := ⟨fun _ => h, fun z => nomatch z⟩
theorem iteM_fi {a b : M α} {R : α → Led → Prop} (h : b m R E) : iteM false a b m R E := ⟨fun z => (nomatch z), fun _ => h⟩
theorem iteM_f' {k : Bool} {a b : M α} {R : α → Led → Prop} (e : k = false) (h : b m R E) : iteM k a b m R E := by subst e; exact iteM_fi h
/-- a test whose answer is a decision -/
theorem iteM_dec {p : Prop} {inst : Decidable p} {a b : M α} {R : α → Led → Prop} (h1 : p → a m R E) (h2 : ¬ p → b m R E) : iteM (decide p) a b m R E := ⟨fun e => h1 (of_decide_eq_true e), fun e => h2 (of_decide_eq_false e)⟩
theorem add_i (h : RD (.int (i + j)) m) : binM .Add (.int i) (.int j) m RD E := h
theorem sub_i (h : RD (.int (i - j)) m) : binM .Sub (.int i) (.int j) m RD E := h
theorem mul_i (c : IntMulOk i j) (h : RD (.int (i * j)) m) : binM .Mult (.int i) (.int j) m RD E := ⟨c, h⟩
theorem fdiv_i (c : CDivG i j) (h : RD (.int (i.fdiv j)) m) : binM .FloorDiv (.int i) (.int j) m RD E := ⟨c, h⟩
theorem mod_i (c : 0 < j) (h : RD (.int (i % j)) m) : binM .Mod (.int i) (.int j) m RD E := ⟨by omega, by rw [Int.fmod_eq_emod_of_nonneg _ (Int.le_of_lt c)]; exact h⟩
theorem pow_i (c : CPow i j) (h : RD (.int (i ^ j.toNat)) m) : binM .Pow (.int i) (.int j) m RD E := ⟨c, h⟩
theorem cat_i (c : ds.length + es.length ≤ 100000) (h : RD (.lst (ds ++ es)) m) : binM .Add (.lst ds) (.lst es) m RD E := ⟨c, h⟩
theorem neg_i (h : RD (.int (-i)) m) : unM .USub (.int i) m RD E := h
theorem eq_i (h : RB (decide (i = j)) m) : cmpB .Eq (.int i) (.int j) m RB E := by show eqB _ _ m RB E; rw [eqB_int]; exact h
theorem ne_i (h : RB (!decide (i = j)) m) : cmpB .NotEq (.int i) (.int j) m RB E := by show neB _ _ m RB E; rw [neB_int]; exact h
theorem lt_i (h : RB (decide (i < j)) m) : cmpB .Lt (.int i) (.int j) m RB E := h
theorem le_i (h : RB (decide (i ≤ j)) m) : cmpB .LtE (.int i) (.int j) m RB E := h
theorem gt_i (h : RB (decide (j < i)) m) : cmpB .Gt (.int i) (.int j) m RB E := h
theorem ge_i (h : RB (decide (j ≤ i)) m) : cmpB .GtE (.int i) (.int j) m RB E := h
theorem eq_di (ha : NB 20 a) (hb : NB 20 b) (k : ∀ t : Bool, (t = true ↔ a = b) → RB t m) : cmpB .Eq a b m RB E := eqB_d (E := E) ha hb k
theorem cmpM_i {op : CmpOp} (h : cmpB op a b m (fun k m' => RD (.bl k) m') E) : cmpM op a b m RD E := h
theorem tru_int (h : RB (i != 0) m) : truB (.int i) m RB E := by rw [truB_int]; exact h
theorem tru_bl {k : Bool} (h : RB k m) : truB (.bl k) m RB E := by rw [truB_bl]; exact h
theorem notB_i {k : Bool} (h : RB (!k) m) : notB k m RB E := h
theorem notB_t (h : RB false m) : notB true m RB E := h
theorem notB_f (h : RB true m) : notB false m RB E := h
theorem notM_t (h : RD (.bl false) m) : notM (.bl true) m RD E := ⟨true, rfl, h⟩
theorem notM_f (h : RD (.bl true) m) : notM (.bl false) m RD E := ⟨false, rfl, h⟩
theorem andB_i {k : Bool} {c : M Bool} (h1 : k = true → c m RB E) (h2 : k = false → RB false m) : andB c k m RB E := ⟨h1, h2⟩
theorem orB_i {k : Bool} {c : M Bool} (h1 : k = true → RB true m) (h2 : k = false → c m RB E) : orB c k m RB E := ⟨h1, h2⟩
theorem orB_t {c : M Bool} (h : RB true m) : orB c true m RB E := iteM_ti h
theorem orB_f {c : M Bool} (h : c m RB E) : orB c false m RB E := iteM_fi h
theorem andM_i {k : Bool} {c : M D} (h1 : k = true → c m RD E) (h2 : k = false → RD (.bl false) m) : andM c (.bl k) m RD E := ⟨k, rfl, h1, h2⟩
theorem andM_ti {c : M D} (h : c m RD E) : andM c (.bl true) m RD E := ⟨true, rfl, fun _ => h, fun z => nomatch z⟩
theorem andM_fi {c : M D} (h : RD (.bl false) m) : andM c (.bl false) m RD E := ⟨false, rfl, fun z => (nomatch z), fun _ => h⟩
theorem ixT_i {v : D} (e : atI ds i = some v) (h : RD v m) : ixM (.tup ds) (.int i) m RD E := ⟨v, e, h⟩
theorem ixL_i {v : D} (e : atI ds i = some v) (h : RD v m) : ixM (.lst ds) (.int i) m RD E := ⟨v, e, h⟩
theorem ixR_i {p : Addr} {v : D} (n : Nat) (hm : m[n]? = some (p, .lst ds)) (e : atI ds i = some v) (h : RD v m) : ixM (.ref p) (.int i) m RD E := ⟨n, ds, v, hm, e, h⟩
theorem mkT_i (e : ds.length ≤ 100000) (h : RD (.tup ds) m) : mkT ds m RD E := ⟨e, h⟩
theorem mkL_i (e : ds.length ≤ 100000) (h : RD (.lst ds) m) : mkL ds m RD E := ⟨e, h⟩
theorem newL_i (e : ds.length ≤ 100000) (h : ∀ p, RD (.ref p) (m ++ [(p, .lst ds)])) : newL ds m RD E := ⟨e, h⟩
theorem abs_i (h : RD (.int (i.natAbs : Int)) m) : absM [.int i] m RD E := h
theorem int_i (h : RD (.int i) m) : intM [.int i] m RD E := h
theorem int_b {k : Bool} (h : RD (.int (if k then 1 else 0)) m) : intM [.bl k] m RD E := h
theorem max_i (h : RD (.int (max i j)) m) : maxM [.int i, .int j] m RD E := h
theorem min_i (h : RD (.int (min i j)) m) : minM [.int i, .int j] m RD E := h
theorem len_T (h : RD (.int (ds.length : Nat)) m) : lenM [.tup ds] m RD E := h
theorem len_L (h : RD (.int (ds.length : Nat)) m) : lenM [.lst ds] m RD E := h
theorem list_L (h : RD (.lst ds) m) : listM [.lst ds] m RD E := h
theorem list_K (h : RD (.lst ds) m) : listM [.lsk ds] m RD E := h
theorem tuple_L (h : RD (.tup ds) m) : tupleM [.lst ds] m RD E := h
theorem sum_L {ns : List Int} (h : RD (.int ns.sum) m) : sumM [.lst (ns.map D.int)] m RD E := ⟨ns, rfl, h⟩
theorem all_L {bs : List Bool} (h : RD (.bl (bs.all id)) m) : allM [.lst (bs.map D.bl)] m RD E := ⟨bs, rfl, h⟩
theorem any_L {bs : List Bool} (h : RD (.bl (bs.any id)) m) : anyM [.lst (bs.map D.bl)] m RD E := ⟨bs, rfl, h⟩
theorem seq_T (h : RL ds m) : seqM (.tup ds) m RL E := h
theorem seq_L (h : RL ds m) : seqM (.lst ds) m RL E := h
theorem rng_i (h1 : -100000 ≤ j) (h2 : j ≤ 100000) (h : RL (rangeD 0 j.toNat) m) : rngM (.int j) m RL E := ⟨h1, h2, h⟩
theorem lsM_i (h : RD (.lst ds) m) : lsM ds m RD E := h
theorem lsMM_i (h : ∀ p, RD (.ref p) (m ++ [(p, .lst ds)])) : lsMM ds m RD E := h
theorem someM_i {R : Option D → Led → Prop} (h : R (some d) m) : someM d m R E := h
theorem ut2_i {k : D → D → M α} {R : α → Led → Prop} (h : k a b m R E) : ut2 (.tup [a, b]) k m R E := ⟨a, b, rfl, h⟩
theorem un2_i {k : D → D → M (Option D)} {R : Option D → Led → Prop} (h : k a b m R E) : un2 (.tup [a, b]) k m R E := ⟨a, b, rfl, h⟩
theorem frz_i {p : Addr} (n : Nat) (hm : m[n]? = some (p, .lst ds)) (h : RD (.lst ds) (m.eraseIdx n)) : frzM (.ref p) m RD E := .inl ⟨n, ds, hm, h⟩
theorem chk_i {p : Addr} {R : Unit → Led → Prop} (n : Nat) (hm : m[n]? = some (p, .lst ds)) (h : R () m) : chkL (.ref p) m R E := ⟨n, ds, hm, h⟩
theorem app_i {p : Addr} (n : Nat) (hm : m[n]? = some (p, .lst ds)) (hl : ds.length < 100000) (h : RD .non (m.set n (p, .lst (ds ++ [y])))) : appM (.ref p) y m RD E := ⟨n, ds, hm, hl, h⟩
theorem st_i {p : Addr} {R : Unit → Led → Prop} (n k : Nat) (hm : m[n]? = some (p, .lst ds)) (hj : ixN ds.length i = some k) (h : R () (m.set n (p, .lst (ds.set k y)))) : stM (.ref p) (.int i) y m R E := ⟨n, ds, k, hm, hj, h⟩
theorem rai_i {nm : Str} {fd : Option (Str × D)} {R : α → Led → Prop} (h : E nm fd m) : raiM nm fd m R E := h
theorem set_last {M0 : Led} {x y : Addr × MO} : (M0 ++ [x]).set M0.length y = M0 ++ [y] := by simp
theorem get_last {M0 : Led} {x : Addr × MO} : (M0 ++ [x])[M0.length]? = some x := List.getElem?_concat_length
theorem rangeD_map (n : Nat) : rangeD 0 n = (List.range n).map fun (k : Nat) => D.int (k : Int) := by
  unfold rangeD
  apply List.map_congr_left
  intro k _
  rw [Int.zero_add]
theorem sp1_i {f : D → M D} (h : f a m RD E) : sp1 f [a] m RD E := h
theorem sp3_i {c : D} {f : D → D → D → M D} (h : f a b c m RD E) : sp3 f [a, b, c] m RD E := h
theorem sp4_i {c e : D} {f : D → D → D → D → M D} (h : f a b c e m RD E) : sp4 f [a, b, c, e] m RD E := h
theorem sp2_i {f : D → D → M D} (h : f a b m RD E) : sp2 f [a, b] m RD E := h
end
end DL


namespace DL
open PySem PySem.Spec PyProof.Rows L2 RZ
/-! ### rules for mirrors of dicts, instances, sorted .. -/
section
variable {α β σ σ' τ : Type} {m m' : Led} {E : XR} {RD : D → Led → Prop} {RB : Bool → Led → Prop} {RL : List D → Led → Prop} {d x y a b v : D} {i j : Int} {ds es vs : List D} {ks ls : List (List Int)} {k : List Int} {cn mt f : Str} {ns : List Str} {cs : List Str}
theorem isiO_p {n t : String} (ht : tyD d = some t) (hn : n ∈ tyNames) (h : RD (.bl (isiD t n)) m) : isiO cs [d, .ty n] m RD E := by
  have hk : t ∈ kinds2 := by cases d <;> simp only [tyD, Option.some.injEq, reduceCtorEq] at ht <;> subst ht <;> decide +kernel
  exact ⟨hn, .inl ⟨t, hk, .plain ht, h⟩⟩
theorem isiO_pt {nn : List String} {t : String} (ht : tyD d = some t) (hn : ∀ n ∈ nn, n ∈ tyNames) (h : RD (.bl (nn.any (isiD t))) m) : isiO cs [d, .tup (nn.map .ty)] m RD E := by
  have hk : t ∈ kinds2 := by cases d <;> simp only [tyD, Option.some.injEq, reduceCtorEq] at ht <;> subst ht <;> decide +kernel
  exact ⟨nn, rfl, hn, .inl ⟨t, hk, .plain ht, h⟩⟩
theorem isiO_pr {n t : String} {r : Bool} (ht : tyD d = some t) (hn : n ∈ tyNames) (er : isiD t n = r) (h : RD (.bl r) m) : isiO cs [d, .ty n] m RD E := isiO_p ht hn (by rw [er]; exact h)
theorem isiO_2 {a c t : String} {r : Bool} (ht : tyD d = some t) (ha : a ∈ tyNames) (hc : c ∈ tyNames) (er : (isiD t a || isiD t c) = r) (h : RD (.bl r) m) : isiO cs [d, .tup [.ty a, .ty c]] m RD E :=
  isiO_pt (nn := [a, c]) ht (by simp [ha, hc]) (by simp only [List.any_cons, List.any_nil, Bool.or_false]; rw [er]; exact h)
theorem iteM_nti {a b : M α} {R : α → Led → Prop} (h : b m R E) : iteM (!true) a b m R E := iteM_fi h
theorem iteM_nfi {a b : M α} {R : α → Led → Prop} (h : a m R E) : iteM (!false) a b m R E := iteM_ti h
theorem trg_i (h1 : -100000 ≤ j) (h2 : j ≤ 100000) (h : RD (.tup (rangeD 0 j.toNat)) m) : trgM (.int j) m RD E := ⟨h1, h2, h⟩
theorem chainB_i {op : CmpOp} {c : M D} {b : Bool} (h1 : b = true → c m (fun z m' => cmpB op y z m' RB E) E) (h2 : b = false → RB false m) : chainB op y c b m RB E := ⟨h1, h2⟩
theorem catT_i (c : ds.length + es.length ≤ 100000) (h : RD (.tup (ds ++ es)) m) : binM .Add (.tup ds) (.tup es) m RD E := ⟨c, h⟩
/-- the sorted list is the one -/
theorem sorted_uniq : ∀ {l r : List (List Int)}, l.Perm r → l.Pairwise (fun a c => lexI c a = false) → r.Pairwise (fun a c => lexI c a = false) → l = r
  | [], r, p, _, _ => by rw [List.Perm.nil_eq p]
  | x :: l, [], p, _, _ => by simpa using p.length_eq
  | x :: l, y :: r, p, h1, h2 => by
    have hx : x ∈ y :: r := p.mem_iff.mp (by simp)
    have hy : y ∈ x :: l := p.mem_iff.mpr (by simp)
    have e : x = y := by
      rcases List.mem_cons.mp hx with e | hx
      · exact e
      rcases List.mem_cons.mp hy with e | hy
      · exact e.symm
      exact lexI_eq ((List.pairwise_cons.mp h2).1 x hx) ((List.pairwise_cons.mp h1).1 y hy)
    subst e
    rw [sorted_uniq (List.Perm.cons_inv p) (List.pairwise_cons.mp h1).2 (List.pairwise_cons.mp h2).2]
theorem sortT_f {rs : List (List Int)} (ho : SrtOk ks) (hp : rs.Perm ks) (hs : rs.Pairwise (fun a c => lexI c a = false)) (h : RD (.lst (rs.map keyD)) m) : sortG false [.lst (ks.map keyD)] m RD E := .inl ⟨ks, .inl rfl, ho, fun ks' h1 h2 => by
  rw [sorted_uniq (h1.trans hp.symm) h2 hs]; exact h⟩
/-! dicts -/
theorem ixD_i (n : Nat) (hk : ks[n]? = some k) (hv : vs[n]? = some v) (h : RD v m) : ixM (.dI ks vs) (keyD k) m RD E := ⟨k, n, v, rfl, hk, hv, h⟩
theorem frzD_i {p : Addr} (n : Nat) (hm : m[n]? = some (p, .dI ks vs)) (h : RD (.dI ks vs) (m.eraseIdx n)) : frzM (.ref p) m RD E := .inr ⟨n, ks, vs, hm, h⟩
/-! instances -/
theorem tryN_i {cb : M (Fl σ τ)} {z : Clz} {R : Fl σ τ → Led → Prop} (h : cb m R fun nm fd m2 => catchN z nm fd m2 R E) : tryN cb z m R E := h
theorem catch_t {cls : List (Str × Bool)} {ch : Option (Str × D) → M (Fl Empty Empty)} {z : Clz} {nm : Str} {fd : Option (Str × D)} {R : Fl σ τ → Led → Prop} (hc : (nm, true) ∈ cls) (h : bnd (ch fd) upF m R NoX) : catchN ((cls, ch) :: z) nm fd m R E := ⟨true, hc, fun _ => h, fun e => nomatch e⟩
theorem catch_f {cls : List (Str × Bool)} {ch : Option (Str × D) → M (Fl Empty Empty)} {z : Clz} {nm : Str} {fd : Option (Str × D)} {R : Fl σ τ → Led → Prop} (hc : (nm, false) ∈ cls) (h : catchN z nm fd m R E) : catchN ((cls, ch) :: z) nm fd m R E := ⟨false, hc, fun e => (nomatch e), fun _ => h⟩
/-! slices and options of ints -/
theorem intO_i {R : Option Int → Led → Prop} (h : R (some i) m) : intO (.int i) m R E := h
theorem sl_L {lo hi : Option Int} (h : RD (.lst (cutD ds lo hi)) m) : slM (.lst ds) lo hi m RD E := h
end
end DL


namespace K35
open PySem PySem.Spec PyProof.Rows L2 DL
def topS (i : Nat) : Stmt := PySem.Challenge.pw_leastcomplaint_k35_blended_divisions.main.body.getD i (.Pass ⟨0, 0, 0, 0⟩)
def g_MOST_PLAYERS : D := .int 5
def g_NOTHING : D := .tup [(.int 0), (.int 1)]
abbrev s_law_pool : Stmt := topS 21
theorem sc_law_pool : FnScope ["_law_script"] ["_law_script"] (defScope s_law_pool) := ⟨rfl, rfl, rfl, by decide +kernel, rfl, by decide +kernel, by decide +kernel⟩
def b_law_pool (v_law_script : D) : M (Fl Unit Empty) := (bnd (bnd (bnd (ret (.int 0)) fun d7 => bnd (bnd (ret (.int 0)) fun d5 => bnd (bnd (bnd (bnd (ret v_law_script) fun d1 => bnd (ret []) fun ds2 => ret (d1 :: ds2)) listM) fun d3 => bnd (ret []) fun ds4 => ret (d3 :: ds4)) fun ds6 => ret (d5 :: ds6)) fun ds8 => ret (d7 :: ds8)) newL) rtM)
def m_law_pool : SpX := sp1 fun v_law_script => fnK (b_law_pool v_law_script)
theorem ok_law_pool {P : Program} {w : World} {K : PySem.W.Frag} {mg : Str → Option Value} {base : Heap} {k : Nat} {f : Addr} {fd : FuncData} {dvs : List V} (F : FnD K "_law_pool" "_law_pool" s_law_pool dvs f fd) (hk : 0 ≤ k) (m_list : mg "list" = none) : FnOk P w K mg base (L2.CX P w) (k + 1) f fd ["_law_script"] (liftX K mg m_law_pool) :=
  fk1 F sc_law_pool fun cdv A outer s H E Z hr v_law_script => by
    have hu := hr.units
    exact (bf_ret (ev_lstM (eva_cons ev_int (eva_cons ev_int (eva_cons (ev_blT m_list bt_list (listM_ok rfl) (eva_cons (ev_var .here) eva_nil)) eva_nil)))))
abbrev s_law_take : Stmt := topS 22
theorem sc_law_take : FnScope ["_law_pool_here", "_law_many", "_law_at", "_law_drawn", "_law_mixed", "_law_digit"] ["_law_pool_here", "_law_many"] (defScope s_law_take) := ⟨rfl, rfl, rfl, by decide +kernel, rfl, by decide +kernel, by decide +kernel⟩
def b_law_take (v_law_pool_here : D) (v_law_many : D) : M (Fl Unit Empty) := (seqF (bnd (bnd (bnd (ret v_law_pool_here) fun x1 => bnd (ret (.int 1)) fun x2 => ixM x1 x2) fun x3 => bnd (ret (.int 0)) fun x4 => cmpB .Eq x3 x4) fun b5 => iteM b5 (bnd (bnd (ret v_law_pool_here) fun x7 => bnd (ret (.int 0)) fun x8 => ixM x7 x8) fun v_law_at => (bnd (bnd (ret v_law_at) fun x9 => bnd (ret (.int 1)) fun x10 => binM .Add x9 x10) fun x67 => bnd (ret v_law_pool_here) fun x68 => bnd (ret (.int 0)) fun x69 => bnd (stM x68 x69 x67) fun _ => (bnd (bnd (bnd (bnd (ret v_law_pool_here) fun x11 => bnd (ret (.int 2)) fun x12 => ixM x11 x12) fun x15 => bnd (bnd (bnd (ret (.int 0)) fun d13 => bnd (ret []) fun ds14 => ret (d13 :: ds14)) mkL) fun x16 => binM .Add x15 x16) fun x29 => bnd (bnd (bnd (bnd (ret v_law_at) fun d17 => bnd (ret []) fun ds18 => ret (d17 :: ds18)) intM) fun x27 => bnd (bnd (bnd (ret (.int 1)) fun d25 => bnd (bnd (bnd (bnd (bnd (ret v_law_pool_here) fun x19 => bnd (ret (.int 2)) fun x20 => ixM x19 x20) fun d21 => bnd (ret []) fun ds22 => ret (d21 :: ds22)) lenM) fun d23 => bnd (ret []) fun ds24 => ret (d23 :: ds24)) fun ds26 => ret (d25 :: ds26)) maxM) fun x28 => binM .Mod x27 x28) fun x30 => ixM x29 x30) fun v_law_drawn => (bnd (bnd (bnd (bnd (bnd (bnd (bnd (bnd (ret v_law_drawn) fun d31 => bnd (ret []) fun ds32 => ret (d31 :: ds32)) intM) fun x33 => bnd (ret (.int 2147483647)) fun x34 => binM .Mod x33 x34) fun x37 => bnd (bnd (ret (.int 7919)) fun x35 => bnd (ret v_law_at) fun x36 => binM .Mult x35 x36) fun x38 => binM .Add x37 x38) fun x39 => bnd (ret (.int 13)) fun x40 => binM .Add x39 x40) fun x41 => bnd (ret (.int 5)) fun x42 => binM .Pow x41 x42) fun x43 => bnd (ret (.int 2147483647)) fun x44 => binM .Mod x43 x44) fun v_law_mixed => (bnd (bnd (bnd (bnd (bnd (ret v_law_mixed) fun x47 => bnd (bnd (ret (.int 104729)) fun x45 => bnd (ret v_law_at) fun x46 => binM .Mult x45 x46) fun x48 => binM .Add x47 x48) fun x49 => bnd (ret (.int 29)) fun x50 => binM .Add x49 x50) fun x51 => bnd (ret (.int 3)) fun x52 => binM .Pow x51 x52) fun x53 => bnd (ret (.int 2147483629)) fun x54 => binM .Mod x53 x54) fun v_law_mixed => (bnd (bnd (ret v_law_drawn) fun x57 => bnd (bnd (ret (.int 10)) fun x55 => bnd (ret (.int 18)) fun x56 => binM .Pow x55 x56) fun x58 => cmpB .Lt x57 x58) fun b59 => iteM b59 (bnd (bnd (bnd (ret v_law_mixed) fun x60 => bnd (ret (.int 11)) fun x61 => binM .FloorDiv x60 x61) fun x62 => bnd (ret v_law_many) fun x63 => binM .Mod x62 x63) rtM) (bnd (ret v_law_drawn) fun x64 => bnd (ret v_law_pool_here) fun x65 => bnd (ret (.int 1)) fun x66 => bnd (stM x65 x66 x64) fun _ => (ret (.nx (())))))))))) (ret (.nx (())))) fun (s6 : Unit) => (bnd (bnd (bnd (bnd (bnd (ret v_law_pool_here) fun x70 => bnd (ret (.int 1)) fun x71 => ixM x70 x71) fun d72 => bnd (ret []) fun ds73 => ret (d72 :: ds73)) intM) fun x74 => bnd (ret v_law_many) fun x75 => binM .Mod x74 x75) fun v_law_digit => (bnd (bnd (bnd (ret v_law_pool_here) fun x76 => bnd (ret (.int 1)) fun x77 => ixM x76 x77) fun x78 => bnd (ret v_law_many) fun x79 => binM .FloorDiv x78 x79) fun x80 => bnd (ret v_law_pool_here) fun x81 => bnd (ret (.int 1)) fun x82 => bnd (stM x81 x82 x80) fun _ => (bnd (ret v_law_digit) rtM))))
def m_law_take : SpX := sp2 fun v_law_pool_here v_law_many => fnM (b_law_take v_law_pool_here v_law_many)
theorem ok_law_take {P : Program} {w : World} {K : PySem.W.Frag} {mg : Str → Option Value} {base : Heap} {k : Nat} {f : Addr} {fd : FuncData} {dvs : List V} (F : FnD K "_law_take" "_law_take" s_law_take dvs f fd) (hk : 0 ≤ k) (m_int : mg "int" = none) (m_len : mg "len" = none) (m_max : mg "max" = none) : FnOk P w K mg base (L2.CX P w) (k + 1) f fd ["_law_pool_here", "_law_many"] (liftX K mg m_law_take) :=
  fn2 F sc_law_take fun cdv A outer s H E Z hr v_law_pool_here v_law_many => by
    have hu := hr.units
    exact (bf_if (e1 := (fun (s6 : Unit) => [("_law_pool_here", some v_law_pool_here), ("_law_many", some v_law_many), ("_law_at", none), ("_law_drawn", none), ("_law_mixed", none), ("_law_digit", none)])) (tv_cmp hu (ev_ix hu (ev_var .here) ev_int) ev_int) (bf_set (ev_ix hu (ev_var .here) ev_int) (fun _ => (.there (.there .here))) (fun v_law_at => (bf_sub hu (ev_bin (ev_var (.there (.there .here))) ev_int) (ev_var .here) ev_int (bf_set (ev_ix hu (ev_bin (ev_ix hu (ev_var .here) ev_int) (ev_lst (eva_cons ev_int eva_nil))) (ev_bin (ev_blT m_int bt_int intM_ok (eva_cons (ev_var (.there (.there .here))) eva_nil)) (ev_blt m_max bt_max (maxM_ok rfl) (eva_cons ev_int (eva_cons (ev_blt m_len bt_len lenM_ok (eva_cons (ev_ix hu (ev_var .here) ev_int) eva_nil)) eva_nil))))) (fun _ => (.there (.there (.there .here)))) (fun v_law_drawn => (bf_set (ev_bin (ev_bin (ev_bin (ev_bin (ev_bin (ev_blT m_int bt_int intM_ok (eva_cons (ev_var (.there (.there (.there .here)))) eva_nil)) ev_int) (ev_bin ev_int (ev_var (.there (.there .here))))) ev_int) ev_int) ev_int) (fun _ => (.there (.there (.there (.there .here))))) (fun v_law_mixed => (bf_set (ev_bin (ev_bin (ev_bin (ev_bin (ev_var (.there (.there (.there (.there .here))))) (ev_bin ev_int (ev_var (.there (.there .here))))) ev_int) ev_int) ev_int) (fun _ => (.there (.there (.there (.there .here))))) (fun v_law_mixed => (bf_ifX (tv_cmp hu (ev_var (.there (.there (.there .here)))) (ev_bin ev_int ev_int)) (bf_ret (ev_bin (ev_bin (ev_var (.there (.there (.there (.there .here))))) ev_int) (ev_var (.there .here)))) (bf_sub hu (ev_var (.there (.there (.there .here)))) (ev_var .here) ev_int (bf_nil (l := (.same (.same (.drop (.drop (.drop (.same .nil))))))))))))))))))) (bf_nil (l := (.same (.same (.same (.same (.same (.same .nil)))))))) (fun s6 => (bf_set (ev_bin (ev_blT m_int bt_int intM_ok (eva_cons (ev_ix hu (ev_var .here) ev_int) eva_nil)) (ev_var (.there .here))) (fun _ => (.there (.there (.there (.there (.there .here)))))) (fun v_law_digit => (bf_sub hu (ev_bin (ev_ix hu (ev_var .here) ev_int) (ev_var (.there .here))) (ev_var .here) ev_int (bf_ret (ev_var (.there (.there (.there (.there (.there .here))))))))))))
abbrev s_law_shares : Stmt := topS 38
theorem sc_law_shares : FnScope ["_law_pool_here", "_law_many", "_law_shares_here", "_law_k", "_law_spoil", "_law_share"] ["_law_pool_here", "_law_many"] (defScope s_law_shares) := ⟨rfl, rfl, rfl, by decide +kernel, rfl, by decide +kernel, by decide +kernel⟩
def b_law_shares (v_law_pool_here : D) (v_law_many : D) : M (Fl Unit Empty) := (bnd (bnd (bnd (ret v_law_many) rngM) fun ds16 => bnd (compM (fun v_law_k_1 => bnd (bnd (bnd (ret v_law_pool_here) fun d14 => bnd (bnd (bnd (bnd (bnd (ret (.int 3)) fun d4 => bnd (bnd (ret (.int 1001)) fun d2 => bnd (ret []) fun ds3 => ret (d2 :: ds3)) fun ds5 => ret (d4 :: ds5)) mkL) fun x10 => bnd (bnd (bnd (ret v_law_pool_here) fun d8 => bnd (bnd (ret (.int 2)) fun d6 => bnd (ret []) fun ds7 => ret (d6 :: ds7)) fun ds9 => ret (d8 :: ds9)) m_law_take) fun x11 => ixM x10 x11) fun d12 => bnd (ret []) fun ds13 => ret (d12 :: ds13)) fun ds15 => ret (d14 :: ds15)) m_law_take) someM) ds16 []) lsMM) fun v_law_shares_here => (bnd (bnd (bnd (ret v_law_pool_here) fun d19 => bnd (bnd (ret (.int 15)) fun d17 => bnd (ret []) fun ds18 => ret (d17 :: ds18)) fun ds20 => ret (d19 :: ds20)) m_law_take) fun v_law_spoil => (seqF (bnd (bnd (ret v_law_spoil) fun x21 => bnd (ret (.int 0)) fun x22 => cmpB .Eq x21 x22) fun b23 => iteM b23 (bnd (frzM v_law_shares_here) fun v_law_shares_here => (bnd (bnd (bnd (ret v_law_shares_here) seqM) fun ds26 => bnd (compM (fun v_law_share_25 => bnd (ret (.int 0)) someM) ds26 []) lsMM) fun v_law_shares_here => (ret (.nx v_law_shares_here)))) (ret (.nx v_law_shares_here))) fun (s24 : D) => (seqF (bnd (bnd (bnd (ret v_law_spoil) fun x29 => bnd (ret (.int 1)) fun x30 => cmpB .Eq x29 x30) (andB (bnd (ret s24) fun x27 => bnd (bnd (ret []) mkL) fun x28 => cmpB .NotEq x27 x28))) fun b31 => iteM b31 (bnd (bnd (bnd (bnd (bnd (ret (.int 1)) fun x33 => unM .USub x33) fun d40 => bnd (bnd (ret (.bl true)) fun d38 => bnd (bnd (ret .non) fun d36 => bnd (bnd (ret (.str "1")) fun d34 => bnd (ret []) fun ds35 => ret (d34 :: ds35)) fun ds37 => ret (d36 :: ds37)) fun ds39 => ret (d38 :: ds39)) fun ds41 => ret (d40 :: ds41)) mkL) fun x46 => bnd (bnd (bnd (ret v_law_pool_here) fun d44 => bnd (bnd (ret (.int 4)) fun d42 => bnd (ret []) fun ds43 => ret (d42 :: ds43)) fun ds45 => ret (d44 :: ds45)) m_law_take) fun x47 => ixM x46 x47) fun x52 => bnd (ret s24) fun x53 => bnd (bnd (bnd (ret v_law_pool_here) fun d50 => bnd (bnd (ret v_law_many) fun d48 => bnd (ret []) fun ds49 => ret (d48 :: ds49)) fun ds51 => ret (d50 :: ds51)) m_law_take) fun x54 => bnd (stM x53 x54 x52) fun _ => (ret (.nx (())))) (ret (.nx (())))) fun (s32 : Unit) => (seqF (bnd (bnd (ret v_law_spoil) fun x55 => bnd (ret (.int 2)) fun x56 => cmpB .Eq x55 x56) fun b57 => iteM b57 (bnd (bnd (ret s24) fun u59 => bnd (chkL u59) fun _ => bnd (ret (.int 1)) fun y60 => appM u59 y60) fun _ => (ret (.nx (())))) (ret (.nx (())))) fun (s58 : Unit) => (seqF (bnd (bnd (bnd (ret v_law_spoil) fun x63 => bnd (ret (.int 3)) fun x64 => cmpB .Eq x63 x64) (andB (bnd (ret s24) fun x61 => bnd (bnd (ret []) mkL) fun x62 => cmpB .NotEq x61 x62))) fun b65 => iteM b65 (bnd (bnd (ret s24) pop0M) fun _ => (ret (.nx (())))) (ret (.nx (())))) fun (s66 : Unit) => (bnd (ret s24) rtM)))))))
def m_law_shares : SpX := sp2 fun v_law_pool_here v_law_many => fnK (b_law_shares v_law_pool_here v_law_many)
theorem ok_law_shares {P : Program} {w : World} {K : PySem.W.Frag} {mg : Str → Option Value} {base : Heap} {k : Nat} {f : Addr} {fd : FuncData} {dvs : List V} (F : FnD K "_law_shares" "_law_shares" s_law_shares dvs f fd) (hk : 1 ≤ k) (m_range : mg "range" = none) (h_law_take : KnowsX P w K mg base k "_law_take" 2 [] m_law_take) : FnOk P w K mg base (L2.CX P w) (k + 1) f fd ["_law_pool_here", "_law_many"] (liftX K mg m_law_shares) :=
  fk2 F sc_law_shares fun cdv A outer s H E Z hr v_law_pool_here v_law_many => by
    have hu := hr.units
    exact (bf_setLcM (.there (.there (.there .here))) (.there (.there .here)) (iv_range1 m_range (ev_var (.there .here))) (cv0 (fun _ => (.there (.there (.there .here)))) (fun v_law_k_1 s0 H0 C0 cl0 fp0 => (ev_call h_law_take (hr.mono (by omega)) (eva_cons (ev_var .here) (eva_cons (ev_ix hu (ev_lst (eva_cons ev_int (eva_cons ev_int eva_nil))) (ev_call h_law_take (hr.mono (by omega)) (eva_cons (ev_var .here) (eva_cons ev_int eva_nil)))) eva_nil))))) (fun _ => (.there (.there .here))) (fun v_law_shares_here => (bf_set (ev_call h_law_take (hr.mono (by omega)) (eva_cons (ev_var .here) (eva_cons ev_int eva_nil))) (fun _ => (.there (.there (.there (.there .here))))) (fun v_law_spoil => (bf_if (e1 := (fun (s24 : D) => [("_law_pool_here", some v_law_pool_here), ("_law_many", some v_law_many), ("_law_shares_here", some s24), ("_law_k", none), ("_law_spoil", some v_law_spoil), ("_law_share", none)])) (tv_cmp hu (ev_var (.there (.there (.there (.there .here))))) ev_int) (bf_frz (.there (.there .here)) (fun _ => (.there (.there .here))) (fun v_law_shares_here => (bf_setLcM (.there (.there (.there (.there (.there .here))))) (.there (.there .here)) (iv_seq (ev_var (.there (.there .here)))) (cv0 (fun _ => (.there (.there (.there (.there (.there .here)))))) (fun v_law_share_25 s0 H0 C0 cl0 fp0 => ev_int)) (fun _ => (.there (.there .here))) (fun v_law_shares_here => (bf_nil (l := (.same (.same (.same (.same (.same (.same .nil)))))))))))) (bf_nil (l := (.same (.same (.same (.same (.same (.same .nil)))))))) (fun s24 => (bf_if (e1 := (fun (s32 : Unit) => [("_law_pool_here", some v_law_pool_here), ("_law_many", some v_law_many), ("_law_shares_here", some s24), ("_law_k", none), ("_law_spoil", some v_law_spoil), ("_law_share", none)])) (tv_w (wv_and (tv_cmp hu (ev_var (.there (.there (.there (.there .here))))) ev_int) (wv_and1 (tv_cmp hu (ev_var (.there (.there .here))) (ev_lst eva_nil))))) (bf_sub hu (ev_ix hu (ev_lst (eva_cons (ev_un ev_int) (eva_cons ev_bl (eva_cons ev_non (eva_cons ev_str eva_nil))))) (ev_call h_law_take (hr.mono (by omega)) (eva_cons (ev_var .here) (eva_cons ev_int eva_nil)))) (ev_var (.there (.there .here))) (ev_call h_law_take (hr.mono (by omega)) (eva_cons (ev_var .here) (eva_cons (ev_var (.there .here)) eva_nil))) (bf_nil (l := (.same (.same (.same (.same (.same (.same .nil))))))))) (bf_nil (l := (.same (.same (.same (.same (.same (.same .nil)))))))) (fun s32 => (bf_if (e1 := (fun (s58 : Unit) => [("_law_pool_here", some v_law_pool_here), ("_law_many", some v_law_many), ("_law_shares_here", some s24), ("_law_k", none), ("_law_spoil", some v_law_spoil), ("_law_share", none)])) (tv_cmp hu (ev_var (.there (.there (.there (.there .here))))) ev_int) (bf_expr (ev_append (ev_var (.there (.there .here))) ev_int) (bf_nil (l := (.same (.same (.same (.same (.same (.same .nil))))))))) (bf_nil (l := (.same (.same (.same (.same (.same (.same .nil)))))))) (fun s58 => (bf_if (e1 := (fun (s66 : Unit) => [("_law_pool_here", some v_law_pool_here), ("_law_many", some v_law_many), ("_law_shares_here", some s24), ("_law_k", none), ("_law_spoil", some v_law_spoil), ("_law_share", none)])) (tv_w (wv_and (tv_cmp hu (ev_var (.there (.there (.there (.there .here))))) ev_int) (wv_and1 (tv_cmp hu (ev_var (.there (.there .here))) (ev_lst eva_nil))))) (bf_expr (ev_pop0 (ev_var (.there (.there .here)))) (bf_nil (l := (.same (.same (.same (.same (.same (.same .nil))))))))) (bf_nil (l := (.same (.same (.same (.same (.same (.same .nil)))))))) (fun s66 => (bf_ret (ev_var (.there (.there .here))))))))))))))))
abbrev s_law_divisor : Stmt := topS 24
theorem sc_law_divisor : FnScope ["_law_numbers", "_law_found", "_law_number", "_law_one", "_law_other"] ["_law_numbers"] (defScope s_law_divisor) := ⟨rfl, rfl, rfl, by decide +kernel, rfl, by decide +kernel, by decide +kernel⟩
def b_law_divisor (v_law_numbers : D) : M (Fl Unit Empty) := (bnd (ret (.int 0)) fun v_law_found => (bnd (bnd (ret v_law_numbers) seqM) fun ds2 => seqF (forF (fun v_law_number (s1 : D) => (bnd (bnd (bnd (ret v_law_number) fun d3 => bnd (ret []) fun ds4 => ret (d3 :: ds4)) absM) fun v_law_one => (bnd (ret s1) fun v_law_other => (seqF (whileF (fun (s5 : D × D) => (bnd (ret s5.2) fun x6 => bnd (ret (.int 0)) fun x7 => cmpB .NotEq x6 x7)) (fun (s5 : D × D) => (bnd (ret s5.2) fun v_law_one_12 => bnd (bnd (bnd (bnd (ret s5.1) fun d8 => bnd (ret []) fun ds9 => ret (d8 :: ds9)) intM) fun x10 => bnd (ret s5.2) fun x11 => binM .Mod x10 x11) fun v_law_other_13 => (ret (.nx ((v_law_one_12, v_law_other_13)))))) ((v_law_one, v_law_other))) fun (s5 : D × D) => (bnd (ret s5.1) fun v_law_found => (ret (.nx v_law_found))))))) ds2 v_law_found) fun (s1 : D) => (bnd (ret s1) rtM)))
def m_law_divisor : SpX := sp1 fun v_law_numbers => fnM (b_law_divisor v_law_numbers)
theorem ok_law_divisor {P : Program} {w : World} {K : PySem.W.Frag} {mg : Str → Option Value} {base : Heap} {k : Nat} {f : Addr} {fd : FuncData} {dvs : List V} (F : FnD K "_law_divisor" "_law_divisor" s_law_divisor dvs f fd) (hk : 0 ≤ k) (m_abs : mg "abs" = none) (m_int : mg "int" = none) : FnOk P w K mg base (L2.CX P w) (k + 1) f fd ["_law_numbers"] (liftX K mg m_law_divisor) :=
  fn1 F sc_law_divisor fun cdv A outer s H E Z hr v_law_numbers => by
    have hu := hr.units
    exact (bf_set ev_int (fun _ => (.there .here)) (fun v_law_found => (bf_for (e1 := (fun (s1 : D) => [("_law_numbers", some v_law_numbers), ("_law_found", some s1), ("_law_number", none), ("_law_one", none), ("_law_other", none)])) (iv_seq (ev_var .here)) (.same (.same (.same (.same (.same .nil))))) (fun v_law_number s1 => bg_name (.there (.there .here)) (bf_set (ev_blt m_abs bt_abs absM_ok (eva_cons (ev_var (.there (.there .here))) eva_nil)) (fun _ => (.there (.there (.there .here)))) (fun v_law_one => (bf_set (ev_var (.there .here)) (fun _ => (.there (.there (.there (.there .here))))) (fun v_law_other => (bf_while (e1 := (fun (s5 : D × D) => [("_law_numbers", some v_law_numbers), ("_law_found", some s1), ("_law_number", some v_law_number), ("_law_one", some s5.1), ("_law_other", some s5.2)])) (fun s5 => (tv_cmp hu (ev_var (.there (.there (.there (.there .here))))) ev_int)) (.same (.same (.same (.same (.same .nil))))) (fun s5 => (bf_par (ev_var (.there (.there (.there (.there .here))))) (ev_bin (ev_blT m_int bt_int intM_ok (eva_cons (ev_var (.there (.there (.there .here)))) eva_nil)) (ev_var (.there (.there (.there (.there .here)))))) (fun _ => (.there (.there (.there .here)))) (fun _ _ => (.there (.there (.there (.there .here))))) (by decide) (fun v_law_one_12 v_law_other_13 => (bf_nil (l := (.same (.same (.same (.same (.same .nil)))))))))) (fun s5 => (bf_set (ev_var (.there (.there (.there .here)))) (fun _ => (.there .here)) (fun v_law_found => (bf_nil (l := (.same (.same (.drop (.drop (.drop .nil)))))))))))))))) (fun s1 => (bf_ret (ev_var (.there .here)))))))
abbrev s_law_ratio : Stmt := topS 25
theorem sc_law_ratio : FnScope ["_law_up", "_law_down", "_law_piece"] ["_law_up", "_law_down"] (defScope s_law_ratio) := ⟨rfl, rfl, rfl, by decide +kernel, rfl, by decide +kernel, by decide +kernel⟩
def b_law_ratio (v_law_up : D) (v_law_down : D) : M (Fl Unit Empty) := (bnd (bnd (bnd (bnd (bnd (ret v_law_up) fun d3 => bnd (bnd (ret v_law_down) fun d1 => bnd (ret []) fun ds2 => ret (d1 :: ds2)) fun ds4 => ret (d3 :: ds4)) mkL) fun d5 => bnd (ret []) fun ds6 => ret (d5 :: ds6)) m_law_divisor) fun v_law_piece => (seqF (bnd (bnd (ret v_law_down) fun x7 => bnd (ret (.int 0)) fun x8 => cmpB .Lt x7 x8) fun b9 => iteM b9 (bnd (bnd (ret v_law_piece) fun x11 => unM .USub x11) fun v_law_piece => (ret (.nx v_law_piece))) (ret (.nx v_law_piece))) fun (s10 : D) => (bnd (bnd (bnd (bnd (ret v_law_up) fun x12 => bnd (ret s10) fun x13 => binM .FloorDiv x12 x13) fun d18 => bnd (bnd (bnd (ret v_law_down) fun x14 => bnd (ret s10) fun x15 => binM .FloorDiv x14 x15) fun d16 => bnd (ret []) fun ds17 => ret (d16 :: ds17)) fun ds19 => ret (d18 :: ds19)) mkT) rtM)))
def m_law_ratio : SpX := sp2 fun v_law_up v_law_down => fnM (b_law_ratio v_law_up v_law_down)
theorem ok_law_ratio {P : Program} {w : World} {K : PySem.W.Frag} {mg : Str → Option Value} {base : Heap} {k : Nat} {f : Addr} {fd : FuncData} {dvs : List V} (F : FnD K "_law_ratio" "_law_ratio" s_law_ratio dvs f fd) (hk : 1 ≤ k) (h_law_divisor : KnowsX P w K mg base k "_law_divisor" 1 [] m_law_divisor) : FnOk P w K mg base (L2.CX P w) (k + 1) f fd ["_law_up", "_law_down"] (liftX K mg m_law_ratio) :=
  fn2 F sc_law_ratio fun cdv A outer s H E Z hr v_law_up v_law_down => by
    have hu := hr.units
    exact (bf_set (ev_call h_law_divisor (hr.mono (by omega)) (eva_cons (ev_lst (eva_cons (ev_var .here) (eva_cons (ev_var (.there .here)) eva_nil))) eva_nil)) (fun _ => (.there (.there .here))) (fun v_law_piece => (bf_if (e1 := (fun (s10 : D) => [("_law_up", some v_law_up), ("_law_down", some v_law_down), ("_law_piece", some s10)])) (tv_cmp hu (ev_var (.there .here)) ev_int) (bf_set (ev_un (ev_var (.there (.there .here)))) (fun _ => (.there (.there .here))) (fun v_law_piece => (bf_nil (l := (.same (.same (.same .nil))))))) (bf_nil (l := (.same (.same (.same .nil))))) (fun s10 => (bf_ret (ev_tup (eva_cons (ev_bin (ev_var .here) (ev_var (.there (.there .here)))) (eva_cons (ev_bin (ev_var (.there .here)) (ev_var (.there (.there .here)))) eva_nil))))))))
abbrev s_law_plus : Stmt := topS 29
theorem sc_law_plus : FnScope ["_law_one", "_law_other"] ["_law_one", "_law_other"] (defScope s_law_plus) := ⟨rfl, rfl, rfl, by decide +kernel, rfl, by decide +kernel, by decide +kernel⟩
def b_law_plus (v_law_one : D) (v_law_other : D) : M (Fl Unit Empty) := (bnd (bnd (bnd (bnd (bnd (bnd (ret v_law_one) fun x1 => bnd (ret (.int 0)) fun x2 => ixM x1 x2) fun x5 => bnd (bnd (ret v_law_other) fun x3 => bnd (ret (.int 1)) fun x4 => ixM x3 x4) fun x6 => binM .Mult x5 x6) fun x13 => bnd (bnd (bnd (ret v_law_other) fun x7 => bnd (ret (.int 0)) fun x8 => ixM x7 x8) fun x11 => bnd (bnd (ret v_law_one) fun x9 => bnd (ret (.int 1)) fun x10 => ixM x9 x10) fun x12 => binM .Mult x11 x12) fun x14 => binM .Add x13 x14) fun d23 => bnd (bnd (bnd (bnd (ret v_law_one) fun x15 => bnd (ret (.int 1)) fun x16 => ixM x15 x16) fun x19 => bnd (bnd (ret v_law_other) fun x17 => bnd (ret (.int 1)) fun x18 => ixM x17 x18) fun x20 => binM .Mult x19 x20) fun d21 => bnd (ret []) fun ds22 => ret (d21 :: ds22)) fun ds24 => ret (d23 :: ds24)) m_law_ratio) rtM)
def m_law_plus : SpX := sp2 fun v_law_one v_law_other => fnM (b_law_plus v_law_one v_law_other)
theorem ok_law_plus {P : Program} {w : World} {K : PySem.W.Frag} {mg : Str → Option Value} {base : Heap} {k : Nat} {f : Addr} {fd : FuncData} {dvs : List V} (F : FnD K "_law_plus" "_law_plus" s_law_plus dvs f fd) (hk : 2 ≤ k) (h_law_ratio : KnowsX P w K mg base k "_law_ratio" 2 [] m_law_ratio) : FnOk P w K mg base (L2.CX P w) (k + 1) f fd ["_law_one", "_law_other"] (liftX K mg m_law_plus) :=
  fn2 F sc_law_plus fun cdv A outer s H E Z hr v_law_one v_law_other => by
    have hu := hr.units
    exact (bf_ret (ev_call h_law_ratio (hr.mono (by omega)) (eva_cons (ev_bin (ev_bin (ev_ix hu (ev_var .here) ev_int) (ev_ix hu (ev_var (.there .here)) ev_int)) (ev_bin (ev_ix hu (ev_var (.there .here)) ev_int) (ev_ix hu (ev_var .here) ev_int))) (eva_cons (ev_bin (ev_ix hu (ev_var .here) ev_int) (ev_ix hu (ev_var (.there .here)) ev_int)) eva_nil))))
abbrev s_law_is_number : Stmt := topS 23
theorem sc_law_is_number : FnScope ["_law_thing"] ["_law_thing"] (defScope s_law_is_number) := ⟨rfl, rfl, rfl, by decide +kernel, rfl, by decide +kernel, by decide +kernel⟩
def b_law_is_number (v_law_thing : D) : M (Fl Unit Empty) := (bnd (bnd (bnd (bnd (ret v_law_thing) fun d8 => bnd (bnd (ret (.ty "int")) fun d6 => bnd (ret []) fun ds7 => ret (d6 :: ds7)) fun ds9 => ret (d8 :: ds9)) (isiO [])) (andM (bnd (bnd (bnd (ret v_law_thing) fun d3 => bnd (bnd (ret (.ty "bool")) fun d1 => bnd (ret []) fun ds2 => ret (d1 :: ds2)) fun ds4 => ret (d3 :: ds4)) (isiO [])) notM))) rtM)
def m_law_is_number : SpX := sp1 fun v_law_thing => fnM (b_law_is_number v_law_thing)
theorem ok_law_is_number {P : Program} {w : World} {K : PySem.W.Frag} {mg : Str → Option Value} {base : Heap} {k : Nat} {f : Addr} {fd : FuncData} {dvs : List V} (F : FnD K "_law_is_number" "_law_is_number" s_law_is_number dvs f fd) (hk : 0 ≤ k) (m_bool : mg "bool" = none) (m_int : mg "int" = none) (m_isinstance : mg "isinstance" = none) : FnOk P w K mg base (L2.CX P w) (k + 1) f fd ["_law_thing"] (liftX K mg m_law_is_number) :=
  fn1 F sc_law_is_number fun cdv A outer s H E Z hr v_law_thing => by
    have hu := hr.units
    exact (bf_ret (ev_and (ev_blt m_isinstance bt_isinstance (isiO_ok (by intro cn h; simp at h)) (eva_cons (ev_var .here) (eva_cons (ev_ty m_int bt_int) eva_nil))) (ev_one (ev_not (ev_blt m_isinstance bt_isinstance (isiO_ok (by intro cn h; simp at h)) (eva_cons (ev_var .here) (eva_cons (ev_ty m_bool bt_bool) eva_nil)))))))
abbrev s_law_is_ratio : Stmt := topS 28
theorem sc_law_is_ratio : FnScope ["_law_value"] ["_law_value"] (defScope s_law_is_ratio) := ⟨rfl, rfl, rfl, by decide +kernel, rfl, by decide +kernel, by decide +kernel⟩
def b_law_is_ratio (v_law_value : D) : M (Fl Unit Empty) := (bnd (bnd (bnd (bnd (bnd (bnd (ret v_law_value) fun d15 => bnd (bnd (ret (.ty "tuple")) fun d13 => bnd (ret []) fun ds14 => ret (d13 :: ds14)) fun ds16 => ret (d15 :: ds16)) (isiO [])) truB) notB) (orB (bnd (bnd (bnd (bnd (ret v_law_value) fun d9 => bnd (ret []) fun ds10 => ret (d9 :: ds10)) lenM) fun x11 => bnd (ret (.int 2)) fun x12 => cmpB .NotEq x11 x12) (orB (bnd (bnd (bnd (bnd (bnd (bnd (ret v_law_value) fun x5 => bnd (ret (.int 0)) fun x6 => ixM x5 x6) fun d7 => bnd (ret []) fun ds8 => ret (d7 :: ds8)) m_law_is_number) truB) notB) (orB (bnd (bnd (bnd (bnd (bnd (ret v_law_value) fun x1 => bnd (ret (.int 1)) fun x2 => ixM x1 x2) fun d3 => bnd (ret []) fun ds4 => ret (d3 :: ds4)) m_law_is_number) truB) notB))))))) fun b17 => iteM b17 (bnd (ret (.bl false)) rtM) (bnd (bnd (bnd (bnd (ret v_law_value) fun x30 => bnd (ret (.int 1)) fun x31 => ixM x30 x31) fun x32 => bnd (ret (.int 1)) fun x33 => cmpM .GtE x32 x33) (andM (bnd (bnd (bnd (bnd (bnd (bnd (ret v_law_value) fun x18 => bnd (ret (.int 0)) fun x19 => ixM x18 x19) fun d24 => bnd (bnd (bnd (ret v_law_value) fun x20 => bnd (ret (.int 1)) fun x21 => ixM x20 x21) fun d22 => bnd (ret []) fun ds23 => ret (d22 :: ds23)) fun ds25 => ret (d24 :: ds25)) mkL) fun d26 => bnd (ret []) fun ds27 => ret (d26 :: ds27)) m_law_divisor) fun x28 => bnd (ret (.int 1)) fun x29 => cmpM .Eq x28 x29))) rtM))
def m_law_is_ratio : SpX := sp1 fun v_law_value => fnM (b_law_is_ratio v_law_value)
theorem ok_law_is_ratio {P : Program} {w : World} {K : PySem.W.Frag} {mg : Str → Option Value} {base : Heap} {k : Nat} {f : Addr} {fd : FuncData} {dvs : List V} (F : FnD K "_law_is_ratio" "_law_is_ratio" s_law_is_ratio dvs f fd) (hk : 1 ≤ k) (m_isinstance : mg "isinstance" = none) (m_len : mg "len" = none) (m_tuple : mg "tuple" = none) (h_law_divisor : KnowsX P w K mg base k "_law_divisor" 1 [] m_law_divisor) (h_law_is_number : KnowsX P w K mg base k "_law_is_number" 1 [] m_law_is_number) : FnOk P w K mg base (L2.CX P w) (k + 1) f fd ["_law_value"] (liftX K mg m_law_is_ratio) :=
  fn1 F sc_law_is_ratio fun cdv A outer s H E Z hr v_law_value => by
    have hu := hr.units
    exact (bf_ifX (tv_w (wv_or (tv_not (tv_val (ev_blt m_isinstance bt_isinstance (isiO_ok (by intro cn h; simp at h)) (eva_cons (ev_var .here) (eva_cons (ev_ty m_tuple bt_tuple) eva_nil))))) (wv_or (tv_cmp hu (ev_blt m_len bt_len lenM_ok (eva_cons (ev_var .here) eva_nil)) ev_int) (wv_or (tv_not (tv_val (ev_call h_law_is_number (hr.mono (by omega)) (eva_cons (ev_ix hu (ev_var .here) ev_int) eva_nil)))) (wv_or1 (tv_not (tv_val (ev_call h_law_is_number (hr.mono (by omega)) (eva_cons (ev_ix hu (ev_var .here) ev_int) eva_nil))))))))) (bf_ret ev_bl) (bf_ret (ev_and (ev_cmp hu (ev_ix hu (ev_var .here) ev_int) ev_int) (ev_one (ev_cmp hu (ev_call h_law_divisor (hr.mono (by omega)) (eva_cons (ev_lst (eva_cons (ev_ix hu (ev_var .here) ev_int) (eva_cons (ev_ix hu (ev_var .here) ev_int) eva_nil))) eva_nil)) ev_int)))))
abbrev s_law_due : Stmt := topS 37
theorem sc_law_due : FnScope ["_law_lists", "_law_shares_here", "_law_one", "_law_row", "_law_found", "_law_at", "_law_total_here", "_law_k", "_law_top", "_law_bottom"] ["_law_lists", "_law_shares_here"] (defScope s_law_due) := ⟨rfl, rfl, rfl, by decide +kernel, rfl, by decide +kernel, by decide +kernel⟩
def b_law_due (v_law_lists : D) (v_law_shares_here : D) : M (Fl Unit Empty) := (bnd (bnd (bnd (bnd (bnd (ret v_law_shares_here) fun d10 => bnd (ret []) fun ds11 => ret (d10 :: ds11)) lenM) fun x14 => bnd (bnd (bnd (ret v_law_lists) fun d12 => bnd (ret []) fun ds13 => ret (d12 :: ds13)) lenM) fun x15 => cmpB .NotEq x14 x15) (orB (bnd (bnd (bnd (ret v_law_shares_here) seqM) fun ds7 => bnd (compM (fun v_law_one_1 => bnd (bnd (bnd (bnd (bnd (bnd (ret v_law_one_1) fun d4 => bnd (ret []) fun ds5 => ret (d4 :: ds5)) m_law_is_number) truB) notB) (orB (bnd (ret v_law_one_1) fun x2 => bnd (ret (.int 0)) fun x3 => cmpB .Lt x2 x3))) fun k6 => iteM k6 (bnd (ret v_law_one_1) someM) (ret none)) ds7 []) lsM) fun x8 => bnd (bnd (ret []) mkL) fun x9 => cmpB .NotEq x8 x9))) fun b16 => iteM b16 (bnd (ret (.str "shares")) rtM) (bnd (bnd (bnd (bnd (ret v_law_shares_here) fun d17 => bnd (ret []) fun ds18 => ret (d17 :: ds18)) sumQ) fun x19 => bnd (ret (.int 0)) fun x20 => cmpB .Eq x19 x20) fun b21 => iteM b21 (bnd (ret (.str "shares")) rtM) (bnd (bnd (ret v_law_lists) seqM) fun ds23 => seqF (forF (fun v_law_row (s22 : Unit) => (bnd (bnd (bnd (bnd (ret (.int 1)) fun x33 => bnd (bnd (bnd (ret v_law_row) fun d31 => bnd (ret []) fun ds32 => ret (d31 :: ds32)) lenM) fun x34 => bnd (cmpB .LtE x33 x34) (chainB .LtE x34 (ret (.int 5)))) notB) (orB (bnd (bnd (bnd (ret v_law_row) seqM) fun ds28 => bnd (compM (fun v_law_one_24 => bnd (bnd (bnd (bnd (bnd (ret v_law_one_24) fun d25 => bnd (ret []) fun ds26 => ret (d25 :: ds26)) m_law_is_ratio) truB) notB) fun k27 => iteM k27 (bnd (ret v_law_one_24) someM) (ret none)) ds28 []) lsM) fun x29 => bnd (bnd (ret []) mkL) fun x30 => cmpB .NotEq x29 x30))) fun b35 => iteM b35 (bnd (ret (.str "division")) rtM) (ret (.nx (()))))) ds23 (())) fun (s22 : Unit) => (bnd (bnd (bnd (bnd (ret v_law_lists) seqM) fun ds46 => bnd (compM (fun v_law_row_36 => bnd (bnd (bnd (bnd (ret v_law_row_36) fun d37 => bnd (ret []) fun ds38 => ret (d37 :: ds38)) lenM) fun x43 => bnd (bnd (bnd (bnd (ret v_law_lists) fun x39 => bnd (ret (.int 0)) fun x40 => ixM x39 x40) fun d41 => bnd (ret []) fun ds42 => ret (d41 :: ds42)) lenM) fun x44 => cmpB .NotEq x43 x44) fun k45 => iteM k45 (bnd (ret v_law_row_36) someM) (ret none)) ds46 []) lsM) fun x47 => bnd (bnd (ret []) mkL) fun x48 => cmpB .NotEq x47 x48) fun b49 => iteM b49 (bnd (ret (.str "mismatch")) rtM) (bnd (bnd (ret []) newL) fun v_law_found => (bnd (bnd (bnd (bnd (bnd (ret v_law_lists) fun x51 => bnd (ret (.int 0)) fun x52 => ixM x51 x52) fun d53 => bnd (ret []) fun ds54 => ret (d53 :: ds54)) lenM) rngM) fun ds55 => seqF (forF (fun v_law_at (s50 : Unit) => (bnd (bnd (bnd (ret (.int 0)) fun d58 => bnd (bnd (ret (.int 1)) fun d56 => bnd (ret []) fun ds57 => ret (d56 :: ds57)) fun ds59 => ret (d58 :: ds59)) mkT) fun v_law_total_here => (bnd (bnd (bnd (bnd (ret v_law_lists) fun d61 => bnd (ret []) fun ds62 => ret (d61 :: ds62)) lenM) rngM) fun ds63 => seqF (forF (fun v_law_k (s60 : D × Option D × Option D × Option D) => (bnd (bnd (ret v_law_lists) fun x64 => bnd (ret v_law_k) fun x65 => ixM x64 x65) fun v_law_one => (bnd (bnd (ret v_law_one) fun x66 => bnd (ret v_law_at) fun x67 => ixM x66 x67) fun d68 => ut2 d68 fun v_law_top v_law_bottom => (bnd (bnd (bnd (ret s60.1) fun d83 => bnd (bnd (bnd (bnd (bnd (ret v_law_top) fun x71 => bnd (bnd (ret v_law_shares_here) fun x69 => bnd (ret v_law_k) fun x70 => ixM x69 x70) fun x72 => binM .Mult x71 x72) fun d79 => bnd (bnd (bnd (ret v_law_bottom) fun x75 => bnd (bnd (bnd (ret v_law_shares_here) fun d73 => bnd (ret []) fun ds74 => ret (d73 :: ds74)) sumQ) fun x76 => binM .Mult x75 x76) fun d77 => bnd (ret []) fun ds78 => ret (d77 :: ds78)) fun ds80 => ret (d79 :: ds80)) m_law_ratio) fun d81 => bnd (ret []) fun ds82 => ret (d81 :: ds82)) fun ds84 => ret (d83 :: ds84)) m_law_plus) fun v_law_total_here => (ret (.nx ((v_law_total_here, (some v_law_one), (some v_law_top), (some v_law_bottom))))))))) ds63 ((v_law_total_here, none, none, none))) fun (s60 : D × Option D × Option D × Option D) => (bnd (gotM s60.2.1) fun v_law_one => (bnd (gotM s60.2.2.1) fun v_law_top => (bnd (gotM s60.2.2.2) fun v_law_bottom => (bnd (bnd (ret v_law_found) fun u85 => bnd (chkL u85) fun _ => bnd (ret s60.1) fun y86 => appM u85 y86) fun _ => (ret (.nx (())))))))))) ds55 (())) fun (s50 : Unit) => (bnd (ret v_law_found) rtM)))))))
def m_law_due : SpX := sp2 fun v_law_lists v_law_shares_here => fnK (b_law_due v_law_lists v_law_shares_here)
theorem ok_law_due {P : Program} {w : World} {K : PySem.W.Frag} {mg : Str → Option Value} {base : Heap} {k : Nat} {f : Addr} {fd : FuncData} {dvs : List V} (F : FnD K "_law_due" "_law_due" s_law_due dvs f fd) (hk : 3 ≤ k) (m_len : mg "len" = none) (m_range : mg "range" = none) (m_sum : mg "sum" = none) (h_law_is_number : KnowsX P w K mg base k "_law_is_number" 1 [] m_law_is_number) (h_law_is_ratio : KnowsX P w K mg base k "_law_is_ratio" 1 [] m_law_is_ratio) (h_law_plus : KnowsX P w K mg base k "_law_plus" 2 [] m_law_plus) (h_law_ratio : KnowsX P w K mg base k "_law_ratio" 2 [] m_law_ratio) : FnOk P w K mg base (L2.CX P w) (k + 1) f fd ["_law_lists", "_law_shares_here"] (liftX K mg m_law_due) :=
  fk2 F sc_law_due fun cdv A outer s H E Z hr v_law_lists v_law_shares_here => by
    have hu := hr.units
    exact (bf_ifX (tv_w (wv_or (tv_cmp hu (ev_blt m_len bt_len lenM_ok (eva_cons (ev_var (.there .here)) eva_nil)) (ev_blt m_len bt_len lenM_ok (eva_cons (ev_var .here) eva_nil))) (wv_or1 (tv_cmp hu (ev_lc (.there (.there .here)) (iv_seq (ev_var (.there .here))) (cv1 (fun _ => (.there (.there .here))) (fun v_law_one_1 s0 H0 C0 cl0 fp0 => (tv_w (wv_or (tv_not (tv_val (ev_call h_law_is_number (hr.mono (by omega)) (eva_cons (ev_var (.there (.there .here))) eva_nil)))) (wv_or1 (tv_cmp hu (ev_var (.there (.there .here))) ev_int))))) (fun v_law_one_1 s0 H0 C0 cl0 fp0 => (ev_var (.there (.there .here)))))) (ev_lst eva_nil))))) (bf_ret ev_str) (bf_ifX (tv_cmp hu (ev_blt m_sum bt_sum sumQ_ok (eva_cons (ev_var (.there .here)) eva_nil)) ev_int) (bf_ret ev_str) (bf_for (e1 := (fun (s22 : Unit) => [("_law_lists", some v_law_lists), ("_law_shares_here", some v_law_shares_here), ("_law_one", none), ("_law_row", none), ("_law_found", none), ("_law_at", none), ("_law_total_here", none), ("_law_k", none), ("_law_top", none), ("_law_bottom", none)])) (iv_seq (ev_var .here)) (.same (.same (.same (.same (.same (.same (.same (.same (.same (.same .nil)))))))))) (fun v_law_row s22 => bg_name (.there (.there (.there .here))) (bf_ifX (tv_w (wv_or (tv_not (tv_chain hu ev_int (ev_blt m_len bt_len lenM_ok (eva_cons (ev_var (.there (.there (.there .here)))) eva_nil)) ev_int)) (wv_or1 (tv_cmp hu (ev_lc (.there (.there .here)) (iv_seq (ev_var (.there (.there (.there .here))))) (cv1 (fun _ => (.there (.there .here))) (fun v_law_one_24 s0 H0 C0 cl0 fp0 => (tv_not (tv_val (ev_call h_law_is_ratio (hr.mono (by omega)) (eva_cons (ev_var (.there (.there .here))) eva_nil))))) (fun v_law_one_24 s0 H0 C0 cl0 fp0 => (ev_var (.there (.there .here)))))) (ev_lst eva_nil))))) (bf_ret ev_str) (bf_nil (l := (.same (.same (.same (.drop (.same (.same (.same (.same (.same (.same .nil)))))))))))))) (fun s22 => (bf_ifX (tv_cmp hu (ev_lc (.there (.there (.there .here))) (iv_seq (ev_var .here)) (cv1 (fun _ => (.there (.there (.there .here)))) (fun v_law_row_36 s0 H0 C0 cl0 fp0 => (tv_cmp hu (ev_blt m_len bt_len lenM_ok (eva_cons (ev_var (.there (.there (.there .here)))) eva_nil)) (ev_blt m_len bt_len lenM_ok (eva_cons (ev_ix hu (ev_var .here) ev_int) eva_nil)))) (fun v_law_row_36 s0 H0 C0 cl0 fp0 => (ev_var (.there (.there (.there .here))))))) (ev_lst eva_nil)) (bf_ret ev_str) (bf_set (ev_lstM eva_nil) (fun _ => (.there (.there (.there (.there .here))))) (fun v_law_found => (bf_for (e1 := (fun (s50 : Unit) => [("_law_lists", some v_law_lists), ("_law_shares_here", some v_law_shares_here), ("_law_one", none), ("_law_row", none), ("_law_found", some v_law_found), ("_law_at", none), ("_law_total_here", none), ("_law_k", none), ("_law_top", none), ("_law_bottom", none)])) (iv_range1 m_range (ev_blt m_len bt_len lenM_ok (eva_cons (ev_ix hu (ev_var .here) ev_int) eva_nil))) (.same (.same (.same (.same (.same (.same (.same (.same (.same (.same .nil)))))))))) (fun v_law_at s50 => bg_name (.there (.there (.there (.there (.there .here))))) (bf_set (ev_tup (eva_cons ev_int (eva_cons ev_int eva_nil))) (fun _ => (.there (.there (.there (.there (.there (.there .here))))))) (fun v_law_total_here => (bf_for (e1 := (fun (s60 : D × Option D × Option D × Option D) => [("_law_lists", some v_law_lists), ("_law_shares_here", some v_law_shares_here), ("_law_one", s60.2.1), ("_law_row", none), ("_law_found", some v_law_found), ("_law_at", some v_law_at), ("_law_total_here", some s60.1), ("_law_k", none), ("_law_top", s60.2.2.1), ("_law_bottom", s60.2.2.2)])) (iv_range1 m_range (ev_blt m_len bt_len lenM_ok (eva_cons (ev_var .here) eva_nil))) (.same (.same (.same (.same (.same (.same (.same (.same (.same (.same .nil)))))))))) (fun v_law_k s60 => bg_name (.there (.there (.there (.there (.there (.there (.there .here))))))) (bf_set (ev_ix hu (ev_var .here) (ev_var (.there (.there (.there (.there (.there (.there (.there .here))))))))) (fun _ => (.there (.there .here))) (fun v_law_one => (bf_asg (ev_ix hu (ev_var (.there (.there .here))) (ev_var (.there (.there (.there (.there (.there .here))))))) (fun d68 => bg_tup2 (fun _ => (.there (.there (.there (.there (.there (.there (.there (.there .here))))))))) (fun _ _ => (.there (.there (.there (.there (.there (.there (.there (.there (.there .here)))))))))) (fun v_law_top v_law_bottom => (bf_set (ev_call h_law_plus (hr.mono (by omega)) (eva_cons (ev_var (.there (.there (.there (.there (.there (.there .here))))))) (eva_cons (ev_call h_law_ratio (hr.mono (by omega)) (eva_cons (ev_bin (ev_var (.there (.there (.there (.there (.there (.there (.there (.there .here))))))))) (ev_ix hu (ev_var (.there .here)) (ev_var (.there (.there (.there (.there (.there (.there (.there .here)))))))))) (eva_cons (ev_bin (ev_var (.there (.there (.there (.there (.there (.there (.there (.there (.there .here)))))))))) (ev_blt m_sum bt_sum sumQ_ok (eva_cons (ev_var (.there .here)) eva_nil))) eva_nil))) eva_nil))) (fun _ => (.there (.there (.there (.there (.there (.there .here))))))) (fun v_law_total_here => (bf_nil (l := (.same (.same (.same (.same (.same (.same (.same (.drop (.same (.same .nil)))))))))))))))))))) (fun s60 => (bf_got (e := fun (o : Option D) => [("_law_lists", some v_law_lists), ("_law_shares_here", some v_law_shares_here), ("_law_one", o), ("_law_row", none), ("_law_found", some v_law_found), ("_law_at", some v_law_at), ("_law_total_here", some s60.1), ("_law_k", none), ("_law_top", s60.2.2.1), ("_law_bottom", s60.2.2.2)]) (fun v_law_one => (bf_got (e := fun (o : Option D) => [("_law_lists", some v_law_lists), ("_law_shares_here", some v_law_shares_here), ("_law_one", some v_law_one), ("_law_row", none), ("_law_found", some v_law_found), ("_law_at", some v_law_at), ("_law_total_here", some s60.1), ("_law_k", none), ("_law_top", o), ("_law_bottom", s60.2.2.2)]) (fun v_law_top => (bf_got (e := fun (o : Option D) => [("_law_lists", some v_law_lists), ("_law_shares_here", some v_law_shares_here), ("_law_one", some v_law_one), ("_law_row", none), ("_law_found", some v_law_found), ("_law_at", some v_law_at), ("_law_total_here", some s60.1), ("_law_k", none), ("_law_top", some v_law_top), ("_law_bottom", o)]) (fun v_law_bottom => (bf_expr (ev_append (ev_var (.there (.there (.there (.there .here))))) (ev_var (.there (.there (.there (.there (.there (.there .here)))))))) (bf_nil (l := (.same (.same (.drop (.same (.same (.drop (.drop (.same (.drop (.drop .nil)))))))))))))))))))))))) (fun s50 => (bf_ret (ev_var (.there (.there (.there (.there .here)))))))))))))))
abbrev s_is_integer : Stmt := topS 7
theorem sc_is_integer : FnScope ["value"] ["value"] (defScope s_is_integer) := ⟨rfl, rfl, rfl, by decide +kernel, rfl, by decide +kernel, by decide +kernel⟩
def b_is_integer (v_value : D) : M (Fl Unit Empty) := (bnd (bnd (bnd (bnd (ret v_value) fun d8 => bnd (bnd (ret (.ty "int")) fun d6 => bnd (ret []) fun ds7 => ret (d6 :: ds7)) fun ds9 => ret (d8 :: ds9)) (isiO [])) (andM (bnd (bnd (bnd (ret v_value) fun d3 => bnd (bnd (ret (.ty "bool")) fun d1 => bnd (ret []) fun ds2 => ret (d1 :: ds2)) fun ds4 => ret (d3 :: ds4)) (isiO [])) notM))) rtM)
def m_is_integer : SpX := sp1 fun v_value => fnM (b_is_integer v_value)
theorem ok_is_integer {P : Program} {w : World} {K : PySem.W.Frag} {mg : Str → Option Value} {base : Heap} {k : Nat} {f : Addr} {fd : FuncData} {dvs : List V} (F : FnD K "is_integer" "is_integer" s_is_integer dvs f fd) (hk : 0 ≤ k) (m_bool : mg "bool" = none) (m_int : mg "int" = none) (m_isinstance : mg "isinstance" = none) : FnOk P w K mg base (L2.CX P w) (k + 1) f fd ["value"] (liftX K mg m_is_integer) :=
  fn1 F sc_is_integer fun cdv A outer s H E Z hr v_value => by
    have hu := hr.units
    exact (bf_ret (ev_and (ev_blt m_isinstance bt_isinstance (isiO_ok (by intro cn h; simp at h)) (eva_cons (ev_var .here) (eva_cons (ev_ty m_int bt_int) eva_nil))) (ev_one (ev_not (ev_blt m_isinstance bt_isinstance (isiO_ok (by intro cn h; simp at h)) (eva_cons (ev_var .here) (eva_cons (ev_ty m_bool bt_bool) eva_nil)))))))
abbrev s_are_integers : Stmt := topS 8
theorem sc_are_integers : FnScope ["value", "item"] ["value"] (defScope s_are_integers) := ⟨rfl, rfl, rfl, by decide +kernel, rfl, by decide +kernel, by decide +kernel⟩
def b_are_integers (v_value : D) : M (Fl Unit Empty) := (bnd (bnd (bnd (bnd (ret v_value) fun d13 => bnd (bnd (bnd (bnd (ret (.ty "list")) fun d9 => bnd (bnd (ret (.ty "tuple")) fun d7 => bnd (ret []) fun ds8 => ret (d7 :: ds8)) fun ds10 => ret (d9 :: ds10)) mkT) fun d11 => bnd (ret []) fun ds12 => ret (d11 :: ds12)) fun ds14 => ret (d13 :: ds14)) (isiO [])) (andM (bnd (bnd (bnd (bnd (ret v_value) seqM) fun ds4 => bnd (compM (fun v_item_1 => bnd (bnd (bnd (ret v_item_1) fun d2 => bnd (ret []) fun ds3 => ret (d2 :: ds3)) m_is_integer) someM) ds4 []) lsM) fun d5 => bnd (ret []) fun ds6 => ret (d5 :: ds6)) allM))) rtM)
def m_are_integers : SpX := sp1 fun v_value => fnM (b_are_integers v_value)
theorem ok_are_integers {P : Program} {w : World} {K : PySem.W.Frag} {mg : Str → Option Value} {base : Heap} {k : Nat} {f : Addr} {fd : FuncData} {dvs : List V} (F : FnD K "are_integers" "are_integers" s_are_integers dvs f fd) (hk : 1 ≤ k) (m_all : mg "all" = none) (m_isinstance : mg "isinstance" = none) (m_list : mg "list" = none) (m_tuple : mg "tuple" = none) (h_is_integer : KnowsX P w K mg base k "is_integer" 1 [] m_is_integer) : FnOk P w K mg base (L2.CX P w) (k + 1) f fd ["value"] (liftX K mg m_are_integers) :=
  fn1 F sc_are_integers fun cdv A outer s H E Z hr v_value => by
    have hu := hr.units
    exact (bf_ret (ev_and (ev_blt m_isinstance bt_isinstance (isiO_ok (by intro cn h; simp at h)) (eva_cons (ev_var .here) (eva_cons (ev_tup (eva_cons (ev_ty m_list bt_list) (eva_cons (ev_ty m_tuple bt_tuple) eva_nil))) eva_nil))) (ev_one (ev_blt m_all bt_all (allM_ok rfl) (eva_cons (ev_lc (.there .here) (iv_seq (ev_var .here)) (cv0 (fun _ => (.there .here)) (fun v_item_1 s0 H0 C0 cl0 fp0 => (ev_call h_is_integer (hr.mono (by omega)) (eva_cons (ev_var (.there .here)) eva_nil))))) eva_nil)))))
abbrev s_are_shares : Stmt := topS 18
theorem sc_are_shares : FnScope ["value", "count", "item"] ["value", "count"] (defScope s_are_shares) := ⟨rfl, rfl, rfl, by decide +kernel, rfl, by decide +kernel, by decide +kernel⟩
def b_are_shares (v_value : D) (v_count : D) : M (Fl Unit Empty) := (bnd (bnd (bnd (bnd (ret v_value) fun d15 => bnd (ret []) fun ds16 => ret (d15 :: ds16)) m_are_integers) (andM (bnd (bnd (bnd (bnd (ret v_value) fun d11 => bnd (ret []) fun ds12 => ret (d11 :: ds12)) lenM) fun x13 => bnd (ret v_count) fun x14 => cmpM .Eq x13 x14) (andM (bnd (bnd (bnd (bnd (bnd (ret v_value) seqM) fun ds8 => bnd (compM (fun v_item_5 => bnd (bnd (ret v_item_5) fun x6 => bnd (ret (.int 0)) fun x7 => cmpM .GtE x6 x7) someM) ds8 []) lsM) fun d9 => bnd (ret []) fun ds10 => ret (d9 :: ds10)) allM) (andM (bnd (bnd (bnd (ret v_value) fun d1 => bnd (ret []) fun ds2 => ret (d1 :: ds2)) sumQ) fun x3 => bnd (ret (.int 0)) fun x4 => cmpM .Gt x3 x4))))))) rtM)
def m_are_shares : SpX := sp2 fun v_value v_count => fnM (b_are_shares v_value v_count)
theorem ok_are_shares {P : Program} {w : World} {K : PySem.W.Frag} {mg : Str → Option Value} {base : Heap} {k : Nat} {f : Addr} {fd : FuncData} {dvs : List V} (F : FnD K "are_shares" "are_shares" s_are_shares dvs f fd) (hk : 2 ≤ k) (m_all : mg "all" = none) (m_len : mg "len" = none) (m_sum : mg "sum" = none) (h_are_integers : KnowsX P w K mg base k "are_integers" 1 [] m_are_integers) : FnOk P w K mg base (L2.CX P w) (k + 1) f fd ["value", "count"] (liftX K mg m_are_shares) :=
  fn2 F sc_are_shares fun cdv A outer s H E Z hr v_value v_count => by
    have hu := hr.units
    exact (bf_ret (ev_and (ev_call h_are_integers (hr.mono (by omega)) (eva_cons (ev_var .here) eva_nil)) (ev_and (ev_cmp hu (ev_blt m_len bt_len lenM_ok (eva_cons (ev_var .here) eva_nil)) (ev_var (.there .here))) (ev_and (ev_blt m_all bt_all (allM_ok rfl) (eva_cons (ev_lc (.there (.there .here)) (iv_seq (ev_var .here)) (cv0 (fun _ => (.there (.there .here))) (fun v_item_5 s0 H0 C0 cl0 fp0 => (ev_cmp hu (ev_var (.there (.there .here))) ev_int)))) eva_nil)) (ev_one (ev_cmp hu (ev_blt m_sum bt_sum sumQ_ok (eva_cons (ev_var .here) eva_nil)) ev_int))))))
abbrev s_divisor : Stmt := topS 9
theorem sc_divisor : FnScope ["numbers", "found", "number", "one", "other"] ["numbers"] (defScope s_divisor) := ⟨rfl, rfl, rfl, by decide +kernel, rfl, by decide +kernel, by decide +kernel⟩
def b_divisor (v_numbers : D) : M (Fl Unit Empty) := (bnd (ret (.int 0)) fun v_found => (bnd (bnd (ret v_numbers) seqM) fun ds2 => seqF (forF (fun v_number (s1 : D) => (bnd (bnd (bnd (ret v_number) fun d3 => bnd (ret []) fun ds4 => ret (d3 :: ds4)) absM) fun v_one_5 => bnd (ret s1) fun v_other_6 => (seqF (whileF (fun (s7 : D × D) => (bnd (ret s7.2) truB)) (fun (s7 : D × D) => (bnd (ret s7.2) fun v_one_10 => bnd (bnd (ret s7.1) fun x8 => bnd (ret s7.2) fun x9 => binM .Mod x8 x9) fun v_other_11 => (ret (.nx ((v_one_10, v_other_11)))))) ((v_one_5, v_other_6))) fun (s7 : D × D) => (bnd (ret s7.1) fun v_found => (ret (.nx v_found)))))) ds2 v_found) fun (s1 : D) => (bnd (ret s1) rtM)))
def m_divisor : SpX := sp1 fun v_numbers => fnM (b_divisor v_numbers)
theorem ok_divisor {P : Program} {w : World} {K : PySem.W.Frag} {mg : Str → Option Value} {base : Heap} {k : Nat} {f : Addr} {fd : FuncData} {dvs : List V} (F : FnD K "divisor" "divisor" s_divisor dvs f fd) (hk : 0 ≤ k) (m_abs : mg "abs" = none) : FnOk P w K mg base (L2.CX P w) (k + 1) f fd ["numbers"] (liftX K mg m_divisor) :=
  fn1 F sc_divisor fun cdv A outer s H E Z hr v_numbers => by
    have hu := hr.units
    exact (bf_set ev_int (fun _ => (.there .here)) (fun v_found => (bf_for (e1 := (fun (s1 : D) => [("numbers", some v_numbers), ("found", some s1), ("number", none), ("one", none), ("other", none)])) (iv_seq (ev_var .here)) (.same (.same (.same (.same (.same .nil))))) (fun v_number s1 => bg_name (.there (.there .here)) (bf_par (ev_blt m_abs bt_abs absM_ok (eva_cons (ev_var (.there (.there .here))) eva_nil)) (ev_var (.there .here)) (fun _ => (.there (.there (.there .here)))) (fun _ _ => (.there (.there (.there (.there .here))))) (by decide) (fun v_one_5 v_other_6 => (bf_while (e1 := (fun (s7 : D × D) => [("numbers", some v_numbers), ("found", some s1), ("number", some v_number), ("one", some s7.1), ("other", some s7.2)])) (fun s7 => (tv_val (ev_var (.there (.there (.there (.there .here))))))) (.same (.same (.same (.same (.same .nil))))) (fun s7 => (bf_par (ev_var (.there (.there (.there (.there .here))))) (ev_bin (ev_var (.there (.there (.there .here)))) (ev_var (.there (.there (.there (.there .here)))))) (fun _ => (.there (.there (.there .here)))) (fun _ _ => (.there (.there (.there (.there .here))))) (by decide) (fun v_one_10 v_other_11 => (bf_nil (l := (.same (.same (.same (.same (.same .nil)))))))))) (fun s7 => (bf_set (ev_var (.there (.there (.there .here)))) (fun _ => (.there .here)) (fun v_found => (bf_nil (l := (.same (.same (.drop (.drop (.drop .nil)))))))))))))) (fun s1 => (bf_ret (ev_var (.there .here)))))))
abbrev s_ratio : Stmt := topS 10
theorem sc_ratio : FnScope ["top", "bottom", "part"] ["top", "bottom"] (defScope s_ratio) := ⟨rfl, rfl, rfl, by decide +kernel, rfl, by decide +kernel, by decide +kernel⟩
def b_ratio (v_top : D) (v_bottom : D) : M (Fl Unit Empty) := (bnd (bnd (ret v_bottom) fun x1 => bnd (ret (.int 0)) fun x2 => cmpB .Eq x1 x2) fun b3 => iteM b3 (bnd (ret v_bottom) fun d4 => raiM "BadRatio" (some ("bottom", d4))) (bnd (bnd (bnd (bnd (bnd (ret v_top) fun d7 => bnd (bnd (ret v_bottom) fun d5 => bnd (ret []) fun ds6 => ret (d5 :: ds6)) fun ds8 => ret (d7 :: ds8)) mkL) fun d9 => bnd (ret []) fun ds10 => ret (d9 :: ds10)) m_divisor) fun v_part => (seqF (bnd (bnd (ret v_bottom) fun x11 => bnd (ret (.int 0)) fun x12 => cmpB .Lt x11 x12) fun b13 => iteM b13 (bnd (bnd (ret v_part) fun x15 => unM .USub x15) fun v_part => (ret (.nx v_part))) (ret (.nx v_part))) fun (s14 : D) => (bnd (bnd (bnd (bnd (ret v_top) fun x16 => bnd (ret s14) fun x17 => binM .FloorDiv x16 x17) fun d22 => bnd (bnd (bnd (ret v_bottom) fun x18 => bnd (ret s14) fun x19 => binM .FloorDiv x18 x19) fun d20 => bnd (ret []) fun ds21 => ret (d20 :: ds21)) fun ds23 => ret (d22 :: ds23)) mkT) rtM))))
def m_ratio : SpX := sp2 fun v_top v_bottom => fnM (b_ratio v_top v_bottom)
theorem ok_ratio {P : Program} {w : World} {K : PySem.W.Frag} {mg : Str → Option Value} {base : Heap} {k : Nat} {f : Addr} {fd : FuncData} {dvs : List V} (F : FnD K "ratio" "ratio" s_ratio dvs f fd) (hk : 1 ≤ k) (h_divisor : KnowsX P w K mg base k "divisor" 1 [] m_divisor) {C_BadRatio : Addr} (x_BadRatio : XK1 P w K mg "BadRatio" "bottom" C_BadRatio) : FnOk P w K mg base (L2.CX P w) (k + 1) f fd ["top", "bottom"] (liftX K mg m_ratio) :=
  fn2 F sc_ratio fun cdv A outer s H E Z hr v_top v_bottom => by
    have hu := hr.units
    exact (bf_ifX (tv_cmp hu (ev_var (.there .here)) ev_int) (bf_raise1 x_BadRatio (hr.mono (by omega)) (ev_var (.there .here))) (bf_set (ev_call h_divisor (hr.mono (by omega)) (eva_cons (ev_lst (eva_cons (ev_var .here) (eva_cons (ev_var (.there .here)) eva_nil))) eva_nil)) (fun _ => (.there (.there .here))) (fun v_part => (bf_if (e1 := (fun (s14 : D) => [("top", some v_top), ("bottom", some v_bottom), ("part", some s14)])) (tv_cmp hu (ev_var (.there .here)) ev_int) (bf_set (ev_un (ev_var (.there (.there .here)))) (fun _ => (.there (.there .here))) (fun v_part => (bf_nil (l := (.same (.same (.same .nil))))))) (bf_nil (l := (.same (.same (.same .nil))))) (fun s14 => (bf_ret (ev_tup (eva_cons (ev_bin (ev_var .here) (ev_var (.there (.there .here)))) (eva_cons (ev_bin (ev_var (.there .here)) (ev_var (.there (.there .here)))) eva_nil)))))))))
abbrev s_plus : Stmt := topS 11
theorem sc_plus : FnScope ["one", "other"] ["one", "other"] (defScope s_plus) := ⟨rfl, rfl, rfl, by decide +kernel, rfl, by decide +kernel, by decide +kernel⟩
def b_plus (v_one : D) (v_other : D) : M (Fl Unit Empty) := (bnd (bnd (bnd (bnd (bnd (bnd (ret v_one) fun x1 => bnd (ret (.int 0)) fun x2 => ixM x1 x2) fun x5 => bnd (bnd (ret v_other) fun x3 => bnd (ret (.int 1)) fun x4 => ixM x3 x4) fun x6 => binM .Mult x5 x6) fun x13 => bnd (bnd (bnd (ret v_other) fun x7 => bnd (ret (.int 0)) fun x8 => ixM x7 x8) fun x11 => bnd (bnd (ret v_one) fun x9 => bnd (ret (.int 1)) fun x10 => ixM x9 x10) fun x12 => binM .Mult x11 x12) fun x14 => binM .Add x13 x14) fun d23 => bnd (bnd (bnd (bnd (ret v_one) fun x15 => bnd (ret (.int 1)) fun x16 => ixM x15 x16) fun x19 => bnd (bnd (ret v_other) fun x17 => bnd (ret (.int 1)) fun x18 => ixM x17 x18) fun x20 => binM .Mult x19 x20) fun d21 => bnd (ret []) fun ds22 => ret (d21 :: ds22)) fun ds24 => ret (d23 :: ds24)) m_ratio) rtM)
def m_plus : SpX := sp2 fun v_one v_other => fnM (b_plus v_one v_other)
theorem ok_plus {P : Program} {w : World} {K : PySem.W.Frag} {mg : Str → Option Value} {base : Heap} {k : Nat} {f : Addr} {fd : FuncData} {dvs : List V} (F : FnD K "plus" "plus" s_plus dvs f fd) (hk : 2 ≤ k) (h_ratio : KnowsX P w K mg base k "ratio" 2 [] m_ratio) : FnOk P w K mg base (L2.CX P w) (k + 1) f fd ["one", "other"] (liftX K mg m_plus) :=
  fn2 F sc_plus fun cdv A outer s H E Z hr v_one v_other => by
    have hu := hr.units
    exact (bf_ret (ev_call h_ratio (hr.mono (by omega)) (eva_cons (ev_bin (ev_bin (ev_ix hu (ev_var .here) ev_int) (ev_ix hu (ev_var (.there .here)) ev_int)) (ev_bin (ev_ix hu (ev_var (.there .here)) ev_int) (ev_ix hu (ev_var .here) ev_int))) (eva_cons (ev_bin (ev_ix hu (ev_var .here) ev_int) (ev_ix hu (ev_var (.there .here)) ev_int)) eva_nil))))
abbrev s_is_ratio : Stmt := topS 13
theorem sc_is_ratio : FnScope ["value"] ["value"] (defScope s_is_ratio) := ⟨rfl, rfl, rfl, by decide +kernel, rfl, by decide +kernel, by decide +kernel⟩
def b_is_ratio (v_value : D) : M (Fl Unit Empty) := (bnd (bnd (bnd (bnd (bnd (bnd (ret v_value) fun d9 => bnd (bnd (ret (.ty "tuple")) fun d7 => bnd (ret []) fun ds8 => ret (d7 :: ds8)) fun ds10 => ret (d9 :: ds10)) (isiO [])) truB) notB) (orB (bnd (bnd (bnd (bnd (ret v_value) fun d3 => bnd (ret []) fun ds4 => ret (d3 :: ds4)) lenM) fun x5 => bnd (ret (.int 2)) fun x6 => cmpB .NotEq x5 x6) (orB (bnd (bnd (bnd (bnd (ret v_value) fun d1 => bnd (ret []) fun ds2 => ret (d1 :: ds2)) m_are_integers) truB) notB))))) fun b11 => iteM b11 (bnd (ret (.bl false)) rtM) (bnd (bnd (bnd (bnd (ret v_value) fun x16 => bnd (ret (.int 1)) fun x17 => ixM x16 x17) fun x18 => bnd (ret (.int 1)) fun x19 => cmpM .GtE x18 x19) (andM (bnd (bnd (bnd (ret v_value) fun d12 => bnd (ret []) fun ds13 => ret (d12 :: ds13)) m_divisor) fun x14 => bnd (ret (.int 1)) fun x15 => cmpM .Eq x14 x15))) rtM))
def m_is_ratio : SpX := sp1 fun v_value => fnM (b_is_ratio v_value)
theorem ok_is_ratio {P : Program} {w : World} {K : PySem.W.Frag} {mg : Str → Option Value} {base : Heap} {k : Nat} {f : Addr} {fd : FuncData} {dvs : List V} (F : FnD K "is_ratio" "is_ratio" s_is_ratio dvs f fd) (hk : 2 ≤ k) (m_isinstance : mg "isinstance" = none) (m_len : mg "len" = none) (m_tuple : mg "tuple" = none) (h_are_integers : KnowsX P w K mg base k "are_integers" 1 [] m_are_integers) (h_divisor : KnowsX P w K mg base k "divisor" 1 [] m_divisor) : FnOk P w K mg base (L2.CX P w) (k + 1) f fd ["value"] (liftX K mg m_is_ratio) :=
  fn1 F sc_is_ratio fun cdv A outer s H E Z hr v_value => by
    have hu := hr.units
    exact (bf_ifX (tv_w (wv_or (tv_not (tv_val (ev_blt m_isinstance bt_isinstance (isiO_ok (by intro cn h; simp at h)) (eva_cons (ev_var .here) (eva_cons (ev_ty m_tuple bt_tuple) eva_nil))))) (wv_or (tv_cmp hu (ev_blt m_len bt_len lenM_ok (eva_cons (ev_var .here) eva_nil)) ev_int) (wv_or1 (tv_not (tv_val (ev_call h_are_integers (hr.mono (by omega)) (eva_cons (ev_var .here) eva_nil)))))))) (bf_ret ev_bl) (bf_ret (ev_and (ev_cmp hu (ev_ix hu (ev_var .here) ev_int) ev_int) (ev_one (ev_cmp hu (ev_call h_divisor (hr.mono (by omega)) (eva_cons (ev_var .here) eva_nil)) ev_int)))))
abbrev s_are_ratios : Stmt := topS 17
theorem sc_are_ratios : FnScope ["value", "item"] ["value"] (defScope s_are_ratios) := ⟨rfl, rfl, rfl, by decide +kernel, rfl, by decide +kernel, by decide +kernel⟩
def b_are_ratios (v_value : D) : M (Fl Unit Empty) := (bnd (bnd (bnd (bnd (bnd (bnd (ret v_value) fun d11 => bnd (bnd (bnd (bnd (ret (.ty "list")) fun d7 => bnd (bnd (ret (.ty "tuple")) fun d5 => bnd (ret []) fun ds6 => ret (d5 :: ds6)) fun ds8 => ret (d7 :: ds8)) mkT) fun d9 => bnd (ret []) fun ds10 => ret (d9 :: ds10)) fun ds12 => ret (d11 :: ds12)) (isiO [])) truB) notB) (orB (bnd (bnd (ret (.int 1)) fun x3 => bnd (bnd (bnd (ret v_value) fun d1 => bnd (ret []) fun ds2 => ret (d1 :: ds2)) lenM) fun x4 => bnd (cmpB .LtE x3 x4) (chainB .LtE x4 (ret g_MOST_PLAYERS))) notB))) fun b13 => iteM b13 (bnd (ret (.bl false)) rtM) (bnd (bnd (bnd (bnd (bnd (ret v_value) seqM) fun ds17 => bnd (compM (fun v_item_14 => bnd (bnd (bnd (ret v_item_14) fun d15 => bnd (ret []) fun ds16 => ret (d15 :: ds16)) m_is_ratio) someM) ds17 []) lsM) fun d18 => bnd (ret []) fun ds19 => ret (d18 :: ds19)) allM) rtM))
def m_are_ratios : SpX := sp1 fun v_value => fnM (b_are_ratios v_value)
theorem ok_are_ratios {P : Program} {w : World} {K : PySem.W.Frag} {mg : Str → Option Value} {base : Heap} {k : Nat} {f : Addr} {fd : FuncData} {dvs : List V} (F : FnD K "are_ratios" "are_ratios" s_are_ratios dvs f fd) (hk : 3 ≤ k) (m_all : mg "all" = none) (m_isinstance : mg "isinstance" = none) (m_len : mg "len" = none) (m_list : mg "list" = none) (m_tuple : mg "tuple" = none) (h_is_ratio : KnowsX P w K mg base k "is_ratio" 1 [] m_is_ratio) (h_MOST_PLAYERS : GC K mg "MOST_PLAYERS" g_MOST_PLAYERS) : FnOk P w K mg base (L2.CX P w) (k + 1) f fd ["value"] (liftX K mg m_are_ratios) :=
  fn1 F sc_are_ratios fun cdv A outer s H E Z hr v_value => by
    have hu := hr.units
    exact (bf_ifX (tv_w (wv_or (tv_not (tv_val (ev_blt m_isinstance bt_isinstance (isiO_ok (by intro cn h; simp at h)) (eva_cons (ev_var .here) (eva_cons (ev_tup (eva_cons (ev_ty m_list bt_list) (eva_cons (ev_ty m_tuple bt_tuple) eva_nil))) eva_nil))))) (wv_or1 (tv_not (tv_chain hu ev_int (ev_blt m_len bt_len lenM_ok (eva_cons (ev_var .here) eva_nil)) (ev_glob h_MOST_PLAYERS)))))) (bf_ret ev_bl) (bf_ret (ev_blt m_all bt_all (allM_ok rfl) (eva_cons (ev_lc (.there .here) (iv_seq (ev_var .here)) (cv0 (fun _ => (.there .here)) (fun v_item_14 s0 H0 C0 cl0 fp0 => (ev_call h_is_ratio (hr.mono (by omega)) (eva_cons (ev_var (.there .here)) eva_nil))))) eva_nil))))
abbrev s_times : Stmt := topS 12
theorem sc_times : FnScope ["one", "other"] ["one", "other"] (defScope s_times) := ⟨rfl, rfl, rfl, by decide +kernel, rfl, by decide +kernel, by decide +kernel⟩
def b_times (v_one : D) (v_other : D) : M (Fl Unit Empty) := (bnd (bnd (bnd (bnd (bnd (ret v_one) fun x1 => bnd (ret (.int 0)) fun x2 => ixM x1 x2) fun x5 => bnd (bnd (ret v_other) fun x3 => bnd (ret (.int 0)) fun x4 => ixM x3 x4) fun x6 => binM .Mult x5 x6) fun d15 => bnd (bnd (bnd (bnd (ret v_one) fun x7 => bnd (ret (.int 1)) fun x8 => ixM x7 x8) fun x11 => bnd (bnd (ret v_other) fun x9 => bnd (ret (.int 1)) fun x10 => ixM x9 x10) fun x12 => binM .Mult x11 x12) fun d13 => bnd (ret []) fun ds14 => ret (d13 :: ds14)) fun ds16 => ret (d15 :: ds16)) m_ratio) rtM)
def m_times : SpX := sp2 fun v_one v_other => fnM (b_times v_one v_other)
theorem ok_times {P : Program} {w : World} {K : PySem.W.Frag} {mg : Str → Option Value} {base : Heap} {k : Nat} {f : Addr} {fd : FuncData} {dvs : List V} (F : FnD K "times" "times" s_times dvs f fd) (hk : 2 ≤ k) (h_ratio : KnowsX P w K mg base k "ratio" 2 [] m_ratio) : FnOk P w K mg base (L2.CX P w) (k + 1) f fd ["one", "other"] (liftX K mg m_times) :=
  fn2 F sc_times fun cdv A outer s H E Z hr v_one v_other => by
    have hu := hr.units
    exact (bf_ret (ev_call h_ratio (hr.mono (by omega)) (eva_cons (ev_bin (ev_ix hu (ev_var .here) ev_int) (ev_ix hu (ev_var (.there .here)) ev_int)) (eva_cons (ev_bin (ev_ix hu (ev_var .here) ev_int) (ev_ix hu (ev_var (.there .here)) ev_int)) eva_nil))))
abbrev s_blended : Stmt := topS 19
theorem sc_blended : FnScope ["divisions", "shares", "division", "found", "item", "share", "part", "one"] ["divisions", "shares"] (defScope s_blended) := ⟨rfl, rfl, rfl, by decide +kernel, rfl, by decide +kernel, by decide +kernel⟩
def b_blended (v_divisions : D) (v_shares : D) : M (Fl Unit Empty) := (bnd (bnd (bnd (bnd (bnd (ret v_shares) fun d5 => bnd (bnd (bnd (bnd (ret v_divisions) fun d1 => bnd (ret []) fun ds2 => ret (d1 :: ds2)) lenM) fun d3 => bnd (ret []) fun ds4 => ret (d3 :: ds4)) fun ds6 => ret (d5 :: ds6)) m_are_shares) truB) notB) fun b7 => iteM b7 (raiM "BadShares" none) (bnd (bnd (bnd (bnd (bnd (bnd (bnd (ret v_divisions) seqM) fun ds11 => bnd (compM (fun v_division_8 => bnd (bnd (bnd (ret v_division_8) fun d9 => bnd (ret []) fun ds10 => ret (d9 :: ds10)) m_are_ratios) someM) ds11 []) lsM) fun d12 => bnd (ret []) fun ds13 => ret (d12 :: ds13)) allM) truB) notB) fun b14 => iteM b14 (raiM "NotDivision" none) (bnd (bnd (bnd (bnd (bnd (bnd (ret v_divisions) seqM) fun ds24 => bnd (compM (fun v_division_15 => bnd (bnd (bnd (bnd (ret v_division_15) fun d16 => bnd (ret []) fun ds17 => ret (d16 :: ds17)) lenM) fun x22 => bnd (bnd (bnd (bnd (ret v_divisions) fun x18 => bnd (ret (.int 0)) fun x19 => ixM x18 x19) fun d20 => bnd (ret []) fun ds21 => ret (d20 :: ds21)) lenM) fun x23 => cmpM .NotEq x22 x23) someM) ds24 []) lsM) fun d25 => bnd (ret []) fun ds26 => ret (d25 :: ds26)) anyM) truB) fun b27 => iteM b27 (raiM "Mismatch" none) (bnd (bnd (bnd (bnd (ret v_divisions) fun x28 => bnd (ret (.int 0)) fun x29 => ixM x28 x29) seqM) fun ds31 => bnd (compM (fun v_item_30 => bnd (ret g_NOTHING) someM) ds31 []) lsMM) fun v_found => (bnd (bnd (ret v_divisions) fun x33 => bnd (ret v_shares) fun x34 => zipX x33 x34) fun ds35 => seqF (forF (fun d36 (s32 : D) => ut2 d36 fun v_division v_share => (bnd (bnd (bnd (ret v_share) fun d41 => bnd (bnd (bnd (bnd (ret v_shares) fun d37 => bnd (ret []) fun ds38 => ret (d37 :: ds38)) sumQ) fun d39 => bnd (ret []) fun ds40 => ret (d39 :: ds40)) fun ds42 => ret (d41 :: ds42)) m_ratio) fun v_part => (bnd (frzM s32) fun v_found => (bnd (bnd (bnd (ret v_found) fun x43 => bnd (ret v_division) fun x44 => zipX x43 x44) fun ds56 => bnd (compM (fun d55 => un2 d55 fun v_one_45 v_item_46 => bnd (bnd (bnd (ret v_one_45) fun d53 => bnd (bnd (bnd (bnd (ret v_part) fun d49 => bnd (bnd (ret v_item_46) fun d47 => bnd (ret []) fun ds48 => ret (d47 :: ds48)) fun ds50 => ret (d49 :: ds50)) m_times) fun d51 => bnd (ret []) fun ds52 => ret (d51 :: ds52)) fun ds54 => ret (d53 :: ds54)) m_plus) someM) ds56 []) lsMM) fun v_found => (ret (.nx v_found)))))) ds35 v_found) fun (s32 : D) => (bnd (ret s32) rtM))))))
def m_blended : SpX := sp2 fun v_divisions v_shares => fnK (b_blended v_divisions v_shares)
theorem ok_blended {P : Program} {w : World} {K : PySem.W.Frag} {mg : Str → Option Value} {base : Heap} {k : Nat} {f : Addr} {fd : FuncData} {dvs : List V} (F : FnD K "blended" "blended" s_blended dvs f fd) (hk : 4 ≤ k) (m_all : mg "all" = none) (m_any : mg "any" = none) (m_len : mg "len" = none) (m_sum : mg "sum" = none) (m_zip : mg "zip" = none) (h_are_ratios : KnowsX P w K mg base k "are_ratios" 1 [] m_are_ratios) (h_are_shares : KnowsX P w K mg base k "are_shares" 2 [] m_are_shares) (h_plus : KnowsX P w K mg base k "plus" 2 [] m_plus) (h_ratio : KnowsX P w K mg base k "ratio" 2 [] m_ratio) (h_times : KnowsX P w K mg base k "times" 2 [] m_times) {C_BadShares : Addr} (x_BadShares : XK0 P w K mg "BadShares" C_BadShares) {C_Mismatch : Addr} (x_Mismatch : XK0 P w K mg "Mismatch" C_Mismatch) {C_NotDivision : Addr} (x_NotDivision : XK0 P w K mg "NotDivision" C_NotDivision) (h_NOTHING : GC K mg "NOTHING" g_NOTHING) : FnOk P w K mg base (L2.CX P w) (k + 1) f fd ["divisions", "shares"] (liftX K mg m_blended) :=
  fk2 F sc_blended fun cdv A outer s H E Z hr v_divisions v_shares => by
    have hu := hr.units
    exact (bf_ifX (tv_not (tv_val (ev_call h_are_shares (hr.mono (by omega)) (eva_cons (ev_var (.there .here)) (eva_cons (ev_blt m_len bt_len lenM_ok (eva_cons (ev_var .here) eva_nil)) eva_nil))))) (bf_raise0 x_BadShares (hr.mono (by omega))) (bf_ifX (tv_not (tv_val (ev_blt m_all bt_all (allM_ok rfl) (eva_cons (ev_lc (.there (.there .here)) (iv_seq (ev_var .here)) (cv0 (fun _ => (.there (.there .here))) (fun v_division_8 s0 H0 C0 cl0 fp0 => (ev_call h_are_ratios (hr.mono (by omega)) (eva_cons (ev_var (.there (.there .here))) eva_nil))))) eva_nil)))) (bf_raise0 x_NotDivision (hr.mono (by omega))) (bf_ifX (tv_val (ev_blt m_any bt_any (anyM_ok rfl) (eva_cons (ev_lc (.there (.there .here)) (iv_seq (ev_var .here)) (cv0 (fun _ => (.there (.there .here))) (fun v_division_15 s0 H0 C0 cl0 fp0 => (ev_cmp hu (ev_blt m_len bt_len lenM_ok (eva_cons (ev_var (.there (.there .here))) eva_nil)) (ev_blt m_len bt_len lenM_ok (eva_cons (ev_ix hu (ev_var .here) ev_int) eva_nil)))))) eva_nil))) (bf_raise0 x_Mismatch (hr.mono (by omega))) (bf_setLcM (.there (.there (.there (.there .here)))) (.there (.there (.there .here))) (iv_seq (ev_ix hu (ev_var .here) ev_int)) (cv0 (fun _ => (.there (.there (.there (.there .here))))) (fun v_item_30 s0 H0 C0 cl0 fp0 => (ev_glob h_NOTHING))) (fun _ => (.there (.there (.there .here)))) (fun v_found => (bf_for (e1 := (fun (s32 : D) => [("divisions", some v_divisions), ("shares", some v_shares), ("division", none), ("found", some s32), ("item", none), ("share", none), ("part", none), ("one", none)])) (iv_zipX m_zip (ev_var .here) (ev_var (.there .here))) (.same (.same (.same (.same (.same (.same (.same (.same .nil)))))))) (fun d36 s32 => bg_tup2 (fun _ => (.there (.there .here))) (fun _ _ => (.there (.there (.there (.there (.there .here)))))) (fun v_division v_share => (bf_set (ev_call h_ratio (hr.mono (by omega)) (eva_cons (ev_var (.there (.there (.there (.there (.there .here)))))) (eva_cons (ev_blt m_sum bt_sum sumQ_ok (eva_cons (ev_var (.there .here)) eva_nil)) eva_nil))) (fun _ => (.there (.there (.there (.there (.there (.there .here))))))) (fun v_part => (bf_frz (.there (.there (.there .here))) (fun _ => (.there (.there (.there .here)))) (fun v_found => (bf_setLcPM (.there (.there (.there (.there (.there (.there (.there .here))))))) (.there (.there (.there (.there .here)))) (.there (.there (.there .here))) (iv_zipX m_zip (ev_var (.there (.there (.there .here)))) (ev_var (.there (.there .here)))) (cvp0 (fun _ => (.there (.there (.there (.there (.there (.there (.there .here)))))))) (fun _ _ => (.there (.there (.there (.there .here))))) (fun v_one_45 v_item_46 s0 H0 C0 cl0 fp0 => (ev_call h_plus (hr.mono (by omega)) (eva_cons (ev_var (.there (.there (.there (.there (.there (.there (.there .here)))))))) (eva_cons (ev_call h_times (hr.mono (by omega)) (eva_cons (ev_var (.there (.there (.there (.there (.there (.there .here))))))) (eva_cons (ev_var (.there (.there (.there (.there .here))))) eva_nil))) eva_nil))))) (fun _ => (.there (.there (.there .here)))) (fun v_found => (bf_nil (l := (.same (.same (.drop (.same (.same (.drop (.drop (.same .nil)))))))))))))))))) (fun s32 => (bf_ret (ev_var (.there (.there (.there .here))))))))))))
abbrev s_law_told : Stmt := topS 36
theorem sc_law_told : FnScope ["_law_lists", "_law_shares_here"] ["_law_lists", "_law_shares_here"] (defScope s_law_told) := ⟨rfl, rfl, rfl, by decide +kernel, rfl, by decide +kernel, by decide +kernel⟩
def b_law_told (v_law_lists : D) (v_law_shares_here : D) : M (Fl Unit Empty) := (seqF (tryN (bnd (bnd (bnd (bnd (ret v_law_lists) fun d3 => bnd (bnd (ret v_law_shares_here) fun d1 => bnd (ret []) fun ds2 => ret (d1 :: ds2)) fun ds4 => ret (d3 :: ds4)) m_blended) frzM) rtM) [([("BadRatio", false), ("BadShares", true), ("DivisionError", false), ("Mismatch", false), ("NotDivision", false)], fun _ => (bnd (ret (.str "shares")) rtM)), ([("BadRatio", false), ("BadShares", false), ("DivisionError", false), ("Mismatch", false), ("NotDivision", true)], fun _ => (bnd (ret (.str "division")) rtM)), ([("BadRatio", false), ("BadShares", false), ("DivisionError", false), ("Mismatch", true), ("NotDivision", false)], fun _ => (bnd (ret (.str "mismatch")) rtM))]) fun (s5 : Empty) => nomatch s5)
def m_law_told : SpX := sp2 fun v_law_lists v_law_shares_here => fnK (b_law_told v_law_lists v_law_shares_here)
theorem ok_law_told {P : Program} {w : World} {K : PySem.W.Frag} {mg : Str → Option Value} {base : Heap} {k : Nat} {f : Addr} {fd : FuncData} {dvs : List V} (F : FnD K "_law_told" "_law_told" s_law_told dvs f fd) (hk : 5 ≤ k) (h_blended : KnowsX P w K mg base k "blended" 2 [] m_blended) (c_BadShares : ∃ Cc, mg "BadShares" = some (.ref Cc)) (xm_BadShares : ∀ q ∈ ([("BadRatio", false), ("BadShares", true), ("DivisionError", false), ("Mismatch", false), ("NotDivision", false)] : List (Str × Bool)), XM K mg q.1 "BadShares" q.2) (c_Mismatch : ∃ Cc, mg "Mismatch" = some (.ref Cc)) (xm_Mismatch : ∀ q ∈ ([("BadRatio", false), ("BadShares", false), ("DivisionError", false), ("Mismatch", true), ("NotDivision", false)] : List (Str × Bool)), XM K mg q.1 "Mismatch" q.2) (c_NotDivision : ∃ Cc, mg "NotDivision" = some (.ref Cc)) (xm_NotDivision : ∀ q ∈ ([("BadRatio", false), ("BadShares", false), ("DivisionError", false), ("Mismatch", false), ("NotDivision", true)] : List (Str × Bool)), XM K mg q.1 "NotDivision" q.2) : FnOk P w K mg base (L2.CX P w) (k + 1) f fd ["_law_lists", "_law_shares_here"] (liftX K mg m_law_told) :=
  fk2 F sc_law_told fun cdv A outer s H E Z hr v_law_lists v_law_shares_here => by
    have hu := hr.units
    exact (bf_tryN (e1 := fun (s5 : Empty) => nomatch s5) (HvN.plain c_BadShares xm_BadShares (fun a oe pn => (bf_ret ev_str)) (HvN.plain c_NotDivision xm_NotDivision (fun a oe pn => (bf_ret ev_str)) (HvN.plain c_Mismatch xm_Mismatch (fun a oe pn => (bf_ret ev_str)) HvN.nil))) (fun pn xe q => (by_ret (ev_frz (ev_call h_blended (hr.mono (by omega)) (eva_cons (ev_var .here) (eva_cons (ev_var (.there .here)) eva_nil)))))) (fun s5 => nomatch s5))
abbrev s_law_few : Stmt := topS 27
theorem sc_law_few : FnScope ["_law_pool_here"] ["_law_pool_here"] (defScope s_law_few) := ⟨rfl, rfl, rfl, by decide +kernel, rfl, by decide +kernel, by decide +kernel⟩
def b_law_few (v_law_pool_here : D) : M (Fl Unit Empty) := (bnd (bnd (ret (.int 1)) fun x19 => bnd (bnd (bnd (ret v_law_pool_here) fun d17 => bnd (bnd (bnd (bnd (bnd (ret (.int 4)) fun d3 => bnd (bnd (ret (.int 5)) fun d1 => bnd (ret []) fun ds2 => ret (d1 :: ds2)) fun ds4 => ret (d3 :: ds4)) mkL) fun x13 => bnd (bnd (bnd (bnd (bnd (bnd (ret v_law_pool_here) fun d7 => bnd (bnd (ret (.int 6)) fun d5 => bnd (ret []) fun ds6 => ret (d5 :: ds6)) fun ds8 => ret (d7 :: ds8)) m_law_take) fun x9 => bnd (ret (.int 0)) fun x10 => cmpM .Eq x9 x10) fun d11 => bnd (ret []) fun ds12 => ret (d11 :: ds12)) intM) fun x14 => ixM x13 x14) fun d15 => bnd (ret []) fun ds16 => ret (d15 :: ds16)) fun ds18 => ret (d17 :: ds18)) m_law_take) fun x20 => binM .Add x19 x20) rtM)
def m_law_few : SpX := sp1 fun v_law_pool_here => fnM (b_law_few v_law_pool_here)
theorem ok_law_few {P : Program} {w : World} {K : PySem.W.Frag} {mg : Str → Option Value} {base : Heap} {k : Nat} {f : Addr} {fd : FuncData} {dvs : List V} (F : FnD K "_law_few" "_law_few" s_law_few dvs f fd) (hk : 1 ≤ k) (m_int : mg "int" = none) (h_law_take : KnowsX P w K mg base k "_law_take" 2 [] m_law_take) : FnOk P w K mg base (L2.CX P w) (k + 1) f fd ["_law_pool_here"] (liftX K mg m_law_few) :=
  fn1 F sc_law_few fun cdv A outer s H E Z hr v_law_pool_here => by
    have hu := hr.units
    exact (bf_ret (ev_bin ev_int (ev_call h_law_take (hr.mono (by omega)) (eva_cons (ev_var .here) (eva_cons (ev_ix hu (ev_lst (eva_cons ev_int (eva_cons ev_int eva_nil))) (ev_blT m_int bt_int intM_ok (eva_cons (ev_cmp hu (ev_call h_law_take (hr.mono (by omega)) (eva_cons (ev_var .here) (eva_cons ev_int eva_nil))) ev_int) eva_nil))) eva_nil)))))
abbrev s_law_groups : Stmt := topS 26
theorem sc_law_groups : FnScope ["_law_players", "_law_found", "_law_player", "_law_group"] ["_law_players"] (defScope s_law_groups) := ⟨rfl, rfl, rfl, by decide +kernel, rfl, by decide +kernel, by decide +kernel⟩
def b_law_groups (v_law_players : D) : M (Fl Unit Empty) := (bnd (bnd (bnd (bnd (ret []) mkT) fun d1 => bnd (ret []) fun ds2 => ret (d1 :: ds2)) mkL) fun v_law_found => (bnd (bnd (ret v_law_players) rngM) fun ds4 => seqF (forF (fun v_law_player (s3 : D) => (bnd (bnd (ret s3) fun x11 => bnd (bnd (bnd (ret s3) seqM) fun ds10 => bnd (compM (fun v_law_group_5 => bnd (bnd (ret v_law_group_5) fun x8 => bnd (bnd (bnd (ret v_law_player) fun d6 => bnd (ret []) fun ds7 => ret (d6 :: ds7)) mkT) fun x9 => binM .Add x8 x9) someM) ds10 []) lsM) fun x12 => binM .Add x11 x12) fun v_law_found => (ret (.nx v_law_found)))) ds4 v_law_found) fun (s3 : D) => (bnd (bnd (bnd (bnd (ret s3) fun d13 => bnd (ret []) fun ds14 => ret (d13 :: ds14)) (sortG false)) fun x15 => bnd (bnd (ret (.int 1)) intO) fun x16 => bnd (ret none) fun x17 => slM x15 x16 x17) rtM)))
def m_law_groups : SpX := sp1 fun v_law_players => fnM (b_law_groups v_law_players)
theorem ok_law_groups {P : Program} {w : World} {K : PySem.W.Frag} {mg : Str → Option Value} {base : Heap} {k : Nat} {f : Addr} {fd : FuncData} {dvs : List V} (F : FnD K "_law_groups" "_law_groups" s_law_groups dvs f fd) (hk : 0 ≤ k) (m_range : mg "range" = none) (m_sorted : mg "sorted" = none) : FnOk P w K mg base (L2.CX P w) (k + 1) f fd ["_law_players"] (liftX K mg m_law_groups) :=
  fn1 F sc_law_groups fun cdv A outer s H E Z hr v_law_players => by
    have hu := hr.units
    exact (bf_set (ev_lst (eva_cons (ev_tup eva_nil) eva_nil)) (fun _ => (.there .here)) (fun v_law_found => (bf_for (e1 := (fun (s3 : D) => [("_law_players", some v_law_players), ("_law_found", some s3), ("_law_player", none), ("_law_group", none)])) (iv_range1 m_range (ev_var .here)) (.same (.same (.same (.same .nil)))) (fun v_law_player s3 => bg_name (.there (.there .here)) (bf_set (ev_bin (ev_var (.there .here)) (ev_lc (.there (.there (.there .here))) (iv_seq (ev_var (.there .here))) (cv0 (fun _ => (.there (.there (.there .here)))) (fun v_law_group_5 s0 H0 C0 cl0 fp0 => (ev_bin (ev_var (.there (.there (.there .here)))) (ev_tup (eva_cons (ev_var (.there (.there .here))) eva_nil))))))) (fun _ => (.there .here)) (fun v_law_found => (bf_nil (l := (.same (.same (.drop (.same .nil))))))))) (fun s3 => (bf_ret (ev_slice (ev_blt m_sorted bt_sorted (sortG_ok hu) (eva_cons (ev_var (.there .here)) eva_nil)) (evo_some ev_int) evo_none))))))
abbrev s_law_total : Stmt := topS 30
theorem sc_law_total : FnScope ["_law_ratios", "_law_found", "_law_one"] ["_law_ratios"] (defScope s_law_total) := ⟨rfl, rfl, rfl, by decide +kernel, rfl, by decide +kernel, by decide +kernel⟩
def b_law_total (v_law_ratios : D) : M (Fl Unit Empty) := (bnd (bnd (bnd (ret (.int 0)) fun d3 => bnd (bnd (ret (.int 1)) fun d1 => bnd (ret []) fun ds2 => ret (d1 :: ds2)) fun ds4 => ret (d3 :: ds4)) mkT) fun v_law_found => (bnd (bnd (ret v_law_ratios) seqM) fun ds6 => seqF (forF (fun v_law_one (s5 : D) => (bnd (bnd (bnd (ret s5) fun d9 => bnd (bnd (ret v_law_one) fun d7 => bnd (ret []) fun ds8 => ret (d7 :: ds8)) fun ds10 => ret (d9 :: ds10)) m_law_plus) fun v_law_found => (ret (.nx v_law_found)))) ds6 v_law_found) fun (s5 : D) => (bnd (ret s5) rtM)))
def m_law_total : SpX := sp1 fun v_law_ratios => fnM (b_law_total v_law_ratios)
theorem ok_law_total {P : Program} {w : World} {K : PySem.W.Frag} {mg : Str → Option Value} {base : Heap} {k : Nat} {f : Addr} {fd : FuncData} {dvs : List V} (F : FnD K "_law_total" "_law_total" s_law_total dvs f fd) (hk : 3 ≤ k) (h_law_plus : KnowsX P w K mg base k "_law_plus" 2 [] m_law_plus) : FnOk P w K mg base (L2.CX P w) (k + 1) f fd ["_law_ratios"] (liftX K mg m_law_total) :=
  fn1 F sc_law_total fun cdv A outer s H E Z hr v_law_ratios => by
    have hu := hr.units
    exact (bf_set (ev_tup (eva_cons ev_int (eva_cons ev_int eva_nil))) (fun _ => (.there .here)) (fun v_law_found => (bf_for (e1 := (fun (s5 : D) => [("_law_ratios", some v_law_ratios), ("_law_found", some s5), ("_law_one", none)])) (iv_seq (ev_var .here)) (.same (.same (.same .nil))) (fun v_law_one s5 => bg_name (.there (.there .here)) (bf_set (ev_call h_law_plus (hr.mono (by omega)) (eva_cons (ev_var (.there .here)) (eva_cons (ev_var (.there (.there .here))) eva_nil))) (fun _ => (.there .here)) (fun v_law_found => (bf_nil (l := (.same (.same (.drop .nil)))))))) (fun s5 => (bf_ret (ev_var (.there .here)))))))
abbrev s_law_is_division : Stmt := topS 33
theorem sc_law_is_division : FnScope ["_law_worths", "_law_players", "_law_division", "_law_one"] ["_law_worths", "_law_players", "_law_division"] (defScope s_law_is_division) := ⟨rfl, rfl, rfl, by decide +kernel, rfl, by decide +kernel, by decide +kernel⟩
def b_law_is_division (v_law_worths : D) (v_law_players : D) (v_law_division : D) : M (Fl Unit Empty) := (bnd (bnd (bnd (bnd (bnd (bnd (ret v_law_division) fun d13 => bnd (bnd (ret (.ty "list")) fun d11 => bnd (ret []) fun ds12 => ret (d11 :: ds12)) fun ds14 => ret (d13 :: ds14)) (isiO [])) truB) notB) (orB (bnd (bnd (bnd (bnd (ret v_law_division) fun d7 => bnd (ret []) fun ds8 => ret (d7 :: ds8)) lenM) fun x9 => bnd (ret v_law_players) fun x10 => cmpB .NotEq x9 x10) (orB (bnd (bnd (bnd (bnd (bnd (bnd (ret v_law_division) seqM) fun ds4 => bnd (compM (fun v_law_one_1 => bnd (bnd (bnd (ret v_law_one_1) fun d2 => bnd (ret []) fun ds3 => ret (d2 :: ds3)) m_law_is_ratio) someM) ds4 []) lsM) fun d5 => bnd (ret []) fun ds6 => ret (d5 :: ds6)) allM) truB) notB))))) fun b15 => iteM b15 (bnd (ret (.bl false)) rtM) (bnd (bnd (bnd (bnd (ret v_law_division) fun d16 => bnd (ret []) fun ds17 => ret (d16 :: ds17)) m_law_total) fun x24 => bnd (bnd (bnd (bnd (ret v_law_worths) fun x18 => bnd (bnd (ret v_law_players) trgM) fun x19 => ixM x18 x19) fun d22 => bnd (bnd (ret (.int 1)) fun d20 => bnd (ret []) fun ds21 => ret (d20 :: ds21)) fun ds23 => ret (d22 :: ds23)) mkT) fun x25 => cmpM .Eq x24 x25) rtM))
def m_law_is_division : SpX := sp3 fun v_law_worths v_law_players v_law_division => fnM (b_law_is_division v_law_worths v_law_players v_law_division)
theorem ok_law_is_division {P : Program} {w : World} {K : PySem.W.Frag} {mg : Str → Option Value} {base : Heap} {k : Nat} {f : Addr} {fd : FuncData} {dvs : List V} (F : FnD K "_law_is_division" "_law_is_division" s_law_is_division dvs f fd) (hk : 4 ≤ k) (m_all : mg "all" = none) (m_isinstance : mg "isinstance" = none) (m_len : mg "len" = none) (m_list : mg "list" = none) (m_range : mg "range" = none) (m_tuple : mg "tuple" = none) (h_law_is_ratio : KnowsX P w K mg base k "_law_is_ratio" 1 [] m_law_is_ratio) (h_law_total : KnowsX P w K mg base k "_law_total" 1 [] m_law_total) : FnOk P w K mg base (L2.CX P w) (k + 1) f fd ["_law_worths", "_law_players", "_law_division"] (liftX K mg m_law_is_division) :=
  fn3 F sc_law_is_division fun cdv A outer s H E Z hr v_law_worths v_law_players v_law_division => by
    have hu := hr.units
    exact (bf_ifX (tv_w (wv_or (tv_not (tv_val (ev_blt m_isinstance bt_isinstance (isiO_ok (by intro cn h; simp at h)) (eva_cons (ev_var (.there (.there .here))) (eva_cons (ev_ty m_list bt_list) eva_nil))))) (wv_or (tv_cmp hu (ev_blt m_len bt_len lenM_ok (eva_cons (ev_var (.there (.there .here))) eva_nil)) (ev_var (.there .here))) (wv_or1 (tv_not (tv_val (ev_blt m_all bt_all (allM_ok rfl) (eva_cons (ev_lc (.there (.there (.there .here))) (iv_seq (ev_var (.there (.there .here)))) (cv0 (fun _ => (.there (.there (.there .here)))) (fun v_law_one_1 s0 H0 C0 cl0 fp0 => (ev_call h_law_is_ratio (hr.mono (by omega)) (eva_cons (ev_var (.there (.there (.there .here)))) eva_nil))))) eva_nil)))))))) (bf_ret ev_bl) (bf_ret (ev_cmp hu (ev_call h_law_total (hr.mono (by omega)) (eva_cons (ev_var (.there (.there .here))) eva_nil)) (ev_tup (eva_cons (ev_ix hu (ev_var .here) (ev_tupRg m_tuple m_range (ev_var (.there .here)))) (eva_cons ev_int eva_nil))))))
abbrev s_law_amount : Stmt := topS 31
theorem sc_law_amount : FnScope ["_law_division", "_law_group", "_law_player"] ["_law_division", "_law_group"] (defScope s_law_amount) := ⟨rfl, rfl, rfl, by decide +kernel, rfl, by decide +kernel, by decide +kernel⟩
def b_law_amount (v_law_division : D) (v_law_group : D) : M (Fl Unit Empty) := (bnd (bnd (bnd (bnd (bnd (ret v_law_group) seqM) fun ds4 => bnd (compM (fun v_law_player_1 => bnd (bnd (ret v_law_division) fun x2 => bnd (ret v_law_player_1) fun x3 => ixM x2 x3) someM) ds4 []) lsM) fun d5 => bnd (ret []) fun ds6 => ret (d5 :: ds6)) m_law_total) rtM)
def m_law_amount : SpX := sp2 fun v_law_division v_law_group => fnM (b_law_amount v_law_division v_law_group)
theorem ok_law_amount {P : Program} {w : World} {K : PySem.W.Frag} {mg : Str → Option Value} {base : Heap} {k : Nat} {f : Addr} {fd : FuncData} {dvs : List V} (F : FnD K "_law_amount" "_law_amount" s_law_amount dvs f fd) (hk : 4 ≤ k) (h_law_total : KnowsX P w K mg base k "_law_total" 1 [] m_law_total) : FnOk P w K mg base (L2.CX P w) (k + 1) f fd ["_law_division", "_law_group"] (liftX K mg m_law_amount) :=
  fn2 F sc_law_amount fun cdv A outer s H E Z hr v_law_division v_law_group => by
    have hu := hr.units
    exact (bf_ret (ev_call h_law_total (hr.mono (by omega)) (eva_cons (ev_lc (.there (.there .here)) (iv_seq (ev_var (.there .here))) (cv0 (fun _ => (.there (.there .here))) (fun v_law_player_1 s0 H0 C0 cl0 fp0 => (ev_ix hu (ev_var .here) (ev_var (.there (.there .here))))))) eva_nil)))
abbrev s_law_complaint : Stmt := topS 32
theorem sc_law_complaint : FnScope ["_law_worths", "_law_division", "_law_group", "_law_top", "_law_bottom"] ["_law_worths", "_law_division", "_law_group"] (defScope s_law_complaint) := ⟨rfl, rfl, rfl, by decide +kernel, rfl, by decide +kernel, by decide +kernel⟩
def b_law_complaint (v_law_worths : D) (v_law_division : D) (v_law_group : D) : M (Fl Unit Empty) := (bnd (bnd (bnd (ret v_law_division) fun d3 => bnd (bnd (ret v_law_group) fun d1 => bnd (ret []) fun ds2 => ret (d1 :: ds2)) fun ds4 => ret (d3 :: ds4)) m_law_amount) fun d5 => ut2 d5 fun v_law_top v_law_bottom => (bnd (bnd (bnd (bnd (bnd (bnd (ret v_law_worths) fun x6 => bnd (ret v_law_group) fun x7 => ixM x6 x7) fun x8 => bnd (ret v_law_bottom) fun x9 => binM .Mult x8 x9) fun x10 => bnd (ret v_law_top) fun x11 => binM .Sub x10 x11) fun d14 => bnd (bnd (ret v_law_bottom) fun d12 => bnd (ret []) fun ds13 => ret (d12 :: ds13)) fun ds15 => ret (d14 :: ds15)) m_law_ratio) rtM))
def m_law_complaint : SpX := sp3 fun v_law_worths v_law_division v_law_group => fnM (b_law_complaint v_law_worths v_law_division v_law_group)
theorem ok_law_complaint {P : Program} {w : World} {K : PySem.W.Frag} {mg : Str → Option Value} {base : Heap} {k : Nat} {f : Addr} {fd : FuncData} {dvs : List V} (F : FnD K "_law_complaint" "_law_complaint" s_law_complaint dvs f fd) (hk : 5 ≤ k) (h_law_amount : KnowsX P w K mg base k "_law_amount" 2 [] m_law_amount) (h_law_ratio : KnowsX P w K mg base k "_law_ratio" 2 [] m_law_ratio) : FnOk P w K mg base (L2.CX P w) (k + 1) f fd ["_law_worths", "_law_division", "_law_group"] (liftX K mg m_law_complaint) :=
  fn3 F sc_law_complaint fun cdv A outer s H E Z hr v_law_worths v_law_division v_law_group => by
    have hu := hr.units
    exact (bf_asg (ev_call h_law_amount (hr.mono (by omega)) (eva_cons (ev_var (.there .here)) (eva_cons (ev_var (.there (.there .here))) eva_nil))) (fun d5 => bg_tup2 (fun _ => (.there (.there (.there .here)))) (fun _ _ => (.there (.there (.there (.there .here))))) (fun v_law_top v_law_bottom => (bf_ret (ev_call h_law_ratio (hr.mono (by omega)) (eva_cons (ev_bin (ev_bin (ev_ix hu (ev_var .here) (ev_var (.there (.there .here)))) (ev_var (.there (.there (.there (.there .here)))))) (ev_var (.there (.there (.there .here))))) (eva_cons (ev_var (.there (.there (.there (.there .here))))) eva_nil)))))))
abbrev s_law_calm_for : Stmt := topS 34
theorem sc_law_calm_for : FnScope ["_law_worths", "_law_players", "_law_division", "_law_listed", "_law_group"] ["_law_worths", "_law_players", "_law_division", "_law_listed"] (defScope s_law_calm_for) := ⟨rfl, rfl, rfl, by decide +kernel, rfl, by decide +kernel, by decide +kernel⟩
def b_law_calm_for (v_law_worths : D) (v_law_players : D) (v_law_division : D) (v_law_listed : D) : M (Fl Unit Empty) := (bnd (bnd (bnd (bnd (bnd (ret v_law_worths) fun d5 => bnd (bnd (ret v_law_players) fun d3 => bnd (bnd (ret v_law_division) fun d1 => bnd (ret []) fun ds2 => ret (d1 :: ds2)) fun ds4 => ret (d3 :: ds4)) fun ds6 => ret (d5 :: ds6)) m_law_is_division) truB) notB) fun b7 => iteM b7 (bnd (ret (.bl false)) rtM) (bnd (bnd (bnd (bnd (ret v_law_listed) seqM) fun ds20 => bnd (compM (fun v_law_group_8 => bnd (bnd (bnd (bnd (bnd (ret v_law_worths) fun d13 => bnd (bnd (ret v_law_division) fun d11 => bnd (bnd (ret v_law_group_8) fun d9 => bnd (ret []) fun ds10 => ret (d9 :: ds10)) fun ds12 => ret (d11 :: ds12)) fun ds14 => ret (d13 :: ds14)) m_law_complaint) fun x15 => bnd (ret (.int 0)) fun x16 => ixM x15 x16) fun x17 => bnd (ret (.int 0)) fun x18 => cmpB .Gt x17 x18) fun k19 => iteM k19 (bnd (ret v_law_group_8) someM) (ret none)) ds20 []) lsM) fun x21 => bnd (bnd (ret []) mkL) fun x22 => cmpM .Eq x21 x22) rtM))
def m_law_calm_for : SpX := sp4 fun v_law_worths v_law_players v_law_division v_law_listed => fnM (b_law_calm_for v_law_worths v_law_players v_law_division v_law_listed)
theorem ok_law_calm_for {P : Program} {w : World} {K : PySem.W.Frag} {mg : Str → Option Value} {base : Heap} {k : Nat} {f : Addr} {fd : FuncData} {dvs : List V} (F : FnD K "_law_calm_for" "_law_calm_for" s_law_calm_for dvs f fd) (hk : 6 ≤ k) (h_law_complaint : KnowsX P w K mg base k "_law_complaint" 3 [] m_law_complaint) (h_law_is_division : KnowsX P w K mg base k "_law_is_division" 3 [] m_law_is_division) : FnOk P w K mg base (L2.CX P w) (k + 1) f fd ["_law_worths", "_law_players", "_law_division", "_law_listed"] (liftX K mg m_law_calm_for) :=
  fn4 F sc_law_calm_for fun cdv A outer s H E Z hr v_law_worths v_law_players v_law_division v_law_listed => by
    have hu := hr.units
    exact (bf_ifX (tv_not (tv_val (ev_call h_law_is_division (hr.mono (by omega)) (eva_cons (ev_var .here) (eva_cons (ev_var (.there .here)) (eva_cons (ev_var (.there (.there .here))) eva_nil)))))) (bf_ret ev_bl) (bf_ret (ev_cmp hu (ev_lc (.there (.there (.there (.there .here)))) (iv_seq (ev_var (.there (.there (.there .here))))) (cv1 (fun _ => (.there (.there (.there (.there .here))))) (fun v_law_group_8 s0 H0 C0 cl0 fp0 => (tv_cmp hu (ev_ix hu (ev_call h_law_complaint (hr.mono (by omega)) (eva_cons (ev_var .here) (eva_cons (ev_var (.there (.there .here))) (eva_cons (ev_var (.there (.there (.there (.there .here))))) eva_nil)))) ev_int) ev_int)) (fun v_law_group_8 s0 H0 C0 cl0 fp0 => (ev_var (.there (.there (.there (.there .here)))))))) (ev_lst eva_nil))))
abbrev s_law_weights_of : Stmt := topS 40
theorem sc_law_weights_of : FnScope ["_law_pool_here"] ["_law_pool_here"] (defScope s_law_weights_of) := ⟨rfl, rfl, rfl, by decide +kernel, rfl, by decide +kernel, by decide +kernel⟩
def b_law_weights_of (v_law_pool_here : D) : M (Fl Unit Empty) := (bnd (bnd (bnd (bnd (bnd (ret v_law_pool_here) fun d3 => bnd (bnd (ret (.int 9)) fun d1 => bnd (ret []) fun ds2 => ret (d1 :: ds2)) fun ds4 => ret (d3 :: ds4)) m_law_take) fun d13 => bnd (bnd (bnd (ret (.int 1)) fun x9 => bnd (bnd (bnd (ret v_law_pool_here) fun d7 => bnd (bnd (ret (.int 9)) fun d5 => bnd (ret []) fun ds6 => ret (d5 :: ds6)) fun ds8 => ret (d7 :: ds8)) m_law_take) fun x10 => binM .Add x9 x10) fun d11 => bnd (ret []) fun ds12 => ret (d11 :: ds12)) fun ds14 => ret (d13 :: ds14)) mkL) rtM)
def m_law_weights_of : SpX := sp1 fun v_law_pool_here => fnM (b_law_weights_of v_law_pool_here)
theorem ok_law_weights_of {P : Program} {w : World} {K : PySem.W.Frag} {mg : Str → Option Value} {base : Heap} {k : Nat} {f : Addr} {fd : FuncData} {dvs : List V} (F : FnD K "_law_weights_of" "_law_weights_of" s_law_weights_of dvs f fd) (hk : 1 ≤ k) (h_law_take : KnowsX P w K mg base k "_law_take" 2 [] m_law_take) : FnOk P w K mg base (L2.CX P w) (k + 1) f fd ["_law_pool_here"] (liftX K mg m_law_weights_of) :=
  fn1 F sc_law_weights_of fun cdv A outer s H E Z hr v_law_pool_here => by
    have hu := hr.units
    exact (bf_ret (ev_lst (eva_cons (ev_call h_law_take (hr.mono (by omega)) (eva_cons (ev_var .here) (eva_cons ev_int eva_nil))) (eva_cons (ev_bin ev_int (ev_call h_law_take (hr.mono (by omega)) (eva_cons (ev_var .here) (eva_cons ev_int eva_nil)))) eva_nil))))
abbrev s_law_minus : Stmt := topS 35
theorem sc_law_minus : FnScope ["_law_one", "_law_other"] ["_law_one", "_law_other"] (defScope s_law_minus) := ⟨rfl, rfl, rfl, by decide +kernel, rfl, by decide +kernel, by decide +kernel⟩
def b_law_minus (v_law_one : D) (v_law_other : D) : M (Fl Unit Empty) := (bnd (bnd (bnd (bnd (bnd (bnd (ret v_law_one) fun x1 => bnd (ret (.int 0)) fun x2 => ixM x1 x2) fun x5 => bnd (bnd (ret v_law_other) fun x3 => bnd (ret (.int 1)) fun x4 => ixM x3 x4) fun x6 => binM .Mult x5 x6) fun x13 => bnd (bnd (bnd (ret v_law_other) fun x7 => bnd (ret (.int 0)) fun x8 => ixM x7 x8) fun x11 => bnd (bnd (ret v_law_one) fun x9 => bnd (ret (.int 1)) fun x10 => ixM x9 x10) fun x12 => binM .Mult x11 x12) fun x14 => binM .Sub x13 x14) fun d23 => bnd (bnd (bnd (bnd (ret v_law_one) fun x15 => bnd (ret (.int 1)) fun x16 => ixM x15 x16) fun x19 => bnd (bnd (ret v_law_other) fun x17 => bnd (ret (.int 1)) fun x18 => ixM x17 x18) fun x20 => binM .Mult x19 x20) fun d21 => bnd (ret []) fun ds22 => ret (d21 :: ds22)) fun ds24 => ret (d23 :: ds24)) m_law_ratio) rtM)
def m_law_minus : SpX := sp2 fun v_law_one v_law_other => fnM (b_law_minus v_law_one v_law_other)
theorem ok_law_minus {P : Program} {w : World} {K : PySem.W.Frag} {mg : Str → Option Value} {base : Heap} {k : Nat} {f : Addr} {fd : FuncData} {dvs : List V} (F : FnD K "_law_minus" "_law_minus" s_law_minus dvs f fd) (hk : 2 ≤ k) (h_law_ratio : KnowsX P w K mg base k "_law_ratio" 2 [] m_law_ratio) : FnOk P w K mg base (L2.CX P w) (k + 1) f fd ["_law_one", "_law_other"] (liftX K mg m_law_minus) :=
  fn2 F sc_law_minus fun cdv A outer s H E Z hr v_law_one v_law_other => by
    have hu := hr.units
    exact (bf_ret (ev_call h_law_ratio (hr.mono (by omega)) (eva_cons (ev_bin (ev_bin (ev_ix hu (ev_var .here) ev_int) (ev_ix hu (ev_var (.there .here)) ev_int)) (ev_bin (ev_ix hu (ev_var (.there .here)) ev_int) (ev_ix hu (ev_var .here) ev_int))) (eva_cons (ev_bin (ev_ix hu (ev_var .here) ev_int) (ev_ix hu (ev_var (.there .here)) ev_int)) eva_nil))))
abbrev s_law_calm_blends : Stmt := topS 39
theorem sc_law_calm_blends : FnScope ["_law_pool_here", "_law_players", "_law_rows", "_law_k", "_law_player", "_law_row", "_law_worths", "_law_group", "_law_top", "_law_bottom", "_law_up", "_law_down", "_law_blend"] ["_law_pool_here"] (defScope s_law_calm_blends) := ⟨rfl, rfl, rfl, by decide +kernel, rfl, by decide +kernel, by decide +kernel⟩
def b_law_calm_blends (v_law_pool_here : D) : M (Fl Unit Empty) := (bnd (bnd (bnd (ret v_law_pool_here) fun d1 => bnd (ret []) fun ds2 => ret (d1 :: ds2)) m_law_few) fun v_law_players => (bnd (bnd (ret []) newL) fun v_law_rows => (bnd (bnd (ret (.int 2)) rngM) fun ds4 => seqF (forF (fun v_law_k (s3 : Unit) => (bnd (bnd (ret v_law_rows) fun u19 => bnd (chkL u19) fun _ => bnd (bnd (bnd (bnd (ret v_law_players) fun x5 => bnd (ret (.int 1)) fun x6 => binM .Sub x5 x6) rngM) fun ds18 => bnd (compM (fun v_law_player_7 => bnd (bnd (bnd (bnd (bnd (bnd (ret v_law_pool_here) fun d10 => bnd (bnd (ret (.int 41)) fun d8 => bnd (ret []) fun ds9 => ret (d8 :: ds9)) fun ds11 => ret (d10 :: ds11)) m_law_take) fun x12 => bnd (ret (.int 20)) fun x13 => binM .Sub x12 x13) fun d16 => bnd (bnd (ret (.int 3)) fun d14 => bnd (ret []) fun ds15 => ret (d14 :: ds15)) fun ds17 => ret (d16 :: ds17)) m_law_ratio) someM) ds18 []) lsM) fun y20 => appM u19 y20) fun _ => (ret (.nx (()))))) ds4 (())) fun (s3 : Unit) => (bnd (frzM v_law_rows) fun v_law_rows => (bnd (bnd (bnd (ret v_law_rows) seqM) fun ds36 => bnd (compM (fun v_law_row_21 => bnd (bnd (ret v_law_row_21) fun x34 => bnd (bnd (bnd (bnd (bnd (bnd (bnd (ret (.int 9)) fun d24 => bnd (bnd (ret (.int 1)) fun d22 => bnd (ret []) fun ds23 => ret (d22 :: ds23)) fun ds25 => ret (d24 :: ds25)) mkT) fun d30 => bnd (bnd (bnd (bnd (ret v_law_row_21) fun d26 => bnd (ret []) fun ds27 => ret (d26 :: ds27)) m_law_total) fun d28 => bnd (ret []) fun ds29 => ret (d28 :: ds29)) fun ds31 => ret (d30 :: ds31)) m_law_minus) fun d32 => bnd (ret []) fun ds33 => ret (d32 :: ds33)) mkL) fun x35 => binM .Add x34 x35) someM) ds36 []) lsMM) fun v_law_rows => (bnd (frzM v_law_rows) fun v_law_rows => (bnd newDM fun v_law_worths => (bnd (bnd (bnd (bnd (ret v_law_players) fun d38 => bnd (ret []) fun ds39 => ret (d38 :: ds39)) m_law_groups) seqM) fun ds40 => seqF (forF (fun v_law_group (s37 : Unit) => (bnd (bnd (bnd (bnd (ret v_law_rows) fun x41 => bnd (ret (.int 0)) fun x42 => ixM x41 x42) fun d45 => bnd (bnd (ret v_law_group) fun d43 => bnd (ret []) fun ds44 => ret (d43 :: ds44)) fun ds46 => ret (d45 :: ds46)) m_law_amount) fun d47 => ut2 d47 fun v_law_top v_law_bottom => (bnd (bnd (bnd (bnd (ret v_law_rows) fun x48 => bnd (ret (.int 1)) fun x49 => ixM x48 x49) fun d52 => bnd (bnd (ret v_law_group) fun d50 => bnd (ret []) fun ds51 => ret (d50 :: ds51)) fun ds53 => ret (d52 :: ds53)) m_law_amount) fun d54 => ut2 d54 fun v_law_up v_law_down => (bnd (bnd (bnd (bnd (ret v_law_top) fun x55 => bnd (ret v_law_bottom) fun x56 => binM .FloorDiv x55 x56) fun d61 => bnd (bnd (bnd (ret v_law_up) fun x57 => bnd (ret v_law_down) fun x58 => binM .FloorDiv x57 x58) fun d59 => bnd (ret []) fun ds60 => ret (d59 :: ds60)) fun ds62 => ret (d61 :: ds62)) minM) fun x63 => bnd (ret v_law_worths) fun x64 => bnd (ret v_law_group) fun x65 => bnd (stM x64 x65 x63) fun _ => (ret (.nx (()))))))) ds40 (())) fun (s37 : Unit) => (bnd (frzM v_law_worths) fun v_law_worths => (bnd (bnd (bnd (bnd (ret v_law_rows) fun d70 => bnd (bnd (bnd (bnd (ret v_law_pool_here) fun d66 => bnd (ret []) fun ds67 => ret (d66 :: ds67)) m_law_weights_of) fun d68 => bnd (ret []) fun ds69 => ret (d68 :: ds69)) fun ds71 => ret (d70 :: ds71)) m_blended) frzM) fun v_law_blend => (bnd (bnd (bnd (ret v_law_worths) fun d80 => bnd (bnd (ret v_law_players) fun d78 => bnd (bnd (ret v_law_blend) fun d76 => bnd (bnd (bnd (bnd (ret v_law_players) fun d72 => bnd (ret []) fun ds73 => ret (d72 :: ds73)) m_law_groups) fun d74 => bnd (ret []) fun ds75 => ret (d74 :: ds75)) fun ds77 => ret (d76 :: ds77)) fun ds79 => ret (d78 :: ds79)) fun ds81 => ret (d80 :: ds81)) m_law_calm_for) rtM)))))))))))
def m_law_calm_blends : SpX := sp1 fun v_law_pool_here => fnM (b_law_calm_blends v_law_pool_here)
theorem ok_law_calm_blends {P : Program} {w : World} {K : PySem.W.Frag} {mg : Str → Option Value} {base : Heap} {k : Nat} {f : Addr} {fd : FuncData} {dvs : List V} (F : FnD K "_law_calm_blends" "_law_calm_blends" s_law_calm_blends dvs f fd) (hk : 7 ≤ k) (m_min : mg "min" = none) (m_range : mg "range" = none) (h_law_amount : KnowsX P w K mg base k "_law_amount" 2 [] m_law_amount) (h_law_calm_for : KnowsX P w K mg base k "_law_calm_for" 4 [] m_law_calm_for) (h_law_few : KnowsX P w K mg base k "_law_few" 1 [] m_law_few) (h_law_groups : KnowsX P w K mg base k "_law_groups" 1 [] m_law_groups) (h_law_minus : KnowsX P w K mg base k "_law_minus" 2 [] m_law_minus) (h_law_ratio : KnowsX P w K mg base k "_law_ratio" 2 [] m_law_ratio) (h_law_take : KnowsX P w K mg base k "_law_take" 2 [] m_law_take) (h_law_total : KnowsX P w K mg base k "_law_total" 1 [] m_law_total) (h_law_weights_of : KnowsX P w K mg base k "_law_weights_of" 1 [] m_law_weights_of) (h_blended : KnowsX P w K mg base k "blended" 2 [] m_blended) : FnOk P w K mg base (L2.CX P w) (k + 1) f fd ["_law_pool_here"] (liftX K mg m_law_calm_blends) :=
  fn1 F sc_law_calm_blends fun cdv A outer s H E Z hr v_law_pool_here => by
    have hu := hr.units
    exact (bf_set (ev_call h_law_few (hr.mono (by omega)) (eva_cons (ev_var .here) eva_nil)) (fun _ => (.there .here)) (fun v_law_players => (bf_set (ev_lstM eva_nil) (fun _ => (.there (.there .here))) (fun v_law_rows => (bf_for (e1 := (fun (s3 : Unit) => [("_law_pool_here", some v_law_pool_here), ("_law_players", some v_law_players), ("_law_rows", some v_law_rows), ("_law_k", none), ("_law_player", none), ("_law_row", none), ("_law_worths", none), ("_law_group", none), ("_law_top", none), ("_law_bottom", none), ("_law_up", none), ("_law_down", none), ("_law_blend", none)])) (iv_range1 m_range ev_int) (.same (.same (.same (.same (.same (.same (.same (.same (.same (.same (.same (.same (.same .nil))))))))))))) (fun v_law_k s3 => bg_name (.there (.there (.there .here))) (bf_expr (ev_append (ev_var (.there (.there .here))) (ev_lc (.there (.there (.there (.there .here)))) (iv_range1 m_range (ev_bin (ev_var (.there .here)) ev_int)) (cv0 (fun _ => (.there (.there (.there (.there .here))))) (fun v_law_player_7 s0 H0 C0 cl0 fp0 => (ev_call h_law_ratio (hr.mono (by omega)) (eva_cons (ev_bin (ev_call h_law_take (hr.mono (by omega)) (eva_cons (ev_var .here) (eva_cons ev_int eva_nil))) ev_int) (eva_cons ev_int eva_nil))))))) (bf_nil (l := (.same (.same (.same (.drop (.same (.same (.same (.same (.same (.same (.same (.same (.same .nil))))))))))))))))) (fun s3 => (bf_frz (.there (.there .here)) (fun _ => (.there (.there .here))) (fun v_law_rows => (bf_setLcM (.there (.there (.there (.there (.there .here))))) (.there (.there .here)) (iv_seq (ev_var (.there (.there .here)))) (cv0 (fun _ => (.there (.there (.there (.there (.there .here)))))) (fun v_law_row_21 s0 H0 C0 cl0 fp0 => (ev_bin (ev_var (.there (.there (.there (.there (.there .here)))))) (ev_lst (eva_cons (ev_call h_law_minus (hr.mono (by omega)) (eva_cons (ev_tup (eva_cons ev_int (eva_cons ev_int eva_nil))) (eva_cons (ev_call h_law_total (hr.mono (by omega)) (eva_cons (ev_var (.there (.there (.there (.there (.there .here)))))) eva_nil)) eva_nil))) eva_nil))))) (fun _ => (.there (.there .here))) (fun v_law_rows => (bf_frz (.there (.there .here)) (fun _ => (.there (.there .here))) (fun v_law_rows => (bf_set ev_newD (fun _ => (.there (.there (.there (.there (.there (.there .here))))))) (fun v_law_worths => (bf_for (e1 := (fun (s37 : Unit) => [("_law_pool_here", some v_law_pool_here), ("_law_players", some v_law_players), ("_law_rows", some v_law_rows), ("_law_k", none), ("_law_player", none), ("_law_row", none), ("_law_worths", some v_law_worths), ("_law_group", none), ("_law_top", none), ("_law_bottom", none), ("_law_up", none), ("_law_down", none), ("_law_blend", none)])) (iv_seq (ev_call h_law_groups (hr.mono (by omega)) (eva_cons (ev_var (.there .here)) eva_nil))) (.same (.same (.same (.same (.same (.same (.same (.same (.same (.same (.same (.same (.same .nil))))))))))))) (fun v_law_group s37 => bg_name (.there (.there (.there (.there (.there (.there (.there .here))))))) (bf_asg (ev_call h_law_amount (hr.mono (by omega)) (eva_cons (ev_ix hu (ev_var (.there (.there .here))) ev_int) (eva_cons (ev_var (.there (.there (.there (.there (.there (.there (.there .here)))))))) eva_nil))) (fun d47 => bg_tup2 (fun _ => (.there (.there (.there (.there (.there (.there (.there (.there .here))))))))) (fun _ _ => (.there (.there (.there (.there (.there (.there (.there (.there (.there .here)))))))))) (fun v_law_top v_law_bottom => (bf_asg (ev_call h_law_amount (hr.mono (by omega)) (eva_cons (ev_ix hu (ev_var (.there (.there .here))) ev_int) (eva_cons (ev_var (.there (.there (.there (.there (.there (.there (.there .here)))))))) eva_nil))) (fun d54 => bg_tup2 (fun _ => (.there (.there (.there (.there (.there (.there (.there (.there (.there (.there .here))))))))))) (fun _ _ => (.there (.there (.there (.there (.there (.there (.there (.there (.there (.there (.there .here)))))))))))) (fun v_law_up v_law_down => (bf_sub hu (ev_blt m_min bt_min (minM_ok rfl) (eva_cons (ev_bin (ev_var (.there (.there (.there (.there (.there (.there (.there (.there .here))))))))) (ev_var (.there (.there (.there (.there (.there (.there (.there (.there (.there .here))))))))))) (eva_cons (ev_bin (ev_var (.there (.there (.there (.there (.there (.there (.there (.there (.there (.there .here))))))))))) (ev_var (.there (.there (.there (.there (.there (.there (.there (.there (.there (.there (.there .here))))))))))))) eva_nil))) (ev_var (.there (.there (.there (.there (.there (.there .here))))))) (ev_var (.there (.there (.there (.there (.there (.there (.there .here)))))))) (bf_nil (l := (.same (.same (.same (.same (.same (.same (.same (.drop (.drop (.drop (.drop (.drop (.same .nil))))))))))))))))))))))) (fun s37 => (bf_frz (.there (.there (.there (.there (.there (.there .here)))))) (fun _ => (.there (.there (.there (.there (.there (.there .here))))))) (fun v_law_worths => (bf_set (ev_frz (ev_call h_blended (hr.mono (by omega)) (eva_cons (ev_var (.there (.there .here))) (eva_cons (ev_call h_law_weights_of (hr.mono (by omega)) (eva_cons (ev_var .here) eva_nil)) eva_nil)))) (fun _ => (.there (.there (.there (.there (.there (.there (.there (.there (.there (.there (.there (.there .here))))))))))))) (fun v_law_blend => (bf_ret (ev_call h_law_calm_for (hr.mono (by omega)) (eva_cons (ev_var (.there (.there (.there (.there (.there (.there .here))))))) (eva_cons (ev_var (.there .here)) (eva_cons (ev_var (.there (.there (.there (.there (.there (.there (.there (.there (.there (.there (.there (.there .here))))))))))))) (eva_cons (ev_call h_law_groups (hr.mono (by omega)) (eva_cons (ev_var (.there .here)) eva_nil)) eva_nil))))))))))))))))))))))))))
abbrev s_law : Stmt := topS 41
theorem sc_law : FnScope ["_law_script", "_law_pool_here", "_law_players", "_law_many", "_law_far", "_law_lists", "_law_k", "_law_player", "_law_spoil", "_law_row", "_law_odd", "_law_shares_here", "_law_saved", "_law_due_here"] ["_law_script"] (defScope s_law) := ⟨rfl, rfl, rfl, by decide +kernel, rfl, by decide +kernel, by decide +kernel⟩
def b_law (v_law_script : D) : M (Fl Unit Empty) := (bnd (bnd (bnd (ret v_law_script) fun d1 => bnd (ret []) fun ds2 => ret (d1 :: ds2)) m_law_pool) fun v_law_pool_here => (bnd (bnd (ret (.int 1)) fun x7 => bnd (bnd (bnd (ret v_law_pool_here) fun d5 => bnd (bnd (ret (.int 5)) fun d3 => bnd (ret []) fun ds4 => ret (d3 :: ds4)) fun ds6 => ret (d5 :: ds6)) m_law_take) fun x8 => binM .Add x7 x8) fun v_law_players => (bnd (bnd (bnd (ret v_law_pool_here) fun d11 => bnd (bnd (ret (.int 5)) fun d9 => bnd (ret []) fun ds10 => ret (d9 :: ds10)) fun ds12 => ret (d11 :: ds12)) m_law_take) fun v_law_many => (seqF (bnd (bnd (bnd (bnd (ret v_law_pool_here) fun d15 => bnd (bnd (ret (.int 12)) fun d13 => bnd (ret []) fun ds14 => ret (d13 :: ds14)) fun ds16 => ret (d15 :: ds16)) m_law_take) fun x17 => bnd (ret (.int 0)) fun x18 => cmpB .Eq x17 x18) fun b19 => iteM b19 (bnd (ret (.int 39)) fun v_law_many => (ret (.nx v_law_many))) (ret (.nx v_law_many))) fun (s20 : D) => (bnd (bnd (bnd (ret (.int 10)) fun x21 => bnd (ret (.int 24)) fun x22 => binM .Pow x21 x22) fun x31 => bnd (bnd (bnd (bnd (bnd (bnd (ret v_law_pool_here) fun d25 => bnd (bnd (ret (.int 6)) fun d23 => bnd (ret []) fun ds24 => ret (d23 :: ds24)) fun ds26 => ret (d25 :: ds26)) m_law_take) fun x27 => bnd (ret (.int 0)) fun x28 => cmpM .Eq x27 x28) fun d29 => bnd (ret []) fun ds30 => ret (d29 :: ds30)) intM) fun x32 => binM .Mult x31 x32) fun v_law_far => (bnd (bnd (ret []) newL) fun v_law_lists => (bnd (bnd (ret s20) rngM) fun ds34 => seqF (forF (fun v_law_k (s33 : Unit) => (bnd (bnd (ret v_law_lists) fun u35 => bnd (chkL u35) fun _ => bnd (bnd (ret []) newL) fun y36 => appM u35 y36) fun _ => (bnd (bnd (ret v_law_players) rngM) fun ds38 => seqF (forF (fun v_law_player (s37 : Unit) => (bnd (bnd (bnd (ret v_law_lists) fun x39 => bnd (ret v_law_k) fun x40 => ixM x39 x40) fun u61 => bnd (chkL u61) fun _ => bnd (bnd (bnd (bnd (bnd (ret v_law_far) fun x45 => bnd (bnd (bnd (ret v_law_pool_here) fun d43 => bnd (bnd (ret (.int 41)) fun d41 => bnd (ret []) fun ds42 => ret (d41 :: ds42)) fun ds44 => ret (d43 :: ds44)) m_law_take) fun x46 => binM .Add x45 x46) fun x47 => bnd (ret (.int 20)) fun x48 => binM .Sub x47 x48) fun d59 => bnd (bnd (bnd (bnd (ret v_law_far) fun x49 => bnd (ret (.int 1)) fun x50 => binM .Add x49 x50) fun x55 => bnd (bnd (bnd (ret v_law_pool_here) fun d53 => bnd (bnd (ret (.int 9)) fun d51 => bnd (ret []) fun ds52 => ret (d51 :: ds52)) fun ds54 => ret (d53 :: ds54)) m_law_take) fun x56 => binM .Add x55 x56) fun d57 => bnd (ret []) fun ds58 => ret (d57 :: ds58)) fun ds60 => ret (d59 :: ds60)) m_law_ratio) fun y62 => appM u61 y62) fun _ => (ret (.nx (()))))) ds38 (())) fun (s37 : Unit) => (ret (.nx (())))))) ds34 (())) fun (s33 : Unit) => (bnd (bnd (bnd (ret v_law_pool_here) fun d65 => bnd (bnd (ret (.int 16)) fun d63 => bnd (ret []) fun ds64 => ret (d63 :: ds64)) fun ds66 => ret (d65 :: ds66)) m_law_take) fun v_law_spoil => (seqF (bnd (bnd (bnd (ret v_law_spoil) fun x69 => bnd (ret (.int 0)) fun x70 => cmpB .Eq x69 x70) (andB (bnd (ret s20) fun x67 => bnd (ret (.int 0)) fun x68 => cmpB .Gt x67 x68))) fun b71 => iteM b71 (bnd (bnd (bnd (bnd (bnd (bnd (ret (.int 1)) fun d75 => bnd (bnd (ret (.int 1)) fun d73 => bnd (ret []) fun ds74 => ret (d73 :: ds74)) fun ds76 => ret (d75 :: ds76)) mkT) fun d77 => bnd (ret []) fun ds78 => ret (d77 :: ds78)) newL) fun x85 => bnd (bnd (ret (.int 1)) fun x83 => bnd (bnd (bnd (ret v_law_pool_here) fun d81 => bnd (bnd (ret (.int 6)) fun d79 => bnd (ret []) fun ds80 => ret (d79 :: ds80)) fun ds82 => ret (d81 :: ds82)) m_law_take) fun x84 => binM .Add x83 x84) fun x86 => repM x85 x86) fun x91 => bnd (ret v_law_lists) fun x92 => bnd (bnd (bnd (ret v_law_pool_here) fun d89 => bnd (bnd (ret s20) fun d87 => bnd (ret []) fun ds88 => ret (d87 :: ds88)) fun ds90 => ret (d89 :: ds90)) m_law_take) fun x93 => bnd (stM x92 x93 x91) fun _ => (ret (.nx (())))) (ret (.nx (())))) fun (s72 : Unit) => (seqF (bnd (bnd (bnd (ret v_law_spoil) fun x96 => bnd (ret (.int 1)) fun x97 => cmpB .Eq x96 x97) (andB (bnd (ret s20) fun x94 => bnd (ret (.int 0)) fun x95 => cmpB .Gt x94 x95))) fun b98 => iteM b98 (bnd (bnd (ret v_law_lists) fun x104 => bnd (bnd (bnd (ret v_law_pool_here) fun d102 => bnd (bnd (ret s20) fun d100 => bnd (ret []) fun ds101 => ret (d100 :: ds101)) fun ds103 => ret (d102 :: ds103)) m_law_take) fun x105 => ixM x104 x105) fun v_law_row => (bnd (bnd (bnd (bnd (bnd (ret (.int 2)) fun d108 => bnd (bnd (ret (.int 4)) fun d106 => bnd (ret []) fun ds107 => ret (d106 :: ds107)) fun ds109 => ret (d108 :: ds109)) mkT) fun d132 => bnd (bnd (bnd (bnd (ret (.int 1)) fun d112 => bnd (bnd (ret (.int 0)) fun d110 => bnd (ret []) fun ds111 => ret (d110 :: ds111)) fun ds113 => ret (d112 :: ds113)) mkT) fun d130 => bnd (bnd (ret (.int 3)) fun d128 => bnd (bnd (ret .non) fun d126 => bnd (bnd (bnd (bnd (ret (.int 1)) fun d116 => bnd (bnd (ret (.int 1)) fun d114 => bnd (ret []) fun ds115 => ret (d114 :: ds115)) fun ds117 => ret (d116 :: ds117)) mkL) fun d124 => bnd (bnd (bnd (bnd (ret (.bl true)) fun d120 => bnd (bnd (ret (.int 1)) fun d118 => bnd (ret []) fun ds119 => ret (d118 :: ds119)) fun ds121 => ret (d120 :: ds121)) mkT) fun d122 => bnd (ret []) fun ds123 => ret (d122 :: ds123)) fun ds125 => ret (d124 :: ds125)) fun ds127 => ret (d126 :: ds127)) fun ds129 => ret (d128 :: ds129)) fun ds131 => ret (d130 :: ds131)) fun ds133 => ret (d132 :: ds133)) mkL) fun v_law_odd => (bnd (bnd (ret v_law_odd) fun x138 => bnd (bnd (bnd (ret v_law_pool_here) fun d136 => bnd (bnd (ret (.int 6)) fun d134 => bnd (ret []) fun ds135 => ret (d134 :: ds135)) fun ds137 => ret (d136 :: ds137)) m_law_take) fun x139 => ixM x138 x139) fun x144 => bnd (ret v_law_row) fun x145 => bnd (bnd (bnd (ret v_law_pool_here) fun d142 => bnd (bnd (ret v_law_players) fun d140 => bnd (ret []) fun ds141 => ret (d140 :: ds141)) fun ds143 => ret (d142 :: ds143)) m_law_take) fun x146 => bnd (stM x145 x146 x144) fun _ => (ret (.nx (())))))) (ret (.nx (())))) fun (s99 : Unit) => (seqF (bnd (bnd (bnd (ret v_law_spoil) fun x149 => bnd (ret (.int 2)) fun x150 => cmpB .Eq x149 x150) (andB (bnd (ret s20) fun x147 => bnd (ret (.int 0)) fun x148 => cmpB .Gt x147 x148))) fun b151 => iteM b151 (bnd (bnd (ret []) mkL) fun x157 => bnd (ret v_law_lists) fun x158 => bnd (bnd (bnd (ret v_law_pool_here) fun d155 => bnd (bnd (ret s20) fun d153 => bnd (ret []) fun ds154 => ret (d153 :: ds154)) fun ds156 => ret (d155 :: ds156)) m_law_take) fun x159 => bnd (stM x158 x159 x157) fun _ => (ret (.nx (())))) (ret (.nx (())))) fun (s152 : Unit) => (bnd (frzdM v_law_lists) fun v_law_lists => (bnd (bnd (bnd (bnd (ret v_law_pool_here) fun d162 => bnd (bnd (ret s20) fun d160 => bnd (ret []) fun ds161 => ret (d160 :: ds161)) fun ds163 => ret (d162 :: ds163)) m_law_shares) frzM) fun v_law_shares_here => (bnd (bnd (bnd (bnd (bnd (ret v_law_lists) seqM) fun ds167 => bnd (compM (fun v_law_row_164 => bnd (bnd (bnd (ret v_law_row_164) fun d165 => bnd (ret []) fun ds166 => ret (d165 :: ds166)) listM) someM) ds167 []) lsM) fun d172 => bnd (bnd (bnd (bnd (ret v_law_shares_here) fun d168 => bnd (ret []) fun ds169 => ret (d168 :: ds169)) listM) fun d170 => bnd (ret []) fun ds171 => ret (d170 :: ds171)) fun ds173 => ret (d172 :: ds173)) mkL) fun v_law_saved => (bnd (bnd (bnd (bnd (ret v_law_lists) fun d176 => bnd (bnd (ret v_law_shares_here) fun d174 => bnd (ret []) fun ds175 => ret (d174 :: ds175)) fun ds177 => ret (d176 :: ds177)) m_law_due) frzM) fun v_law_due_here => (bnd (bnd (bnd (bnd (bnd (ret v_law_lists) fun d180 => bnd (bnd (ret v_law_shares_here) fun d178 => bnd (ret []) fun ds179 => ret (d178 :: ds179)) fun ds181 => ret (d180 :: ds181)) m_law_told) frzM) fun x182 => bnd (ret v_law_due_here) fun x183 => cmpB .NotEq x182 x183) fun b184 => iteM b184 (bnd (ret (.bl false)) rtM) (bnd (bnd (bnd (bnd (bnd (bnd (bnd (bnd (bnd (ret v_law_lists) seqM) fun ds188 => bnd (compM (fun v_law_row_185 => bnd (bnd (bnd (ret v_law_row_185) fun d186 => bnd (ret []) fun ds187 => ret (d186 :: ds187)) tupleM) someM) ds188 []) lsM) fun d189 => bnd (ret []) fun ds190 => ret (d189 :: ds190)) tupleM) fun d195 => bnd (bnd (bnd (bnd (ret v_law_shares_here) fun d191 => bnd (ret []) fun ds192 => ret (d191 :: ds192)) tupleM) fun d193 => bnd (ret []) fun ds194 => ret (d193 :: ds194)) fun ds196 => ret (d195 :: ds196)) m_law_told) frzM) fun x197 => bnd (ret v_law_due_here) fun x198 => cmpB .NotEq x197 x198) fun b199 => iteM b199 (bnd (ret (.bl false)) rtM) (bnd (bnd (bnd (bnd (bnd (bnd (ret v_law_lists) seqM) fun ds203 => bnd (compM (fun v_law_row_200 => bnd (bnd (bnd (ret v_law_row_200) fun d201 => bnd (ret []) fun ds202 => ret (d201 :: ds202)) listM) someM) ds203 []) lsM) fun d208 => bnd (bnd (bnd (bnd (ret v_law_shares_here) fun d204 => bnd (ret []) fun ds205 => ret (d204 :: ds205)) listM) fun d206 => bnd (ret []) fun ds207 => ret (d206 :: ds207)) fun ds209 => ret (d208 :: ds209)) mkL) fun x210 => bnd (ret v_law_saved) fun x211 => cmpB .NotEq x210 x211) fun b212 => iteM b212 (bnd (ret (.bl false)) rtM) (seqF (bnd (bnd (bnd (bnd (ret v_law_due_here) fun d215 => bnd (bnd (ret (.ty "list")) fun d213 => bnd (ret []) fun ds214 => ret (d213 :: ds214)) fun ds216 => ret (d215 :: ds216)) (isiO [])) truB) fun b217 => iteM b217 (bnd (bnd (bnd (bnd (ret v_law_lists) fun d221 => bnd (bnd (ret v_law_shares_here) fun d219 => bnd (ret []) fun ds220 => ret (d219 :: ds220)) fun ds222 => ret (d221 :: ds222)) m_blended) fun u223 => bnd (chkL u223) fun _ => bnd (ret (.int 7)) fun y224 => appM u223 y224) fun _ => (ret (.nx (())))) (ret (.nx (())))) fun (s218 : Unit) => (bnd (bnd (bnd (bnd (bnd (bnd (ret v_law_lists) fun d229 => bnd (bnd (ret v_law_shares_here) fun d227 => bnd (ret []) fun ds228 => ret (d227 :: ds228)) fun ds230 => ret (d229 :: ds230)) m_law_told) frzM) fun x231 => bnd (ret v_law_due_here) fun x232 => cmpM .Eq x231 x232) (andM (bnd (bnd (ret v_law_pool_here) fun d225 => bnd (ret []) fun ds226 => ret (d225 :: ds226)) m_law_calm_blends))) rtM))))))))))))))))))))
def m_law : SpX := sp1 fun v_law_script => fnM (b_law v_law_script)
theorem ok_law {P : Program} {w : World} {K : PySem.W.Frag} {mg : Str → Option Value} {base : Heap} {k : Nat} {f : Addr} {fd : FuncData} (F : Fun K "law" "law" s_law f fd) (hk : 8 ≤ k) (m_int : mg "int" = none) (m_isinstance : mg "isinstance" = none) (m_list : mg "list" = none) (m_range : mg "range" = none) (m_tuple : mg "tuple" = none) (h_law_calm_blends : KnowsX P w K mg base k "_law_calm_blends" 1 [] m_law_calm_blends) (h_law_due : KnowsX P w K mg base k "_law_due" 2 [] m_law_due) (h_law_pool : KnowsX P w K mg base k "_law_pool" 1 [] m_law_pool) (h_law_ratio : KnowsX P w K mg base k "_law_ratio" 2 [] m_law_ratio) (h_law_shares : KnowsX P w K mg base k "_law_shares" 2 [] m_law_shares) (h_law_take : KnowsX P w K mg base k "_law_take" 2 [] m_law_take) (h_law_told : KnowsX P w K mg base k "_law_told" 2 [] m_law_told) (h_blended : KnowsX P w K mg base k "blended" 2 [] m_blended) : FnOk P w K mg base CX0 (k + 1) f fd ["_law_script"] (lift K fun ds m R => m_law ds m R NoX) :=
  fn_law F sc_law fun cdv A outer s H hr v_law_script => by
    have hu := hr.units
    exact (bf_set (ev_call h_law_pool (hr.mono (by omega)) (eva_cons (ev_var .here) eva_nil)) (fun _ => (.there .here)) (fun v_law_pool_here => (bf_set (ev_bin ev_int (ev_call h_law_take (hr.mono (by omega)) (eva_cons (ev_var (.there .here)) (eva_cons ev_int eva_nil)))) (fun _ => (.there (.there .here))) (fun v_law_players => (bf_set (ev_call h_law_take (hr.mono (by omega)) (eva_cons (ev_var (.there .here)) (eva_cons ev_int eva_nil))) (fun _ => (.there (.there (.there .here)))) (fun v_law_many => (bf_if (e1 := (fun (s20 : D) => [("_law_script", some v_law_script), ("_law_pool_here", some v_law_pool_here), ("_law_players", some v_law_players), ("_law_many", some s20), ("_law_far", none), ("_law_lists", none), ("_law_k", none), ("_law_player", none), ("_law_spoil", none), ("_law_row", none), ("_law_odd", none), ("_law_shares_here", none), ("_law_saved", none), ("_law_due_here", none)])) (tv_cmp hu (ev_call h_law_take (hr.mono (by omega)) (eva_cons (ev_var (.there .here)) (eva_cons ev_int eva_nil))) ev_int) (bf_set ev_int (fun _ => (.there (.there (.there .here)))) (fun v_law_many => (bf_nil (l := (.same (.same (.same (.same (.same (.same (.same (.same (.same (.same (.same (.same (.same (.same .nil)))))))))))))))))) (bf_nil (l := (.same (.same (.same (.same (.same (.same (.same (.same (.same (.same (.same (.same (.same (.same .nil)))))))))))))))) (fun s20 => (bf_set (ev_bin (ev_bin ev_int ev_int) (ev_blT m_int bt_int intM_ok (eva_cons (ev_cmp hu (ev_call h_law_take (hr.mono (by omega)) (eva_cons (ev_var (.there .here)) (eva_cons ev_int eva_nil))) ev_int) eva_nil))) (fun _ => (.there (.there (.there (.there .here))))) (fun v_law_far => (bf_set (ev_lstM eva_nil) (fun _ => (.there (.there (.there (.there (.there .here)))))) (fun v_law_lists => (bf_for (e1 := (fun (s33 : Unit) => [("_law_script", some v_law_script), ("_law_pool_here", some v_law_pool_here), ("_law_players", some v_law_players), ("_law_many", some s20), ("_law_far", some v_law_far), ("_law_lists", some v_law_lists), ("_law_k", none), ("_law_player", none), ("_law_spoil", none), ("_law_row", none), ("_law_odd", none), ("_law_shares_here", none), ("_law_saved", none), ("_law_due_here", none)])) (iv_range1 m_range (ev_var (.there (.there (.there .here))))) (.same (.same (.same (.same (.same (.same (.same (.same (.same (.same (.same (.same (.same (.same .nil)))))))))))))) (fun v_law_k s33 => bg_name (.there (.there (.there (.there (.there (.there .here)))))) (bf_expr (ev_append (ev_var (.there (.there (.there (.there (.there .here)))))) (ev_lstM eva_nil)) (bf_for (e1 := (fun (s37 : Unit) => [("_law_script", some v_law_script), ("_law_pool_here", some v_law_pool_here), ("_law_players", some v_law_players), ("_law_many", some s20), ("_law_far", some v_law_far), ("_law_lists", some v_law_lists), ("_law_k", some v_law_k), ("_law_player", none), ("_law_spoil", none), ("_law_row", none), ("_law_odd", none), ("_law_shares_here", none), ("_law_saved", none), ("_law_due_here", none)])) (iv_range1 m_range (ev_var (.there (.there .here)))) (.same (.same (.same (.same (.same (.same (.same (.same (.same (.same (.same (.same (.same (.same .nil)))))))))))))) (fun v_law_player s37 => bg_name (.there (.there (.there (.there (.there (.there (.there .here))))))) (bf_expr (ev_append (ev_ix hu (ev_var (.there (.there (.there (.there (.there .here)))))) (ev_var (.there (.there (.there (.there (.there (.there .here)))))))) (ev_call h_law_ratio (hr.mono (by omega)) (eva_cons (ev_bin (ev_bin (ev_var (.there (.there (.there (.there .here))))) (ev_call h_law_take (hr.mono (by omega)) (eva_cons (ev_var (.there .here)) (eva_cons ev_int eva_nil)))) ev_int) (eva_cons (ev_bin (ev_bin (ev_var (.there (.there (.there (.there .here))))) ev_int) (ev_call h_law_take (hr.mono (by omega)) (eva_cons (ev_var (.there .here)) (eva_cons ev_int eva_nil)))) eva_nil)))) (bf_nil (l := (.same (.same (.same (.same (.same (.same (.same (.drop (.same (.same (.same (.same (.same (.same .nil)))))))))))))))))) (fun s37 => (bf_nil (l := (.same (.same (.same (.same (.same (.same (.drop (.same (.same (.same (.same (.same (.same (.same .nil)))))))))))))))))))) (fun s33 => (bf_set (ev_call h_law_take (hr.mono (by omega)) (eva_cons (ev_var (.there .here)) (eva_cons ev_int eva_nil))) (fun _ => (.there (.there (.there (.there (.there (.there (.there (.there .here))))))))) (fun v_law_spoil => (bf_if (e1 := (fun (s72 : Unit) => [("_law_script", some v_law_script), ("_law_pool_here", some v_law_pool_here), ("_law_players", some v_law_players), ("_law_many", some s20), ("_law_far", some v_law_far), ("_law_lists", some v_law_lists), ("_law_k", none), ("_law_player", none), ("_law_spoil", some v_law_spoil), ("_law_row", none), ("_law_odd", none), ("_law_shares_here", none), ("_law_saved", none), ("_law_due_here", none)])) (tv_w (wv_and (tv_cmp hu (ev_var (.there (.there (.there (.there (.there (.there (.there (.there .here))))))))) ev_int) (wv_and1 (tv_cmp hu (ev_var (.there (.there (.there .here)))) ev_int)))) (bf_sub hu (ev_rep (ev_lstM (eva_cons (ev_tup (eva_cons ev_int (eva_cons ev_int eva_nil))) eva_nil)) (ev_bin ev_int (ev_call h_law_take (hr.mono (by omega)) (eva_cons (ev_var (.there .here)) (eva_cons ev_int eva_nil))))) (ev_var (.there (.there (.there (.there (.there .here)))))) (ev_call h_law_take (hr.mono (by omega)) (eva_cons (ev_var (.there .here)) (eva_cons (ev_var (.there (.there (.there .here)))) eva_nil))) (bf_nil (l := (.same (.same (.same (.same (.same (.same (.same (.same (.same (.same (.same (.same (.same (.same .nil))))))))))))))))) (bf_nil (l := (.same (.same (.same (.same (.same (.same (.same (.same (.same (.same (.same (.same (.same (.same .nil)))))))))))))))) (fun s72 => (bf_if (e1 := (fun (s99 : Unit) => [("_law_script", some v_law_script), ("_law_pool_here", some v_law_pool_here), ("_law_players", some v_law_players), ("_law_many", some s20), ("_law_far", some v_law_far), ("_law_lists", some v_law_lists), ("_law_k", none), ("_law_player", none), ("_law_spoil", some v_law_spoil), ("_law_row", none), ("_law_odd", none), ("_law_shares_here", none), ("_law_saved", none), ("_law_due_here", none)])) (tv_w (wv_and (tv_cmp hu (ev_var (.there (.there (.there (.there (.there (.there (.there (.there .here))))))))) ev_int) (wv_and1 (tv_cmp hu (ev_var (.there (.there (.there .here)))) ev_int)))) (bf_set (ev_ix hu (ev_var (.there (.there (.there (.there (.there .here)))))) (ev_call h_law_take (hr.mono (by omega)) (eva_cons (ev_var (.there .here)) (eva_cons (ev_var (.there (.there (.there .here)))) eva_nil)))) (fun _ => (.there (.there (.there (.there (.there (.there (.there (.there (.there .here)))))))))) (fun v_law_row => (bf_set (ev_lst (eva_cons (ev_tup (eva_cons ev_int (eva_cons ev_int eva_nil))) (eva_cons (ev_tup (eva_cons ev_int (eva_cons ev_int eva_nil))) (eva_cons ev_int (eva_cons ev_non (eva_cons (ev_lst (eva_cons ev_int (eva_cons ev_int eva_nil))) (eva_cons (ev_tup (eva_cons ev_bl (eva_cons ev_int eva_nil))) eva_nil))))))) (fun _ => (.there (.there (.there (.there (.there (.there (.there (.there (.there (.there .here))))))))))) (fun v_law_odd => (bf_sub hu (ev_ix hu (ev_var (.there (.there (.there (.there (.there (.there (.there (.there (.there (.there .here))))))))))) (ev_call h_law_take (hr.mono (by omega)) (eva_cons (ev_var (.there .here)) (eva_cons ev_int eva_nil)))) (ev_var (.there (.there (.there (.there (.there (.there (.there (.there (.there .here)))))))))) (ev_call h_law_take (hr.mono (by omega)) (eva_cons (ev_var (.there .here)) (eva_cons (ev_var (.there (.there .here))) eva_nil))) (bf_nil (l := (.same (.same (.same (.same (.same (.same (.same (.same (.same (.drop (.drop (.same (.same (.same .nil))))))))))))))))))))) (bf_nil (l := (.same (.same (.same (.same (.same (.same (.same (.same (.same (.same (.same (.same (.same (.same .nil)))))))))))))))) (fun s99 => (bf_if (e1 := (fun (s152 : Unit) => [("_law_script", some v_law_script), ("_law_pool_here", some v_law_pool_here), ("_law_players", some v_law_players), ("_law_many", some s20), ("_law_far", some v_law_far), ("_law_lists", some v_law_lists), ("_law_k", none), ("_law_player", none), ("_law_spoil", some v_law_spoil), ("_law_row", none), ("_law_odd", none), ("_law_shares_here", none), ("_law_saved", none), ("_law_due_here", none)])) (tv_w (wv_and (tv_cmp hu (ev_var (.there (.there (.there (.there (.there (.there (.there (.there .here))))))))) ev_int) (wv_and1 (tv_cmp hu (ev_var (.there (.there (.there .here)))) ev_int)))) (bf_sub hu (ev_lst eva_nil) (ev_var (.there (.there (.there (.there (.there .here)))))) (ev_call h_law_take (hr.mono (by omega)) (eva_cons (ev_var (.there .here)) (eva_cons (ev_var (.there (.there (.there .here)))) eva_nil))) (bf_nil (l := (.same (.same (.same (.same (.same (.same (.same (.same (.same (.same (.same (.same (.same (.same .nil))))))))))))))))) (bf_nil (l := (.same (.same (.same (.same (.same (.same (.same (.same (.same (.same (.same (.same (.same (.same .nil)))))))))))))))) (fun s152 => (bf_frzd (.there (.there (.there (.there (.there .here))))) (fun _ => (.there (.there (.there (.there (.there .here)))))) (fun v_law_lists => (bf_set (ev_frz (ev_call h_law_shares (hr.mono (by omega)) (eva_cons (ev_var (.there .here)) (eva_cons (ev_var (.there (.there (.there .here)))) eva_nil)))) (fun _ => (.there (.there (.there (.there (.there (.there (.there (.there (.there (.there (.there .here)))))))))))) (fun v_law_shares_here => (bf_set (ev_lst (eva_cons (ev_lc (.there (.there (.there (.there (.there (.there (.there (.there (.there .here))))))))) (iv_seq (ev_var (.there (.there (.there (.there (.there .here))))))) (cv0 (fun _ => (.there (.there (.there (.there (.there (.there (.there (.there (.there .here)))))))))) (fun v_law_row_164 s0 H0 C0 cl0 fp0 => (ev_blT m_list bt_list (listM_ok rfl) (eva_cons (ev_var (.there (.there (.there (.there (.there (.there (.there (.there (.there .here)))))))))) eva_nil))))) (eva_cons (ev_blT m_list bt_list (listM_ok rfl) (eva_cons (ev_var (.there (.there (.there (.there (.there (.there (.there (.there (.there (.there (.there .here)))))))))))) eva_nil)) eva_nil))) (fun _ => (.there (.there (.there (.there (.there (.there (.there (.there (.there (.there (.there (.there .here))))))))))))) (fun v_law_saved => (bf_set (ev_frz (ev_call h_law_due (hr.mono (by omega)) (eva_cons (ev_var (.there (.there (.there (.there (.there .here)))))) (eva_cons (ev_var (.there (.there (.there (.there (.there (.there (.there (.there (.there (.there (.there .here)))))))))))) eva_nil)))) (fun _ => (.there (.there (.there (.there (.there (.there (.there (.there (.there (.there (.there (.there (.there .here)))))))))))))) (fun v_law_due_here => (bf_ifX (tv_cmp hu (ev_frz (ev_call h_law_told (hr.mono (by omega)) (eva_cons (ev_var (.there (.there (.there (.there (.there .here)))))) (eva_cons (ev_var (.there (.there (.there (.there (.there (.there (.there (.there (.there (.there (.there .here)))))))))))) eva_nil)))) (ev_var (.there (.there (.there (.there (.there (.there (.there (.there (.there (.there (.there (.there (.there .here))))))))))))))) (bf_ret ev_bl) (bf_ifX (tv_cmp hu (ev_frz (ev_call h_law_told (hr.mono (by omega)) (eva_cons (ev_blT m_tuple bt_tuple tupleM_ok (eva_cons (ev_lc (.there (.there (.there (.there (.there (.there (.there (.there (.there .here))))))))) (iv_seq (ev_var (.there (.there (.there (.there (.there .here))))))) (cv0 (fun _ => (.there (.there (.there (.there (.there (.there (.there (.there (.there .here)))))))))) (fun v_law_row_185 s0 H0 C0 cl0 fp0 => (ev_blT m_tuple bt_tuple tupleM_ok (eva_cons (ev_var (.there (.there (.there (.there (.there (.there (.there (.there (.there .here)))))))))) eva_nil))))) eva_nil)) (eva_cons (ev_blT m_tuple bt_tuple tupleM_ok (eva_cons (ev_var (.there (.there (.there (.there (.there (.there (.there (.there (.there (.there (.there .here)))))))))))) eva_nil)) eva_nil)))) (ev_var (.there (.there (.there (.there (.there (.there (.there (.there (.there (.there (.there (.there (.there .here))))))))))))))) (bf_ret ev_bl) (bf_ifX (tv_cmp hu (ev_lst (eva_cons (ev_lc (.there (.there (.there (.there (.there (.there (.there (.there (.there .here))))))))) (iv_seq (ev_var (.there (.there (.there (.there (.there .here))))))) (cv0 (fun _ => (.there (.there (.there (.there (.there (.there (.there (.there (.there .here)))))))))) (fun v_law_row_200 s0 H0 C0 cl0 fp0 => (ev_blT m_list bt_list (listM_ok rfl) (eva_cons (ev_var (.there (.there (.there (.there (.there (.there (.there (.there (.there .here)))))))))) eva_nil))))) (eva_cons (ev_blT m_list bt_list (listM_ok rfl) (eva_cons (ev_var (.there (.there (.there (.there (.there (.there (.there (.there (.there (.there (.there .here)))))))))))) eva_nil)) eva_nil))) (ev_var (.there (.there (.there (.there (.there (.there (.there (.there (.there (.there (.there (.there .here)))))))))))))) (bf_ret ev_bl) (bf_if (e1 := (fun (s218 : Unit) => [("_law_script", some v_law_script), ("_law_pool_here", some v_law_pool_here), ("_law_players", some v_law_players), ("_law_many", some s20), ("_law_far", some v_law_far), ("_law_lists", some v_law_lists), ("_law_k", none), ("_law_player", none), ("_law_spoil", some v_law_spoil), ("_law_row", none), ("_law_odd", none), ("_law_shares_here", some v_law_shares_here), ("_law_saved", some v_law_saved), ("_law_due_here", some v_law_due_here)])) (tv_val (ev_blt m_isinstance bt_isinstance (isiO_ok (by intro cn h; simp at h)) (eva_cons (ev_var (.there (.there (.there (.there (.there (.there (.there (.there (.there (.there (.there (.there (.there .here)))))))))))))) (eva_cons (ev_ty m_list bt_list) eva_nil)))) (bf_expr (ev_append (ev_call h_blended (hr.mono (by omega)) (eva_cons (ev_var (.there (.there (.there (.there (.there .here)))))) (eva_cons (ev_var (.there (.there (.there (.there (.there (.there (.there (.there (.there (.there (.there .here)))))))))))) eva_nil))) ev_int) (bf_nil (l := (.same (.same (.same (.same (.same (.same (.same (.same (.same (.same (.same (.same (.same (.same .nil))))))))))))))))) (bf_nil (l := (.same (.same (.same (.same (.same (.same (.same (.same (.same (.same (.same (.same (.same (.same .nil)))))))))))))))) (fun s218 => (bf_ret (ev_and (ev_cmp hu (ev_frz (ev_call h_law_told (hr.mono (by omega)) (eva_cons (ev_var (.there (.there (.there (.there (.there .here)))))) (eva_cons (ev_var (.there (.there (.there (.there (.there (.there (.there (.there (.there (.there (.there .here)))))))))))) eva_nil)))) (ev_var (.there (.there (.there (.there (.there (.there (.there (.there (.there (.there (.there (.there (.there .here))))))))))))))) (ev_one (ev_call h_law_calm_blends (hr.mono (by omega)) (eva_cons (ev_var (.there .here)) eva_nil))))))))))))))))))))))))))))))))))))))))
end K35


namespace K35
open PySem PySem.Spec PyProof.Rows L2 DL
local macro_rules | `(tactic| tm_at "bd") => `(tactic| (first
  | (with_reducible assumption)
  | ((with_reducible show Bd _ (_ * _)); refine Bd.mulR (by tm_at "bd") (by tm_at "bd"))
  | ((with_reducible show Bd _ (_ + _)); refine Bd.addR (by tm_at "bd") (by tm_at "bd"))
  | ((with_reducible show Bd _ (_ - _)); refine Bd.subR (by tm_at "bd") (by tm_at "bd"))
  | ((with_reducible show Bd _ (-_)); refine Bd.negR (by tm_at "bd"))
  | (exact Bd.lit _)
  | (exact Bd.one)
  | assumption))
local macro_rules | `(tactic| tm_at "mul") => `(tactic| (exact Bd.mul (by tm_at "bd") (by tm_at "bd") (by decide)))
local macro_rules | `(tactic| tm_at "st") => `(tactic| (first
  | (with_reducible refine ret_i ?_)
  | (with_reducible refine intO_i ?_)
  | (with_reducible refine sl_T ?_)
  | (with_reducible refine sl_L ?_)
  | (with_reducible refine bnd_i ?_)
  | (with_reducible refine rtM_i ?_)
  | (with_reducible refine seqF_i ?_)
  | (with_reducible refine seqK_nx ?_)
  | (with_reducible refine seqK_rt ?_)
  | (with_reducible refine upF_i ?_)
  | (with_reducible refine fnM_i ?_)
  | (with_reducible refine fnK_i ?_)
  | (with_reducible refine fnRK_i ?_)
  | (with_reducible refine fnR_same ?_)
  | (with_reducible refine iteM_ti ?_)
  | (with_reducible refine iteM_fi ?_)
  | (with_reducible refine iteM_nti ?_)
  | (with_reducible refine iteM_nfi ?_)
  | (with_reducible refine add_i ?_)
  | (with_reducible refine sub_i ?_)
  | (with_reducible refine neg_i ?_)
  | (with_reducible refine iadd_i ?_)
  | (with_reducible refine eq_i ?_)
  | (with_reducible refine ne_i ?_)
  | (with_reducible refine lt_i ?_)
  | (with_reducible refine le_i ?_)
  | (with_reducible refine gt_i ?_)
  | (with_reducible refine ge_i ?_)
  | (with_reducible refine isN_i ?_)
  | (with_reducible refine isnN_i ?_)
  | (with_reducible refine cmpM_i ?_)
  | (with_reducible refine tru_int ?_)
  | (with_reducible refine tru_bl ?_)
  | (with_reducible refine tru_lst ?_)
  | (with_reducible refine tru_tup ?_)
  | (with_reducible refine notB_t ?_)
  | (with_reducible refine notB_f ?_)
  | (with_reducible refine notB_i ?_)
  | (with_reducible refine andB_t ?_)
  | (with_reducible refine andB_f ?_)
  | (with_reducible refine orB_t ?_)
  | (with_reducible refine orB_f ?_)
  | (with_reducible refine andM_ti ?_)
  | (with_reducible refine andM_fi ?_)
  | (with_reducible refine notM_t ?_)
  | (with_reducible refine notM_f ?_)
  | (with_reducible refine notM_i ?_)
  | (with_reducible refine abs_i ?_)
  | (with_reducible refine int_i ?_)
  | (with_reducible refine int_b ?_)
  | (with_reducible refine max_i ?_)
  | (with_reducible refine min_i ?_)
  | (with_reducible refine len_T ?_)
  | (with_reducible refine len_L ?_)
  | (with_reducible refine list_T ?_)
  | (with_reducible refine list_L ?_)
  | (with_reducible refine list_K ?_)
  | (with_reducible refine tuple_T ?_)
  | (with_reducible refine tuple_L ?_)
  | (with_reducible refine seq_T ?_)
  | (with_reducible refine seq_L ?_)
  | (with_reducible refine zip_L ?_)
  | (with_reducible refine zip_T ?_)
  | (with_reducible refine lsM_i ?_)
  | (with_reducible refine someM_i ?_)
  | (with_reducible refine ut2_i ?_)
  | (with_reducible refine un2_i ?_)
  | (with_reducible refine rai_i ?_)
  | (with_reducible refine sum_L ?_)
  | (with_reducible refine star_L ?_)
  | (with_reducible refine star_T ?_)
  | (with_reducible refine len_D ?_)
  | (with_reducible refine seq_D ?_)
  | (with_reducible refine dicG_f ?_)
  | (with_reducible refine dicG_t ?_)
  | (with_reducible refine pairM_i ?_)
  | (with_reducible refine tryN_i ?_)
  | (with_reducible refine ixO_o ?_)
  | (with_reducible refine isiO_pr (r := true) rfl (by decide) (by decide) ?_)
  | (with_reducible refine isiO_pr (r := false) rfl (by decide) (by decide) ?_)
  | (with_reducible refine isiO_2 (r := true) rfl (by decide) (by decide) (by decide) ?_)
  | (with_reducible refine isiO_2 (r := false) rfl (by decide) (by decide) (by decide) ?_)
  | (with_reducible refine isiO_dr (r := true) (by decide) (by decide) ?_)
  | (with_reducible refine isiO_dr (r := false) (by decide) (by decide) ?_)
  | (with_reducible refine isiO_d2 (r := false) (by decide) (by decide) (by decide) ?_)
  | (with_reducible refine isiO_o (by decide) (by decide) ?_)
  | (with_reducible refine isiO_o2 (by decide) (by decide) (by decide) ?_)
  | (with_reducible refine att_o rfl ?_)
  | (with_reducible refine chkO_o (by decide) ?_)
  | ((with_reducible show binM Operator.Mult (D.int _) (D.int _) _ _ _); refine mul_i (by tm_at "mul") ?_)
  | ((with_reducible show binM Operator.Mod (D.int _) (D.int _) _ _ _); refine mod_i (by first | assumption | omega | decide) ?_)
  | ((with_reducible show binM Operator.Pow (D.int _) (D.int _) _ _ _); refine pow_i (by refine ⟨?_, ?_, ?_⟩ <;> omega) ?_)
  | (with_reducible refine mkT_i (by first | decide | (simp <;> omega)) ?_)
  | (with_reducible refine mkL_i (by first | decide | (simp <;> omega)) ?_)
  | ((with_reducible refine ixT_i atI_0 ?_))
  | ((with_reducible refine ixT_i atI_1 ?_))
  | ((with_reducible refine ixT_i atI_2 ?_))
  | ((with_reducible refine ixL_i atI_0 ?_))
  | ((with_reducible refine ixL_i atI_1 ?_))
  | ((with_reducible refine ixL_i atI_2 ?_))))
local macro_rules | `(tactic| tm_at "en") => `(tactic| (first | (with_reducible refine sp1_i ?_) | (with_reducible refine sp2_i ?_) | (with_reducible refine sp3_i ?_) | (with_reducible refine sp4_i ?_) | (with_reducible refine sp5_i ?_) | (with_reducible refine sp6_i ?_)))
local macro_rules | `(tactic| tm_at "mm") => `(tactic| repeat (first
  | (with_reducible refine ret_i ?_)
  | (with_reducible refine intO_i ?_)
  | (with_reducible refine sl_T ?_)
  | (with_reducible refine sl_L ?_)
  | (with_reducible refine bnd_i ?_)
  | (with_reducible refine rtM_i ?_)
  | (with_reducible refine seqF_i ?_)
  | (with_reducible refine seqK_nx ?_)
  | (with_reducible refine seqK_rt ?_)
  | (with_reducible refine upF_i ?_)
  | (with_reducible refine fnM_i ?_)
  | (with_reducible refine fnK_i ?_)
  | (with_reducible refine fnRK_i ?_)
  | (with_reducible refine fnR_same ?_)
  | (with_reducible refine iteM_ti ?_)
  | (with_reducible refine iteM_fi ?_)
  | (with_reducible refine iteM_nti ?_)
  | (with_reducible refine iteM_nfi ?_)
  | (with_reducible refine add_i ?_)
  | (with_reducible refine sub_i ?_)
  | (with_reducible refine neg_i ?_)
  | (with_reducible refine iadd_i ?_)
  | (with_reducible refine eq_i ?_)
  | (with_reducible refine ne_i ?_)
  | (with_reducible refine lt_i ?_)
  | (with_reducible refine le_i ?_)
  | (with_reducible refine gt_i ?_)
  | (with_reducible refine ge_i ?_)
  | (with_reducible refine isN_i ?_)
  | (with_reducible refine isnN_i ?_)
  | (with_reducible refine cmpM_i ?_)
  | (with_reducible refine tru_int ?_)
  | (with_reducible refine tru_bl ?_)
  | (with_reducible refine tru_lst ?_)
  | (with_reducible refine tru_tup ?_)
  | (with_reducible refine notB_t ?_)
  | (with_reducible refine notB_f ?_)
  | (with_reducible refine notB_i ?_)
  | (with_reducible refine andB_t ?_)
  | (with_reducible refine andB_f ?_)
  | (with_reducible refine orB_t ?_)
  | (with_reducible refine orB_f ?_)
  | (with_reducible refine andM_ti ?_)
  | (with_reducible refine andM_fi ?_)
  | (with_reducible refine notM_t ?_)
  | (with_reducible refine notM_f ?_)
  | (with_reducible refine notM_i ?_)
  | (with_reducible refine abs_i ?_)
  | (with_reducible refine int_i ?_)
  | (with_reducible refine int_b ?_)
  | (with_reducible refine max_i ?_)
  | (with_reducible refine min_i ?_)
  | (with_reducible refine len_T ?_)
  | (with_reducible refine len_L ?_)
  | (with_reducible refine list_T ?_)
  | (with_reducible refine list_L ?_)
  | (with_reducible refine list_K ?_)
  | (with_reducible refine tuple_T ?_)
  | (with_reducible refine tuple_L ?_)
  | (with_reducible refine seq_T ?_)
  | (with_reducible refine seq_L ?_)
  | (with_reducible refine zip_L ?_)
  | (with_reducible refine zip_T ?_)
  | (with_reducible refine lsM_i ?_)
  | (with_reducible refine someM_i ?_)
  | (with_reducible refine ut2_i ?_)
  | (with_reducible refine un2_i ?_)
  | (with_reducible refine rai_i ?_)
  | (with_reducible refine sum_L ?_)
  | (with_reducible refine star_L ?_)
  | (with_reducible refine star_T ?_)
  | (with_reducible refine len_D ?_)
  | (with_reducible refine seq_D ?_)
  | (with_reducible refine dicG_f ?_)
  | (with_reducible refine dicG_t ?_)
  | (with_reducible refine pairM_i ?_)
  | (with_reducible refine tryN_i ?_)
  | (with_reducible refine ixO_o ?_)
  | (with_reducible refine isiO_pr (r := true) rfl (by decide) (by decide) ?_)
  | (with_reducible refine isiO_pr (r := false) rfl (by decide) (by decide) ?_)
  | (with_reducible refine isiO_2 (r := true) rfl (by decide) (by decide) (by decide) ?_)
  | (with_reducible refine isiO_2 (r := false) rfl (by decide) (by decide) (by decide) ?_)
  | (with_reducible refine isiO_dr (r := true) (by decide) (by decide) ?_)
  | (with_reducible refine isiO_dr (r := false) (by decide) (by decide) ?_)
  | (with_reducible refine isiO_d2 (r := false) (by decide) (by decide) (by decide) ?_)
  | (with_reducible refine isiO_o (by decide) (by decide) ?_)
  | (with_reducible refine isiO_o2 (by decide) (by decide) (by decide) ?_)
  | (with_reducible refine att_o rfl ?_)
  | (with_reducible refine chkO_o (by decide) ?_)
  | ((with_reducible show binM Operator.Mult (D.int _) (D.int _) _ _ _); refine mul_i (by tm_at "mul") ?_)
  | ((with_reducible show binM Operator.Mod (D.int _) (D.int _) _ _ _); refine mod_i (by first | assumption | omega | decide) ?_)
  | ((with_reducible show binM Operator.Pow (D.int _) (D.int _) _ _ _); refine pow_i (by refine ⟨?_, ?_, ?_⟩ <;> omega) ?_)
  | (with_reducible refine mkT_i (by first | decide | (simp <;> omega)) ?_)
  | (with_reducible refine mkL_i (by first | decide | (simp <;> omega)) ?_)
  | ((with_reducible refine ixT_i atI_0 ?_))
  | ((with_reducible refine ixT_i atI_1 ?_))
  | ((with_reducible refine ixT_i atI_2 ?_))
  | ((with_reducible refine ixL_i atI_0 ?_))
  | ((with_reducible refine ixL_i atI_1 ?_))
  | ((with_reducible refine ixL_i atI_2 ?_))))
local macro_rules | `(tactic| tm_at "bb") => `(tactic| repeat (first | (with_reducible refine bnd_i ?_) | (with_reducible refine ret_i ?_)))
def addG (gs : List (List Int)) (p : Int) : List (List Int) := gs ++ gs.map (· ++ [p])
def allG (n : Nat) : List (List Int) := (List.range n).foldl (fun gs p => addG gs (p : Nat)) [[]]
def grp : Nat → List (List Int)
  | 0 => []
  | n + 1 => [0] :: (grp n).map (fun g => 0 :: g.map (· + 1)) ++ (grp n).map (fun g => g.map (· + 1))
theorem grp_srt : ∀ n, n ≤ 5 → ([] :: grp n).Pairwise (fun a c => lexI c a = false) := by decide +kernel
theorem grp_perm : ∀ n, n ≤ 5 → ([] :: grp n).isPerm (allG n) = true := by decide +kernel
theorem grp_nodup : ∀ n, n ≤ 5 → (grp n).Nodup := by decide +kernel
def intsD (n : Nat) : List D := rangeD 0 n
theorem allG_succ (i : Nat) : allG (i + 1) = addG (allG i) (i : Nat) := by unfold allG; rw [List.range_succ, List.foldl_append]; rfl
theorem allG_small : ∀ i, i ≤ 5 → (allG i).length ≤ 32 ∧ ∀ g ∈ allG i, g.length ≤ 5 := by decide +kernel
theorem allG_first : ∀ i, i ≤ 5 → (allG i)[0]? = some [] := by decide +kernel
theorem cut_1 {x : D} {xs : List D} : DL.cutD (x :: xs) (some 1) none = xs := by
  unfold DL.cutD
  simp [HT.sIx]
theorem sort_cut {n : Nat} {m : Led} {R : D → Led → Prop} {E : XR} (hn : n ≤ 5) (k : R (.lst ([] :: grp n |>.map keyD)) m) : sortG false [.lst ((allG n).map keyD)] m R E :=
  sortT_f (.inr (allG_first n hn)) (List.isPerm_iff.mp (grp_perm n hn)) (grp_srt n hn) k

theorem law_groups_ok {n : Nat} {m : Led} {R : D → Led → Prop} {E : XR} (hn : n ≤ 5) (k : R (.lst ((grp n).map keyD)) m) : m_law_groups [.int (n : Int)] m R E := by
  unfold m_law_groups; tm_at "en"; unfold b_law_groups
  tm_at "mm"
  refine rng_i (by omega) (by omega) ?_
  tm_at "mm"
  rw [Int.toNat_natCast, rangeD_map]
  refine for_ind (fun xs (s : D) m' => m' = m ∧ ∃ i, xs = (List.range n).drop i ∧ i ≤ n ∧ s = .lst ((allG i).map keyD)) ?_ ?_ _ _ _ ⟨rfl, 0, rfl, Nat.zero_le _, rfl⟩
  · rintro x xs s m' ⟨rfl, i, hx, hi, rfl⟩ Q h1 _ _
    have hlt : i < n := by
      rcases Nat.lt_or_ge i n with h | h
      · exact h
      · rw [List.drop_eq_nil_of_le (by simpa using h)] at hx; cases hx
    rw [List.drop_eq_getElem_cons (by simpa using hlt)] at hx
    obtain ⟨rfl, rfl⟩ : i = x ∧ xs = (List.range n).drop (i + 1) := by simpa [eq_comm] using hx
    obtain ⟨s1, s2⟩ := allG_small i (by omega)
    tm_at "mm"
    refine comp_map (e := keyD) (g := fun g => keyD (g ++ [(i : Int)])) _ _ (fun g hg Q hq => ?_) (by simp; omega) ?_
    · have hgl := s2 g hg
      unfold keyD
      tm_at "mm"
      refine catT_i (by simp; omega) ?_
      tm_at "mm"
      simpa [keyD] using hq
    · tm_at "mm"
      refine cat_i (by simp; omega) ?_
      tm_at "mm"
      refine h1 _ _ ⟨rfl, i + 1, rfl, hlt, ?_⟩
      rw [allG_succ]
      simp [addG]
  · rintro s m' ⟨rfl, i, hx, hi, rfl⟩
    have e : i = n := by
      have := congrArg List.length hx
      simp at this
      omega
    subst e
    tm_at "mm"
    refine sort_cut hn ?_
    tm_at "mm"
    rw [List.map_cons, cut_1]
    exact k

def prs : List Int → List (Int × Int)
  | a :: b :: t => (a, b) :: prs (b :: t)
  | _ => []
def isG (n : Int) (g : List Int) : Bool := match g with
  | [] => false
  | a :: t => decide (0 ≤ a) && (decide ((a :: t).getLast (by simp) < n) && (prs (a :: t)).all (fun p => decide (p.1 < p.2)))
theorem grp_small : ∀ n, n ≤ 5 → (grp n).length ≤ 31 ∧ ∀ g ∈ grp n, g.length ≤ 5 := by decide +kernel

def wD (n : Nat) (w : List Int → Int) : D := .dI (grp n) ((grp n).map fun g => .int (w g))
theorem ix_w {n : Nat} {w : List Int → Int} {g : List Int} {m : Led} {R : D → Led → Prop} {E : XR} (hg : g ∈ grp n) (k : R (.int (w g)) m) : ixM (wD n w) (keyD g) m R E := by
  obtain ⟨i, hi⟩ := List.mem_iff_getElem?.mp hg
  exact ixD_i i hi (by rw [List.getElem?_map, hi]; rfl) k
def gameN : List Str := ["players", "listed", "worth_of", "whole"]
def gameV (n : Nat) (w : List Int → Int) : List D := [.int (n : Int), .lst ((grp n).map keyD), wD n w, .tup (rangeD 0 n)]
def gameD (n : Nat) (w : List Int → Int) : D := .obj "Game" gameN (gameV n w)
theorem pool_ok {ns : List Int} {m : Led} {R : D → Led → Prop} {E : XR} (k : ∀ p, R (.ref p) (m ++ [(p, poolO 0 0 ns)])) : m_law_pool [.lsk (ns.map D.int)] m R E := by
  show fnK (b_law_pool _) m R E
  unfold b_law_pool
  tm_at "mm"
  exact newL_i (by simp) k
theorem take_ok {p : Addr} {a c many : Int} {ns : List Int} {rest : Led} {R : D → Led → Prop} {E : XR} (hn : ns.length ≤ 63) (h0 : 0 < many) (ha : 0 ≤ a) (ha2 : a ≤ 1000000) (hc : 0 ≤ c) (hb : Bd 4000 many)
    (k : ∀ r a' c' : Int, 0 ≤ r → r < many → a ≤ a' → a' ≤ a + 1 → 0 ≤ c' → R (.int r) ((p, poolO a' c' ns) :: rest)) : m_law_take [.ref p, .int many] ((p, poolO a c ns) :: rest) R E := by
  show fnM (b_law_take _ _) _ R E
  unfold b_law_take
  have Ba : Bd 40 a := by unfold Bd; omega
  have hz : ∃ z, atI (ns.map D.int ++ [D.int 0]) (a % max 1 (((ns.map D.int).length : Nat) : Int)) = some (.int z) := by
    have h1 : (0 : Int) < max 1 (((ns.map D.int).length : Nat) : Int) := by omega
    have h2 := Int.emod_nonneg a (Int.ne_of_gt h1)
    have h3 := Int.emod_lt_of_pos a h1
    obtain ⟨j, hj⟩ := Int.eq_ofNat_of_zero_le h2
    have h4 : j < (ns ++ [0]).length := by
      rw [hj, List.length_map] at h3
      simp only [List.length_append, List.length_cons, List.length_nil]
      omega
    refine ⟨(ns ++ [0])[j], ?_⟩
    rw [hj]
    refine atI_nat ?_
    rw [show ns.map D.int ++ [D.int 0] = (ns ++ [0]).map D.int by simp, List.getElem?_map, List.getElem?_eq_getElem h4]
    rfl
  obtain ⟨z, hz⟩ := hz
  tm_at "mm"
  refine ixR_i 0 rfl atI_1 ?_
  tm_at "mm"
  have tail : ∀ (a0 c0 : Int), a ≤ a0 → a0 ≤ a + 1 → 0 ≤ c0 → (bnd (bnd (bnd (bnd (bnd (DL.ret (.ref p)) fun x59 => bnd (DL.ret (.int 1)) fun x60 => ixM x59 x60) fun d61 => bnd (DL.ret []) fun ds62 => DL.ret (d61 :: ds62)) intM) fun x63 => bnd (DL.ret (.int many)) fun x64 => binM .Mod x63 x64) fun v_law_digit => bnd (bnd (bnd (DL.ret (.ref p)) fun x65 => bnd (DL.ret (.int 1)) fun x66 => ixM x65 x66) fun x67 => bnd (DL.ret (.int many)) fun x68 => binM .FloorDiv x67 x68) fun x69 => bnd (DL.ret (.ref p)) fun x70 => bnd (DL.ret (.int 1)) fun x71 => bnd (DL.stM x70 x71 x69) fun _ => bnd (DL.ret v_law_digit) rtM) ((p, poolO a0 c0 ns) :: rest) (fnR ((p, poolO a c ns) :: rest) R) (fun nm fd m' => E nm fd (m'.take ((p, poolO a c ns) :: rest).length)) := by
    intro a0 c0 h1 h2 h3
    tm_at "mm"
    refine ixR_i 0 rfl atI_1 ?_
    tm_at "mm"
    refine ixR_i 0 rfl atI_1 ?_
    tm_at "mm"
    refine fdiv_i (hb.divG (by omega) (by decide)) ?_
    tm_at "mm"
    refine st_i 0 1 rfl rfl ?_
    tm_at "mm"
    refine fnR_len rfl ?_
    have e : c0.fdiv many = c0 / many := Int.fdiv_eq_ediv_of_nonneg _ (Int.le_of_lt h0)
    rw [e]
    exact k _ a0 (c0 / many) (Int.emod_nonneg _ (Int.ne_of_gt h0)) (Int.emod_lt_of_pos _ h0) h1 h2 (Int.ediv_nonneg h3 (Int.le_of_lt h0))
  refine iteM_dec (fun h => ?_) (fun h => ?_)
  · tm_at "mm"
    refine ixR_i 0 rfl atI_0 ?_
    tm_at "mm"
    refine st_i 0 0 rfl rfl ?_
    tm_at "mm"
    refine ixR_i 0 rfl atI_2 ?_
    tm_at "mm"
    refine cat_i (by simp; omega) ?_
    tm_at "mm"
    refine ixR_i 0 rfl atI_2 ?_
    tm_at "mm"
    refine ixL_i hz ?_
    tm_at "mm"
    refine iteM_dec (fun h2 => ?_) (fun h2 => ?_)
    · tm_at "mm"
      refine fdiv_i ((Bd.lit 11).divG (by decide) (by decide)) ?_
      tm_at "mm"
      refine fnR_len rfl ?_
      exact k _ (a + 1) c (Int.emod_nonneg _ (Int.ne_of_gt h0)) (Int.emod_lt_of_pos _ h0) (by omega) (by omega) hc
    · tm_at "mm"
      refine st_i 0 1 rfl rfl ?_
      tm_at "mm"
      have hz0 : 0 ≤ z := by
        have e : (10 : Int) ^ Int.toNat 18 = 1000000000000000000 := by decide
        rw [e] at h2
        omega
      exact tail (a + 1) z (by omega) (by omega) hz0
  · tm_at "mm"
    exact tail a c (by omega) (by omega) hc

def Gp (n : Nat) (g : List Int) : Prop := g ≠ [] ∧ g.Pairwise (· < ·) ∧ ∀ x ∈ g, 0 ≤ x ∧ x < n
theorem shift_id (g : List Int) : (g.map (· - 1)).map (· + 1) = g := by
  rw [List.map_map]
  conv => rhs; rw [← List.map_id g]
  apply List.map_congr_left
  intro x _
  show x - 1 + 1 = x
  omega
theorem Gp.down {n : Nat} {g : List Int} (h0 : g ≠ []) (h1 : g.Pairwise (· < ·)) (h2 : ∀ x ∈ g, 1 ≤ x ∧ x < (n : Int) + 1) : Gp n (g.map (· - 1)) := by
  refine ⟨by simpa using h0, List.pairwise_map.mpr (h1.imp fun {a b} h => by show a - 1 < b - 1; omega), fun x hx => ?_⟩
  obtain ⟨y, hy, rfl⟩ := List.mem_map.mp hx
  have := h2 y hy
  exact ⟨by omega, by omega⟩
theorem mem_grp : ∀ {n : Nat} {g : List Int}, Gp n g → g ∈ grp n
  | 0, g, ⟨h0, _, h2⟩ => by
    cases g with
    | nil => exact absurd rfl h0
    | cons x t => have := h2 x (by simp); omega
  | n + 1, [], ⟨h0, _, _⟩ => absurd rfl h0
  | n + 1, a :: t, ⟨_, h1, h2⟩ => by
    obtain ⟨q1, q2⟩ := List.pairwise_cons.mp h1
    have ha := h2 a (by simp)
    unfold grp
    have c1 : ((n + 1 : Nat) : Int) = (n : Int) + 1 := by omega
    by_cases e : a = 0
    · subst e
      cases t with
      | nil => simp
      | cons b u =>
        have hd : Gp n ((b :: u).map (· - 1)) := Gp.down (by simp) q2 fun x hx => by
          have h3 := q1 x hx
          have h4 := h2 x (by simp only [List.mem_cons]; right; simpa using hx)
          rw [c1] at h4
          omega
        have := mem_grp hd
        have hm : (0 :: ((b :: u).map (· - 1)).map (· + 1)) ∈ (grp n).map (fun g => (0 : Int) :: g.map (· + 1)) := List.mem_map.mpr ⟨_, this, rfl⟩
        rw [shift_id] at hm
        simp only [List.mem_append, List.mem_cons]
        exact .inl (.inr hm)
    · have hd : Gp n ((a :: t).map (· - 1)) := Gp.down (by simp) h1 fun x hx => by
        have h4 := h2 x hx
        rw [c1] at h4
        rcases List.mem_cons.mp hx with rfl | hx
        · omega
        · have := q1 x hx
          omega
      have := mem_grp hd
      have hm : ((a :: t).map (· - 1)).map (· + 1) ∈ (grp n).map (fun g => g.map (· + 1)) := List.mem_map.mpr ⟨_, this, rfl⟩
      rw [shift_id] at hm
      simp only [List.mem_append, List.mem_cons]
      exact .inr hm
def rng (n : Nat) : List Int := (List.range n).map fun i : Nat => (i : Int)
theorem rng_D (n : Nat) : rangeD 0 n = (rng n).map D.int := by
  rw [rangeD_map]
  simp [rng]
theorem rng_lt (n : Nat) : (rng n).Pairwise (· < ·) := by
  unfold rng
  rw [List.pairwise_map]
  exact List.pairwise_lt_range.imp fun h => by omega
theorem rng_mem {n : Nat} {x : Int} : x ∈ rng n ↔ 0 ≤ x ∧ x < n := by
  unfold rng
  rw [List.mem_map]
  constructor
  · rintro ⟨i, hi, rfl⟩
    rw [List.mem_range] at hi
    omega
  · rintro ⟨h1, h2⟩
    exact ⟨x.toNat, by rw [List.mem_range]; omega, by omega⟩
theorem rng_Gp {n : Nat} (h : 1 ≤ n) : Gp n (rng n) := by
  refine ⟨?_, rng_lt n, fun x hx => rng_mem.mp hx⟩
  intro e
  have : (0 : Int) ∈ rng n := rng_mem.mpr ⟨by omega, by omega⟩
  rw [e] at this
  cases this
theorem lt_nodup {l : List Int} (h : l.Pairwise (· < ·)) : l.Nodup := h.imp fun h => by omega
def Ord (n : Nat) (os : List Int) : Prop := os.Perm (rng n)
theorem Ord.nodup {n : Nat} {os : List Int} (h : Ord n os) : os.Nodup := h.symm.nodup_iff.mp (lt_nodup (rng_lt n))
theorem Ord.mem {n : Nat} {os : List Int} (h : Ord n os) {x : Int} : x ∈ os ↔ 0 ≤ x ∧ x < n := h.mem_iff.trans rng_mem
theorem Ord.len {n : Nat} {os : List Int} (h : Ord n os) : os.length = n := by rw [h.length_eq]; simp [rng]
def srt (l : List Int) : List Int := l.mergeSort (fun a b => decide (a ≤ b))
def preW (w : List Int → Int) (os : List Int) (i : Nat) : Int := if i = 0 then 0 else w (srt (os.take i))
def addW (w : List Int → Int) (os : List Int) : Nat → List Int
  | 0 => List.replicate os.length 0
  | i + 1 => (addW w os i).set (os[i]?.getD 0).toNat (preW w os (i + 1) - preW w os i)
local macro_rules | `(tactic| tm_at "tk") => `(tactic| (refine take_ok (by assumption) (by omega) (by omega) (by omega) (by assumption) ((Bd.lit _).up (by decide)) ?_))
theorem comp_pool {α β : Type} {f : D → M (Option D)} {e : α → D} {P : β → Prop} {g : α → β → D} {p : Addr} {ns : List Int} {rest : Led} {s : Nat} {A : Int} {E : XR} {R : List D → Led → Prop} : ∀ (xs : List α) (acc : List D) (a c : Int), 0 ≤ a → a + (s * xs.length : Nat) ≤ A → 0 ≤ c →
    (∀ x ∈ xs, ∀ a c : Int, 0 ≤ a → a ≤ A → 0 ≤ c → ∀ Q : Option D → Led → Prop, (∀ v a' c', P v → a ≤ a' → a' ≤ a + s → 0 ≤ c' → Q (some (g x v)) ((p, poolO a' c' ns) :: rest)) → f (e x) ((p, poolO a c ns) :: rest) Q NoX) →
    acc.length + xs.length ≤ 100000 →
    (∀ (vs : List β) (a' c' : Int), vs.length = xs.length → (∀ v ∈ vs, P v) → a ≤ a' → a' ≤ a + (s * xs.length : Nat) → 0 ≤ c' → R (acc ++ List.zipWith g xs vs) ((p, poolO a' c' ns) :: rest)) → compM f (xs.map e) acc ((p, poolO a c ns) :: rest) R E
  | [], acc, a, c, h1, h2, h3, hf, hl, k => by
    have := k [] a c rfl (by simp) (by omega) (by simp) h3
    simp at this
    exact this
  | x :: xs, acc, a, c, h1, h2, h3, hf, hl, k => by
    have e1 : s * (x :: xs).length = s + s * xs.length := by rw [List.length_cons, Nat.mul_succ]; omega
    rw [e1] at h2
    refine hf x List.mem_cons_self a c h1 (by omega) h3 _ fun v a1 c1 p1 h4 h5 h6 => ⟨by simp at hl; omega, ?_⟩
    refine comp_pool xs (acc ++ [g x v]) a1 c1 (by omega) (by omega) h6 (fun y hy => hf y (List.mem_cons_of_mem _ hy)) (by simp at hl ⊢; omega) fun vs a2 c2 q1 q2 q3 q4 q5 => ?_
    have := k (v :: vs) a2 c2 (by simp [q1]) (by
      intro z hz
      rcases List.mem_cons.mp hz with rfl | hz
      · exact p1
      · exact q2 z hz) (by omega) (by rw [e1]; omega) q5
    simpa using this
theorem fnR_rt {m m' : Led} {d : D} {R : D → Led → Prop} (h : R d (m'.take m.length)) : fnR m R (.rt d) m' := h
section
variable {p : Addr} {a c : Int} {ns : List Int} {rest : Led} {R : D → Led → Prop} {E : XR} {n : Nat} {m : Led}
theorem few_ok (hn : ns.length ≤ 63) (ha : 0 ≤ a) (ha2 : a ≤ 900000) (hc : 0 ≤ c)
    (k : ∀ (n : Nat) (a' c' : Int), 1 ≤ n → n ≤ 5 → a ≤ a' → a' ≤ a + 2 → 0 ≤ c' → R (.int (n : Int)) ((p, poolO a' c' ns) :: rest)) : m_law_few [.ref p] ((p, poolO a c ns) :: rest) R E := by
  unfold m_law_few; tm_at "en"; unfold b_law_few
  tm_at "mm"
  tm_at "tk"
  intro r a1 c1 h1 h2 h3 h4 h5
  tm_at "mm"
  have key : ∀ z : Int, 0 < z → z ≤ 5 → Bd 4000 z → m_law_take [.ref p, .int z] ((p, poolO a1 c1 ns) :: rest) (fun x20 m' => binM .Add (.int 1) x20 m' (fun d m' => rtM d m' (fnR ((p, poolO a c ns) :: rest) R) (fun nm fd m' => E nm fd (m'.take ((p, poolO a c ns) :: rest).length))) (fun nm fd m' => E nm fd (m'.take ((p, poolO a c ns) :: rest).length))) (fun nm fd m' => E nm fd (m'.take ((p, poolO a c ns) :: rest).length)) := by
    intro z z1 z2 z3
    refine take_ok hn z1 (by omega) (by omega) h5 z3 ?_
    intro r2 a2 c2 h8 h9 h10 h11 h12
    tm_at "mm"
    refine fnR_len rfl ?_
    obtain ⟨j, rfl⟩ := Int.eq_ofNat_of_zero_le h8
    have := k (1 + j) a2 c2 (by omega) (by omega) (by omega) (by omega) h12
    simpa using this
  by_cases e : r = 0
  · subst e
    rw [decide_eq_true rfl]
    refine ixL_i atI_1 ?_
    tm_at "mm"
    exact key 5 (by decide) (by decide) ((Bd.lit _).up (by decide))
  · rw [decide_eq_false e]
    refine ixL_i atI_0 ?_
    tm_at "mm"
    exact key 4 (by decide) (by decide) ((Bd.lit _).up (by decide))
def vD (n : Nat) (vs : List Int) : MO := .dI (grp n) (vs.map D.int)
end

section
variable {p : Addr} {a c : Int} {ns : List Int} {rest : Led} {R : D → Led → Prop} {E : XR} {n : Nat} {m : Led}
def wOk (n : Nat) (w : List Int → Int) : Prop := ∀ g, -1000 ≤ w g ∧ w g ≤ 1000
theorem rng_mem_grp (h0 : 1 ≤ n) : rng n ∈ grp n := mem_grp (rng_Gp h0)
theorem grp_in (h5 : n ≤ 5) : ∀ g ∈ grp n, ∀ x ∈ g, 0 ≤ x ∧ x < n := by
  have : ∀ n, n ≤ 5 → ∀ g ∈ grp n, ∀ x ∈ g, (0 : Int) ≤ x ∧ x < n := by decide +kernel
  exact this n h5
end


section
variable {R : D → Led → Prop} {E : XR} {n : Nat} {m : Led} {w : List Int → Int} {d : D}
def Pl (x : D) : Prop := (∃ i, x = .int i) ∨ (∃ b, x = .bl b) ∨ x = .non ∨ ∃ z, x = .str z
def isI : D → Bool
  | .int _ => true
  | _ => false
theorem is_integer_P {x : D} (h : Pl x) (k : R (.bl (isI x)) m) : m_is_integer [x] m R E := by
  unfold m_is_integer; tm_at "en"; unfold b_is_integer
  rcases h with ⟨i, rfl⟩ | ⟨b, rfl⟩ | rfl | ⟨z, rfl⟩
  · tm_at "mm"; exact k
  · tm_at "mm"; exact k
  · tm_at "mm"; exact k
  · tm_at "mm"; exact k
end

theorem divisor_ok {d : D} {ns : List Int} {m : Led} {R : D → Led → Prop} {E : XR} (hd : Seq d (ns.map D.int)) (k : R (.int (gL ns : Nat)) m) : m_divisor [d] m R E := by
  show fnM (b_divisor _) m R E
  unfold b_divisor
  tm_at "mm"
  have go : seqM d m = fun R (_ : XR) => R (ns.map D.int) m := by rcases hd with rfl | rfl <;> rfl
  rw [go]
  tm_at "mm"
  refine for_fold (e := D.int) (enc := fun g : Nat => D.int (g : Int)) (step := fun g n => Nat.gcd n.natAbs g) ns 0 (fun n _ g Q hq => ?_) ?_
  · tm_at "mm"
    refine while_ind (fun y s m2 => m2 = m ∧ ∃ x : Nat, Nat.gcd x y = Nat.gcd n.natAbs g ∧ s = (D.int (x : Nat), D.int (y : Nat))) ?_ g _ m ⟨rfl, n.natAbs, rfl, rfl⟩
    rintro y s m2 ⟨rfl, x, hg, rfl⟩ Q2 hy hn
    tm_at "mm"
    by_cases h0 : y = 0
    · subst h0
      rw [show (((0 : Nat) : Int) != 0) = false from rfl]
      refine hn _ ?_
      tm_at "mm"
      rw [Nat.gcd_zero_right] at hg
      show Q (Fl.nx (D.int (x : Nat))) m2
      rw [hg]
      exact hq
    · rw [show (((y : Nat) : Int) != 0) = true by simp; omega]
      refine hy _ fun Q3 h3 => ?_
      tm_at "mm"
      refine h3 _ _ (x % y) (Nat.mod_lt _ (by omega)) ⟨rfl, y, ?_, ?_⟩
      · rw [← hg, Nat.gcd_comm x y, Nat.gcd_rec y x, Nat.gcd_comm]
      · rw [Int.natCast_emod]
  · tm_at "mm"
    exact k

theorem ratio_ok {u d : Int} {m : Led} {R : D → Led → Prop} {E : XR} (hd : d ≠ 0) (hb : Bd 8000 d) (k : R (rat (mkQ u d)) m) : m_ratio [.int u, .int d] m R E := by
  show fnM (b_ratio _ _) m R E
  unfold b_ratio
  tm_at "mm"
  refine iteM_dec (fun h => absurd h hd) (fun _ => ?_)
  tm_at "mm"
  refine divisor_ok (ns := [u, d]) (.inl rfl) ?_
  rw [gL2]
  have hp := piece_bd (u := u) hd hb
  have hp0 := piece_ne (u := u) hd
  tm_at "mm"
  have fin : ∀ x : Int, x = piece u d → (bnd (bnd (bnd (bnd (DL.ret (D.int u)) fun x => bnd (DL.ret (D.int (piece u d))) fun y => binM .FloorDiv x y) fun d1 => bnd (bnd (bnd (DL.ret (D.int d)) fun x => bnd (DL.ret (D.int (piece u d))) fun y => binM .FloorDiv x y) fun d2 => bnd (DL.ret []) fun ds => DL.ret (d2 :: ds)) fun ds => DL.ret (d1 :: ds)) mkT) (rtM (σ := Unit) (τ := Empty))) m (fnR m R) (fun nm fd m' => E nm fd (m'.take m.length)) := by
    intro x _
    tm_at "mm"
    refine fdiv_i (hp.divG hp0 (by decide)) ?_
    tm_at "mm"
    refine fdiv_i (hp.divG hp0 (by decide)) ?_
    tm_at "mm"
    exact k
  refine iteM_dec (fun h => ?_) (fun h => ?_)
  · tm_at "mm"
    have e : -(Int.gcd u d : Int) = piece u d := by unfold piece; rw [if_pos h]
    rw [e]
    exact fin _ rfl
  · tm_at "mm"
    have e : (Int.gcd u d : Int) = piece u d := by unfold piece; rw [if_neg h]
    rw [e]
    exact fin _ rfl
theorem law_divisor_ok {d : D} {ns : List Int} {m : Led} {R : D → Led → Prop} {E : XR} (hd : Seq d (ns.map D.int)) (k : R (.int (gL ns : Nat)) m) : m_law_divisor [d] m R E := by
  show fnM (b_law_divisor _) m R E
  unfold b_law_divisor
  tm_at "mm"
  have go : seqM d m = fun R (_ : XR) => R (ns.map D.int) m := by rcases hd with rfl | rfl <;> rfl
  rw [go]
  tm_at "mm"
  refine for_fold (e := D.int) (enc := fun g : Nat => D.int (g : Int)) (step := fun g n => Nat.gcd n.natAbs g) ns 0 (fun n _ g Q hq => ?_) ?_
  · tm_at "mm"
    refine while_ind (fun y s m2 => m2 = m ∧ ∃ x : Nat, Nat.gcd x y = Nat.gcd n.natAbs g ∧ s = (D.int (x : Nat), D.int (y : Nat))) ?_ g _ m ⟨rfl, n.natAbs, rfl, rfl⟩
    rintro y s m2 ⟨rfl, x, hg, rfl⟩ Q2 hy hn
    tm_at "mm"
    by_cases h0 : y = 0
    · subst h0
      rw [show (!decide (((0 : Nat) : Int) = 0)) = false from rfl]
      refine hn _ ?_
      tm_at "mm"
      rw [Nat.gcd_zero_right] at hg
      show Q (Fl.nx (D.int (x : Nat))) m2
      rw [hg]
      exact hq
    · rw [show (!decide (((y : Nat) : Int) = 0)) = true by simp; omega]
      refine hy _ fun Q3 h3 => ?_
      tm_at "mm"
      refine h3 _ _ (x % y) (Nat.mod_lt _ (by omega)) ⟨rfl, y, ?_, ?_⟩
      · rw [← hg, Nat.gcd_comm x y, Nat.gcd_rec y x, Nat.gcd_comm]
      · rw [Int.natCast_emod]
  · tm_at "mm"
    exact k

theorem law_ratio_ok {u d : Int} {m : Led} {R : D → Led → Prop} {E : XR} (hd : d ≠ 0) (hb : Bd 8000 d) (k : R (rat (mkQ u d)) m) : m_law_ratio [.int u, .int d] m R E := by
  show fnM (b_law_ratio _ _) m R E
  unfold b_law_ratio
  tm_at "mm"
  refine law_divisor_ok (ns := [u, d]) (.inl rfl) ?_
  rw [gL2]
  have hp := piece_bd (u := u) hd hb
  have hp0 := piece_ne (u := u) hd
  tm_at "mm"
  have fin : (bnd (bnd (bnd (bnd (DL.ret (D.int u)) fun x => bnd (DL.ret (D.int (piece u d))) fun y => binM .FloorDiv x y) fun d1 => bnd (bnd (bnd (DL.ret (D.int d)) fun x => bnd (DL.ret (D.int (piece u d))) fun y => binM .FloorDiv x y) fun d2 => bnd (DL.ret []) fun ds => DL.ret (d2 :: ds)) fun ds => DL.ret (d1 :: ds)) mkT) (rtM (σ := Unit) (τ := Empty))) m (fnR m R) (fun nm fd m' => E nm fd (m'.take m.length)) := by
    tm_at "mm"
    refine fdiv_i (hp.divG hp0 (by decide)) ?_
    tm_at "mm"
    refine fdiv_i (hp.divG hp0 (by decide)) ?_
    tm_at "mm"
    exact k
  refine iteM_dec (fun h => ?_) (fun h => ?_)
  · tm_at "mm"
    have e : -(Int.gcd u d : Int) = piece u d := by unfold piece; rw [if_pos h]
    rw [e]
    exact fin
  · tm_at "mm"
    have e : (Int.gcd u d : Int) = piece u d := by unfold piece; rw [if_neg h]
    rw [e]
    exact fin

section
variable {p q : Q} {m : Led} {R : D → Led → Prop} {E : XR}
end

section
variable {p q : Q} {m : Led} {R : D → Led → Prop} {E : XR}
theorem times_ok (hp : Rb 3000 p) (hq : Rb 3000 q) (p0 : p.2 ≠ 0) (q0 : q.2 ≠ 0) (k : R (rat (timesQ p q)) m) : m_times [rat p, rat q] m R E := by
  obtain ⟨h1, h2⟩ := hp
  obtain ⟨h3, h4⟩ := hq
  show fnM (b_times _ _) m R E
  unfold b_times
  tm_at "mm"
  refine ratio_ok (Int.mul_ne_zero p0 q0) ((h2.mulR h4).up (by decide)) ?_
  tm_at "mm"
  exact k
end

section
variable {p q : Q} {m : Led} {R : D → Led → Prop} {E : XR}
end


section
variable {R : D → Led → Prop} {E : XR} {n : Nat} {m : Led} {w : List Int → Int} {d : D} {RB : Bool → Led → Prop}
theorem eqD_refl {a : D} (h : Sh 20 a) : eqD a a = true := SeqAt.eqv_refl_plain _ h.ok.1
theorem ne_rf {a : D} (h : Sh 20 a) (k : RB false m) : cmpB .NotEq a a m RB E := .inl ⟨a, a, .now _, .now _, h, h, by rw [eqD_refl h]; exact k⟩
def PlL (x : D) : Prop := Pl x ∨ ∃ ds, x = .lst ds
theorem is_integer_L {x : D} (h : PlL x) (k : R (.bl (isI x)) m) : m_is_integer [x] m R E := by
  rcases h with h | ⟨ds, rfl⟩
  · exact is_integer_P h k
  · unfold m_is_integer; tm_at "en"; unfold b_is_integer
    tm_at "mm"; exact k
theorem are_integers_L {ds : List D} (hd : Seq d ds) (hl : ds.length ≤ 1000) (hp : ∀ x ∈ ds, PlL x) (k : R (.bl (ds.all isI)) m) : m_are_integers [d] m R E := by
  unfold m_are_integers; tm_at "en"; unfold b_are_integers
  have key : ∀ {Q : List D → Led → Prop}, Q (ds.map fun x => D.bl (isI x)) m → ∀ (E : XR), compM (fun v_item_1 => bnd (bnd (bnd (DL.ret v_item_1) fun d2 => bnd (DL.ret []) fun ds3 => DL.ret (d2 :: ds3)) m_is_integer) someM) ds [] m Q E := by
    intro Q hq E
    have := comp_map (m := m) (E := E) (R := Q) (e := id) (g := fun x => D.bl (isI x)) ds [] (f := (fun v_item_1 => bnd (bnd (bnd (DL.ret v_item_1) fun d2 => bnd (DL.ret []) fun ds3 => DL.ret (d2 :: ds3)) m_is_integer) someM)) (fun x hx Q hq => ?_) (by simp; omega) (by simpa using hq)
    · simpa using this
    · tm_at "mm"
      refine is_integer_L (hp x hx) ?_
      tm_at "mm"
      exact hq
  have e : ds.map (fun x => D.bl (isI x)) = (ds.map isI).map D.bl := by simp
  have e2 : ((ds.map isI).all id) = ds.all isI := by simp [List.all_map]
  rcases hd with rfl | rfl
  · tm_at "mm"
    refine key ?_ _
    tm_at "mm"
    rw [e]
    refine all_L ?_
    tm_at "mm"
    rw [e2]
    exact k
  · tm_at "mm"
    refine key ?_ _
    tm_at "mm"
    rw [e]
    refine all_L ?_
    tm_at "mm"
    rw [e2]
    exact k
def isR : D → Bool
  | .tup [.int a, .int b] => decide (1 ≤ b) && decide (Int.gcd a b = 1)
  | _ => false
def RV (d : D) : Prop := PlL d ∨ ∃ ds, d = .tup ds ∧ ds.length ≤ 1000 ∧ ∀ x ∈ ds, PlL x
theorem isI_int {x : D} (h : isI x = true) : ∃ i, x = .int i := by
  cases x <;> first | exact ⟨_, rfl⟩ | cases h
theorem is_ratio_ok (h : RV d) (k : R (.bl (isR d)) m) : m_is_ratio [d] m R E := by
  unfold m_is_ratio; tm_at "en"; unfold b_is_ratio
  rcases h with h | ⟨ds, rfl, hl, hp⟩
  · rcases h with (⟨i, rfl⟩ | ⟨b, rfl⟩ | rfl | ⟨z, rfl⟩) | ⟨ds, rfl⟩
    all_goals
      tm_at "mm"
      exact k
  · tm_at "mm"
    by_cases h2 : ds.length = 2
    · rw [decide_eq_true (by omega), Bool.not_true]
      tm_at "mm"
      refine are_integers_L (.inr rfl) hl hp ?_
      obtain ⟨x, y, rfl⟩ : ∃ x y, ds = [x, y] := by
        match ds, h2 with
        | [x, y], _ => exact ⟨x, y, rfl⟩
      by_cases ha : ([x, y].all isI) = true
      · simp only [List.all_cons, List.all_nil, Bool.and_true, Bool.and_eq_true] at ha
        obtain ⟨i, rfl⟩ := isI_int ha.1
        obtain ⟨j, rfl⟩ := isI_int ha.2
        rw [show [D.int i, D.int j].all isI = true from rfl]
        tm_at "mm"
        by_cases hj : 1 ≤ j
        · rw [decide_eq_true hj]
          tm_at "mm"
          refine divisor_ok (ns := [i, j]) (.inr rfl) ?_
          rw [gL2]
          tm_at "mm"
          have e : isR (.tup [.int i, .int j]) = decide (((Int.gcd i j : Nat) : Int) = 1) := by
            simp only [isR, decide_eq_true hj, Bool.true_and]
            congr 1
            exact propext ⟨fun h => by omega, fun h => by omega⟩
          rw [e] at k
          exact k
        · rw [decide_eq_false hj]
          tm_at "mm"
          have e : isR (.tup [.int i, .int j]) = false := by simp only [isR, decide_eq_false hj, Bool.false_and]
          rw [e] at k
          exact k
      · have ha' : ([x, y].all isI) = false := by simpa using ha
        rw [ha']
        tm_at "mm"
        have e : isR (.tup [x, y]) = false := by
          unfold isR
          split
          · rename_i heq
            cases heq
            exact absurd rfl ha
          · rfl
        rw [e] at k
        exact k
    · rw [decide_eq_false (by omega), Bool.not_false]
      tm_at "mm"
      have e : isR (.tup ds) = false := by
        unfold isR
        split
        · rename_i heq
          cases heq
          exact absurd rfl h2
        · rfl
      rw [e] at k
      exact k
theorem all_RV {ds : List D} {d0 : D} (hd : Seq d ds) (hl : ds.length ≤ 1000) (hp : ∀ x ∈ ds, RV x) {Q : List D → Led → Prop} (hq : Q (ds.map fun x => D.bl (isR x)) m) : ∀ (E : XR), compM (fun v_item_14 => bnd (bnd (bnd (DL.ret v_item_14) fun d15 => bnd (DL.ret []) fun ds16 => DL.ret (d15 :: ds16)) m_is_ratio) someM) ds [] m Q E := by
  intro E
  have := comp_map (m := m) (E := E) (R := Q) (e := id) (g := fun x => D.bl (isR x)) ds [] (f := (fun v_item_1 => bnd (bnd (bnd (DL.ret v_item_1) fun d2 => bnd (DL.ret []) fun ds3 => DL.ret (d2 :: ds3)) m_is_ratio) someM)) (fun x hx Q hq => ?_) (by simp; omega) (by simpa using hq)
  · simpa using this
  · tm_at "mm"
    refine is_ratio_ok (hp x hx) ?_
    tm_at "mm"
    exact hq
theorem lenQ {ds : List D} (hd : Seq d ds) (k : R (.int (ds.length : Nat)) m) : lenM [d] m R E := by
  rcases hd with rfl | rfl
  · exact len_L k
  · exact len_T k
theorem seqQ {ds : List D} {R : List D → Led → Prop} (hd : Seq d ds) (k : R ds m) : seqM d m R E := by
  rcases hd with rfl | rfl
  · exact seq_L k
  · exact seq_T k
def okR (ds : List D) : Bool := decide (1 ≤ ds.length) && (decide (ds.length ≤ 5) && ds.all isR)
theorem isiSq {ds : List D} {cs : List Str} (hd : Seq d ds) (k : R (.bl true) m) : isiO cs [d, .tup [.ty "list", .ty "tuple"]] m R E := by
  rcases hd with rfl | rfl
  · exact isiO_2 (t := "list") rfl (by decide) (by decide) (by decide) k
  · exact isiO_2 (t := "tuple") rfl (by decide) (by decide) (by decide) k
theorem are_ratios_ok {ds : List D} (hd : Seq d ds) (hl : ds.length ≤ 1000) (hp : ∀ x ∈ ds, RV x) (k : R (.bl (okR ds)) m) : m_are_ratios [d] m R E := by
  unfold m_are_ratios; tm_at "en"; unfold b_are_ratios
  have e : ds.map (fun x => D.bl (isR x)) = (ds.map isR).map D.bl := by simp
  have e2 : ((ds.map isR).all id) = ds.all isR := by simp [List.all_map]
  tm_at "mm"
  refine isiSq hd ?_
  tm_at "mm"
  refine lenQ hd ?_
  tm_at "mm"
  refine chainB_i (fun h1 => ?_) (fun h1 => ?_)
  · have h1 := of_decide_eq_true h1
    tm_at "mm"
    show cmpB _ _ (.int 5) _ _ _
    tm_at "mm"
    by_cases h3 : ds.length ≤ 5
    · rw [decide_eq_true (by omega)]
      tm_at "mm"
      refine seqQ hd ?_
      tm_at "mm"
      refine all_RV (d0 := d) hd hl hp ?_ _
      tm_at "mm"
      rw [e]
      refine all_L ?_
      tm_at "mm"
      rw [e2]
      have : okR ds = ds.all isR := by unfold okR; rw [decide_eq_true (by omega), decide_eq_true h3]; rfl
      rw [this] at k
      exact k
    · rw [decide_eq_false (by omega)]
      tm_at "mm"
      have : okR ds = false := by unfold okR; rw [decide_eq_false h3]; simp
      rw [this] at k
      exact k
  · have h1 := of_decide_eq_false h1
    tm_at "mm"
    have : okR ds = false := by unfold okR; rw [decide_eq_false (by omega)]; rfl
    rw [this] at k
    exact k
end


def totQ (qs : List Q) : Q := qs.foldl plusQ (0, 1)
def GR (q : Q) : Prop := Nf q ∧ Rb 300 q
theorem GR.okr {q : Q} (h : GR q) : isR (rat q) = true := by
  obtain ⟨⟨h1, h2⟩, _⟩ := h
  simp only [isR]
  rw [decide_eq_true (show 1 ≤ q.2 by omega), decide_eq_true h2]
  rfl
theorem GR.rv (q : Q) : RV (rat q) := .inr ⟨_, rfl, by simp, fun x hx => by
  simp only [List.mem_cons, List.not_mem_nil, or_false] at hx
  rcases hx with rfl | rfl
  · exact .inl (.inl ⟨_, rfl⟩)
  · exact .inl (.inl ⟨_, rfl⟩)⟩
theorem GR.mk {u d : Int} (hd : d ≠ 0) (h1 : Bd 300 u) (h2 : Bd 300 d) : GR (mkQ u d) := ⟨mkQ_nf hd, mkQ_rb hd h1 h2⟩
theorem plus_good {p q : Q} {a : Nat} (h1 : 0 < p.2) (h2 : Rb a p) (hq : GR q) : 0 < (plusQ p q).2 ∧ Rb (a + 301) (plusQ p q) := by
  obtain ⟨⟨q1, q2⟩, q3, q4⟩ := hq
  obtain ⟨p1, p2⟩ := h2
  have hd : p.2 * q.2 ≠ 0 := Int.mul_ne_zero (by omega) (by omega)
  refine ⟨(mkQ_nf (u := p.1 * q.2 + q.1 * p.2) hd).1, ?_⟩
  refine mkQ_rb hd ?_ ?_
  · exact ((p1.mulR q4).addR (q3.mulR p2)).up (by omega)
  · exact (p2.mulR q4).up (by omega)
section
variable {R : D → Led → Prop} {E : XR} {n : Nat} {m : Led} {w : List Int → Int} {d : D} {RB : Bool → Led → Prop}
theorem law_plus_ok {p q : Q} (hp : Rb 3000 p) (hq : Rb 3000 q) (p0 : p.2 ≠ 0) (q0 : q.2 ≠ 0) (k : R (rat (plusQ p q)) m) : m_law_plus [rat p, rat q] m R E := by
  obtain ⟨h1, h2⟩ := hp
  obtain ⟨h3, h4⟩ := hq
  show fnM (b_law_plus _ _) m R E
  unfold b_law_plus
  tm_at "mm"
  refine law_ratio_ok (Int.mul_ne_zero p0 q0) ((h2.mulR h4).up (by decide)) ?_
  tm_at "mm"
  exact k
theorem law_minus_ok {p q : Q} (hp : Rb 3000 p) (hq : Rb 3000 q) (p0 : p.2 ≠ 0) (q0 : q.2 ≠ 0) (k : R (rat (minusQ p q)) m) : m_law_minus [rat p, rat q] m R E := by
  obtain ⟨h1, h2⟩ := hp
  obtain ⟨h3, h4⟩ := hq
  show fnM (b_law_minus _ _) m R E
  unfold b_law_minus
  tm_at "mm"
  refine law_ratio_ok (Int.mul_ne_zero p0 q0) ((h2.mulR h4).up (by decide)) ?_
  tm_at "mm"
  exact k
def SumI (qs : List Q) (m : Led) (xs : List Q) (s : D) (m' : Led) : Prop := m' = m ∧ ∃ p : Q, s = rat p ∧ xs.foldl plusQ p = totQ qs ∧ 0 < p.2 ∧ Rb (301 * (6 - xs.length)) p ∧ xs.length ≤ 5 ∧ ∀ q ∈ xs, GR q
theorem SumI.step {qs : List Q} {x : Q} {xs : List Q} {p : Q} (h1 : (x :: xs).foldl plusQ p = totQ qs) (h2 : 0 < p.2) (h3 : Rb (301 * (6 - (x :: xs).length)) p) (h4 : (x :: xs).length ≤ 5) (h5 : ∀ q ∈ x :: xs, GR q) : SumI qs m xs (rat (plusQ p x)) m := by
  obtain ⟨g1, g2⟩ := plus_good h2 h3 (h5 x (by simp))
  refine ⟨rfl, _, rfl, h1, g1, ?_, by simp at h4; omega, fun q hq => h5 q (by simp [hq])⟩
  have e : 301 * (6 - (x :: xs).length) + 301 = 301 * (6 - xs.length) := by simp at h4 ⊢; omega
  rw [e] at g2
  exact g2
theorem SumI.start {qs : List Q} (hl : qs.length ≤ 5) (h : ∀ q ∈ qs, GR q) : SumI qs m qs (rat (0, 1)) m := ⟨rfl, _, rfl, rfl, (show (0 : Int) < 1 by decide), ⟨(show Bd 1 0 by unfold Bd; decide).up (by omega), Bd.one.up (by omega)⟩, hl, h⟩
theorem SumI.rb {xs : List Q} {p : Q} (h : Rb (301 * (6 - xs.length)) p) : Rb 3000 p := ⟨h.1.up (by omega), h.2.up (by omega)⟩
theorem GR.rb {q : Q} (h : GR q) : Rb 3000 q := ⟨h.2.1.up (by omega), h.2.2.up (by omega)⟩
theorem law_total_ok {qs : List Q} (hd : Seq d (qs.map rat)) (hl : qs.length ≤ 5) (h : ∀ q ∈ qs, GR q) (k : R (rat (totQ qs)) m) : m_law_total [d] m R E := by
  unfold m_law_total; tm_at "en"; unfold b_law_total
  tm_at "mm"
  refine seqQ hd ?_
  tm_at "mm"
  refine for_ind (e := rat) (SumI qs m) ?_ ?_ _ _ _ (SumI.start hl h)
  · rintro x xs s m' ⟨rfl, p, rfl, h1, h2, h3, h4, h5⟩ Q k1 _ _
    have hx := h5 x (by simp)
    tm_at "mm"
    refine law_plus_ok (SumI.rb h3) hx.rb (by omega) (by have := hx.1.1; omega) ?_
    tm_at "mm"
    exact k1 _ _ (SumI.step h1 h2 h3 h4 h5)
  · rintro s m' ⟨rfl, p, rfl, h1, _⟩
    tm_at "mm"
    rw [← h1] at k
    exact k
def pick (qs : List Q) (g : List Int) : List Q := g.map fun x => qs.getD x.toNat (0, 1)
theorem ixR {qs : List Q} {j : Nat} (hd : Seq d (qs.map rat)) (h : j < qs.length) (k : R (rat qs[j]) m) : ixM d (.int (j : Int)) m R E := by
  rcases hd with rfl | rfl
  · exact ixL_i (atI_nat (j := j) (by rw [List.getElem?_map, List.getElem?_eq_getElem h]; rfl)) k
  · exact ixT_i (atI_nat (j := j) (by rw [List.getElem?_map, List.getElem?_eq_getElem h]; rfl)) k
theorem pick_GR {qs : List Q} {g : List Int} (h : ∀ q ∈ qs, GR q) (hg : ∀ x ∈ g, 0 ≤ x ∧ x < qs.length) : ∀ q ∈ pick qs g, GR q := fun q hq => by
  obtain ⟨x, hx, rfl⟩ := List.mem_map.mp hq
  have h1 := hg x hx
  have h2 : x.toNat < qs.length := by omega
  show GR (qs.getD x.toNat (0, 1))
  rw [List.getD_eq_getElem?_getD, List.getElem?_eq_getElem h2]
  exact h _ (List.getElem_mem h2)
theorem law_amount_ok {qs : List Q} {g : List Int} (hd : Seq d (qs.map rat)) (hl : g.length ≤ 5) (h : ∀ q ∈ qs, GR q) (hg : ∀ x ∈ g, 0 ≤ x ∧ x < qs.length) (k : R (rat (totQ (pick qs g))) m) : m_law_amount [d, keyD g] m R E := by
  unfold m_law_amount; tm_at "en"; unfold b_law_amount
  tm_at "mm"
  refine seq_T ?_
  tm_at "mm"
  refine comp_map (e := D.int) (g := fun x : Int => rat (qs.getD x.toNat (0, 1))) _ _ (fun x hx Q hq => ?_) (by simp; omega) ?_
  · have h1 := hg x hx
    obtain ⟨j, rfl⟩ := Int.eq_ofNat_of_zero_le h1.1
    have h2 : j < qs.length := by omega
    tm_at "mm"
    refine ixR hd h2 ?_
    tm_at "mm"
    simpa [h2] using hq
  · tm_at "mm"
    rw [List.nil_append]
    refine law_total_ok (qs := pick qs g) (.inl (by simp [pick])) (by simp [pick]; omega) (pick_GR h hg) ?_
    tm_at "mm"
    exact k
end


def Rep (q : Q) (x D : Int) : Prop := q.1 * D = x * q.2
theorem Rep.mkQ {u d : Int} (h : d ≠ 0) : Rep (mkQ u d) u d := mkQ_cross h
theorem cross_can {r1 r2 u d x D : Int} (hd : d ≠ 0) (h : r1 * d = u * r2) (e : u * D = x * d) : r1 * D = x * r2 := by
  refine Int.eq_of_mul_eq_mul_right hd ?_
  calc r1 * D * d = (r1 * d) * D := by rw [Int.mul_right_comm]
    _ = (u * r2) * D := by rw [h]
    _ = (u * D) * r2 := by rw [Int.mul_right_comm]
    _ = (x * d) * r2 := by rw [e]
    _ = x * r2 * d := by rw [Int.mul_right_comm]
theorem Rep.plus {p q : Q} {x y D : Int} (h1 : Rep p x D) (h2 : Rep q y D) (p0 : 0 < p.2) (q0 : 0 < q.2) : Rep (plusQ p q) (x + y) D := by
  have hd : p.2 * q.2 ≠ 0 := Int.mul_ne_zero (by omega) (by omega)
  refine cross_can hd (mkQ_cross hd) ?_
  unfold Rep at h1 h2
  calc (p.1 * q.2 + q.1 * p.2) * D = (p.1 * D) * q.2 + (q.1 * D) * p.2 := by rw [Int.add_mul, Int.mul_right_comm, Int.mul_right_comm q.1]
    _ = (x * p.2) * q.2 + (y * q.2) * p.2 := by rw [h1, h2]
    _ = (x + y) * (p.2 * q.2) := by rw [Int.add_mul, Int.mul_assoc, Int.mul_assoc y, Int.mul_comm q.2 p.2]
theorem Rep.minus {p q : Q} {x y D : Int} (h1 : Rep p x D) (h2 : Rep q y D) (p0 : 0 < p.2) (q0 : 0 < q.2) : Rep (minusQ p q) (x - y) D := by
  have hd : p.2 * q.2 ≠ 0 := Int.mul_ne_zero (by omega) (by omega)
  refine cross_can hd (mkQ_cross hd) ?_
  unfold Rep at h1 h2
  calc (p.1 * q.2 - q.1 * p.2) * D = (p.1 * D) * q.2 - (q.1 * D) * p.2 := by rw [Int.sub_mul, Int.mul_right_comm, Int.mul_right_comm q.1]
    _ = (x * p.2) * q.2 - (y * q.2) * p.2 := by rw [h1, h2]
    _ = (x - y) * (p.2 * q.2) := by rw [Int.sub_mul, Int.mul_assoc, Int.mul_assoc y, Int.mul_comm q.2 p.2]
theorem Nf.plus {p q : Q} (p0 : 0 < p.2) (q0 : 0 < q.2) : Nf (plusQ p q) := mkQ_nf (Int.mul_ne_zero (by omega) (by omega))
theorem fold_rep {D : Int} : ∀ (L : List (Q × Int)) (p : Q) (x : Int), (∀ z ∈ L, Rep z.1 z.2 D ∧ 0 < z.1.2) → Rep p x D → Nf p → Rep ((L.map (·.1)).foldl plusQ p) (x + (L.map (·.2)).sum) D ∧ Nf ((L.map (·.1)).foldl plusQ p)
  | [], p, x, _, h, hn => by simpa using ⟨h, hn⟩
  | z :: L, p, x, hz, h, hn => by
    have h1 := hz z (by simp)
    have := fold_rep L (plusQ p z.1) (x + z.2) (fun y hy => hz y (by simp [hy])) (h.plus h1.1 hn.1 h1.2) (Nf.plus hn.1 h1.2)
    simpa [Int.add_assoc] using this
theorem tot_rep {D : Int} (L : List (Q × Int)) (hz : ∀ z ∈ L, Rep z.1 z.2 D ∧ 0 < z.1.2) : Rep (totQ (L.map (·.1))) ((L.map (·.2)).sum) D ∧ Nf (totQ (L.map (·.1))) := by
  have := fold_rep L (0, 1) 0 hz (show (0 : Int) * D = 0 * 1 by simp) ⟨(show (0 : Int) < 1 by decide), by decide⟩
  unfold totQ
  simpa using this
theorem Rep.int {q : Q} {v D : Int} (h : Rep q (v * D) D) (hD : D ≠ 0) (hn : Nf q) : q = (v, 1) := by
  obtain ⟨a, b⟩ := q
  obtain ⟨h1, h2⟩ := hn
  unfold Rep at h
  have e : a = v * b := Int.eq_of_mul_eq_mul_right hD (by rw [h, Int.mul_right_comm])
  have hb : b = 1 := by
    have h3 : Int.gcd a b = b.natAbs := by rw [e]; exact Int.gcd_eq_natAbs_right (Int.dvd_mul_left _ _)
    simp only at h1 h2
    omega
  subst hb
  simp [e]
local macro_rules | `(tactic| tm_at "tk") => `(tactic| (refine take_ok (by assumption) (by omega) (by omega) (by omega) (by assumption) ((Bd.lit _).up (by decide)) ?_))
local macro_rules | `(tactic| tm_at "mi") => `(tactic| repeat (first | tm_at "st" | (with_reducible refine iteM_dp (by omega) ?_) | (with_reducible refine iteM_dn (by omega) ?_)))
section
variable {p : Addr} {a c : Int} {ns : List Int} {rest : Led} {R : D → Led → Prop} {E : XR} {n : Nat} {m : Led} {w : List Int → Int} {d : D}
end


section
variable {R : D → Led → Prop} {E : XR} {n : Nat} {m : Led} {w : List Int → Int} {d : D} {RB : Bool → Led → Prop}
theorem eqRat {p : Q} {v : Int} (k : RB (decide (p = (v, 1))) m) : cmpB .Eq (rat p) (.tup [.int v, .int 1]) m RB E := by
  refine eq_di (nb_rat 19 p) (nb_rat 19 (v, 1)) fun t ht => ?_
  have : t = decide (p = (v, 1)) := by
    have e : (rat p = .tup [.int v, .int 1]) ↔ p = (v, 1) := by
      obtain ⟨a, b⟩ := p
      simp [rat]
    cases t with
    | true => rw [decide_eq_true (e.mp (ht.mp rfl))]
    | false =>
      rw [decide_eq_false fun h => ?_]
      have := ht.mpr (e.mpr h)
      cases this
  rw [this]
  exact k
def cmpl (w : List Int → Int) (qs : List Q) (g : List Int) : Q := minusQ (w g, 1) (totQ (pick qs g))
theorem tot_fold {qs : List Q} (hl : qs.length ≤ 5) (h : ∀ q ∈ qs, GR q) : 0 < (totQ qs).2 ∧ Rb 1806 (totQ qs) := by
  have key : ∀ (xs : List Q) (p : Q) (a : Nat), (∀ q ∈ xs, GR q) → 0 < p.2 → Rb a p → 0 < (xs.foldl plusQ p).2 ∧ Rb (a + 301 * xs.length) (xs.foldl plusQ p) := by
    intro xs
    induction xs with
    | nil => intro p a _ h1 h2; exact ⟨h1, h2⟩
    | cons x xs ih =>
      intro p a hx h1 h2
      obtain ⟨g1, g2⟩ := plus_good h1 h2 (hx x (by simp))
      have := ih (plusQ p x) (a + 301) (fun q hq => hx q (by simp [hq])) g1 g2
      rw [show a + 301 * (x :: xs).length = a + 301 + 301 * xs.length by simp; omega]
      exact this
  have := key qs (0, 1) 1 h (show (0 : Int) < 1 by decide) ⟨(show Bd 1 0 by unfold Bd; decide), Bd.one⟩
  exact ⟨this.1, this.2.1.up (by omega), this.2.2.up (by omega)⟩
theorem cmpl_eq (w : List Int → Int) (qs : List Q) (g : List Int) : cmpl w qs g = mkQ (w g * (totQ (pick qs g)).2 - (totQ (pick qs g)).1) (totQ (pick qs g)).2 := by
  unfold cmpl minusQ
  simp
theorem law_complaint_ok {qs : List Q} {g : List Int} (hix : ∀ {Q : D → Led → Prop} {E : XR}, Q (.int (w g)) m → ixM d (keyD g) m Q E) (hn : qs.length = n) (h5 : n ≤ 5) (h : ∀ q ∈ qs, GR q) (hg : g ∈ grp n) (Bw : Bd 20 (w g)) (k : R (rat (cmpl w qs g)) m) : m_law_complaint [d, .lst (qs.map rat), keyD g] m R E := by
  unfold m_law_complaint; tm_at "en"; unfold b_law_complaint
  have gl := (grp_small n h5).2 g hg
  have gi : ∀ x ∈ g, 0 ≤ x ∧ x < qs.length := fun x hx => by rw [hn]; exact grp_in h5 g hg x hx
  obtain ⟨tf0, tf1, tf2⟩ := tot_fold (qs := pick qs g) (by simp [pick]; omega) (pick_GR h gi)
  tm_at "mm"
  refine law_amount_ok (.inl rfl) gl h gi ?_
  refine ut2_i ?_
  tm_at "mm"
  refine hix ?_
  tm_at "mm"
  refine law_ratio_ok (by omega) (tf2.up (by decide)) ?_
  tm_at "mm"
  rw [cmpl_eq] at k
  exact k
theorem is_number_ok {i : Int} (k : R (.bl true) m) : m_law_is_number [.int i] m R E := by
  unfold m_law_is_number; tm_at "en"; unfold b_law_is_number
  tm_at "mm"
  exact k
theorem law_is_ratio_ok {q : Q} (h : GR q) (k : R (.bl true) m) : m_law_is_ratio [rat q] m R E := by
  unfold m_law_is_ratio; tm_at "en"; unfold b_law_is_ratio rat
  have h1 : 1 ≤ q.2 := by have := h.1.1; omega
  tm_at "mm"
  rw [show decide (((([D.int q.1, D.int q.2] : List D).length : Nat) : Int) = 2) = true from rfl, Bool.not_true]
  tm_at "mm"
  refine is_number_ok ?_
  tm_at "mm"
  refine is_number_ok ?_
  tm_at "mm"
  rw [decide_eq_true h1]
  tm_at "mm"
  refine law_divisor_ok (ns := [q.1, q.2]) (.inl rfl) ?_
  tm_at "mm"
  rw [gL2, show decide (((Int.gcd q.1 q.2 : Nat) : Int) = 1) = true from decide_eq_true (by rw [h.1.2]; rfl)]
  exact k
theorem law_is_division_ok {qs : List Q} (hix : ∀ {Q : D → Led → Prop} {E : XR}, Q (.int (w (rng n))) m → ixM d (keyD (rng n)) m Q E) (hn : qs.length = n) (h0 : 1 ≤ n) (h5 : n ≤ 5) (h : ∀ q ∈ qs, GR q) (k : R (.bl (decide (totQ qs = (w (rng n), 1)))) m) : m_law_is_division [d, .int (n : Int), .lst (qs.map rat)] m R E := by
  unfold m_law_is_division; tm_at "en"; unfold b_law_is_division
  tm_at "mm"
  rw [List.length_map, hn, decide_eq_true rfl, Bool.not_true]
  tm_at "mm"
  refine DL.comp_map (e := rat) (g := fun _ => .bl true) _ _ (fun q hq Q hQ => ?_) (by simp; omega) ?_
  · tm_at "mm"
    refine law_is_ratio_ok (h q hq) ?_
    tm_at "mm"
    exact hQ
  rw [List.nil_append, show qs.map (fun _ => D.bl true) = (qs.map fun _ => true).map D.bl by simp]
  tm_at "mm"
  refine all_L ?_
  rw [show ((qs.map fun _ => true).all id) = true by simp]
  tm_at "mm"
  refine law_total_ok (.inl rfl) (by omega) h ?_
  tm_at "mm"
  refine trg_i (by omega) (by omega) ?_
  rw [Int.toNat_natCast, rng_D]
  tm_at "mm"
  refine hix ?_
  tm_at "mm"
  refine eqRat ?_
  tm_at "mm"
  exact k
def calmB (w : List Int → Int) (qs : List Q) (gs : List (List Int)) : Bool := gs.all fun g => decide ((cmpl w qs g).1 ≤ 0)
theorem nb_keys (gs : List (List Int)) : NB 20 (.lst (gs.map keyD)) := nb_lst (n := 19) fun g _ => nb_tup (n := 18) fun x _ => nb_int _ x
theorem law_calm_for_ok {qs : List Q} {gs : List (List Int)} (hix : ∀ g ∈ grp n, ∀ {Q : D → Led → Prop} {E : XR}, Q (.int (w g)) m → ixM d (keyD g) m Q E) (hn : qs.length = n) (h0 : 1 ≤ n) (h5 : n ≤ 5) (h : ∀ q ∈ qs, GR q) (ht : totQ qs = (w (rng n), 1)) (Bw : ∀ g, Bd 20 (w g)) (hg : ∀ g ∈ gs, g ∈ grp n) (hl : gs.length ≤ 1000) (k : R (.bl (calmB w qs gs)) m) : m_law_calm_for [d, .int (n : Int), .lst (qs.map rat), .lst (gs.map keyD)] m R E := by
  unfold m_law_calm_for; tm_at "en"; unfold b_law_calm_for
  tm_at "mm"
  refine law_is_division_ok (hix _ (rng_mem_grp h0)) hn h0 h5 h ?_
  rw [decide_eq_true ht]
  tm_at "mm"
  refine DL.comp_filter (e := keyD) (g := keyD) (p := fun g => !decide ((cmpl w qs g).1 ≤ 0)) _ _ (fun g hgg Q q1 q2 => ?_) (by simp; omega) ?_
  · tm_at "mm"
    refine law_complaint_ok (hix g (hg g hgg)) hn h5 h (hg g hgg) (Bw g) ?_
    tm_at "mm"
    refine ⟨fun e => ?_, fun e => ?_⟩
    · tm_at "mm"
      refine q1 ?_
      have := of_decide_eq_true e
      rw [decide_eq_false (by omega)]; rfl
    · tm_at "mm"
      refine q2 ?_
      have := of_decide_eq_false e
      rw [decide_eq_true (by omega)]; rfl
  rw [List.nil_append]
  tm_at "mm"
  refine eq_di (nb_keys _) (nb_keys []) fun t ht2 => ?_
  have et : t = calmB w qs gs := by
    have e : (D.lst ((gs.filter fun g => !decide ((cmpl w qs g).1 ≤ 0)).map keyD) = D.lst [] ) ↔ calmB w qs gs = true := by
      constructor
      · intro z
        have := List.map_eq_nil_iff.mp (D.lst.inj z)
        rw [List.filter_eq_nil_iff] at this
        unfold calmB
        rw [List.all_eq_true]
        intro g hgg
        have := this g hgg
        simpa using this
      · intro z
        unfold calmB at z
        rw [List.all_eq_true] at z
        rw [show (gs.filter fun g => !decide ((cmpl w qs g).1 ≤ 0)) = [] from List.filter_eq_nil_iff.mpr fun g hgg => by simpa using z g hgg]
        rfl
    cases t with
    | true => exact (e.mp (ht2.mp rfl)).symm
    | false =>
      cases hc : calmB w qs gs with
      | false => rfl
      | true =>
        have := ht2.mpr (e.mpr hc)
        cases this
  rw [et]
  tm_at "mm"
  exact k
end

section
variable {R : D → Led → Prop} {E : XR} {n : Nat} {m : Led} {w : List Int → Int} {d o : D} {RB : Bool → Led → Prop}
theorem eq_rf {a : D} (h : Sh 20 a) (k : RB true m) : cmpB .Eq a a m RB E := .inl ⟨a, a, .now _, .now _, h, h, by rw [eqD_refl h]; exact k⟩
end

section
variable {m : Led} {RB : Bool → Led → Prop} {E : XR}
end


section
variable {R : D → Led → Prop} {E : XR} {m : Led} {d : D} {RB : Bool → Led → Prop}
theorem law_is_number_L {x : D} (h : PlL x) (k : R (.bl (isI x)) m) : m_law_is_number [x] m R E := by
  unfold m_law_is_number; tm_at "en"; unfold b_law_is_number
  rcases h with (⟨i, rfl⟩ | ⟨b, rfl⟩ | rfl | ⟨z, rfl⟩) | ⟨ds, rfl⟩
  all_goals
    tm_at "mm"
    exact k
def iv : D → Int
  | .int i => i
  | _ => 0
def shOk (ss : List D) (c : Int) : Bool := ss.all isI && (decide ((ss.length : Int) = c) && (((ss.map iv).all fun i => decide (0 ≤ i)) && decide (0 < (ss.map iv).sum)))
theorem all_ivs {ss : List D} (h : ss.all isI = true) : ss = (ss.map iv).map D.int := by
  rw [List.map_map]
  conv => lhs; rw [← List.map_id ss]
  refine List.map_congr_left fun x hx => ?_
  obtain ⟨i, rfl⟩ := isI_int (List.all_eq_true.mp h x hx)
  rfl
theorem sumS {is : List Int} (hd : Seq d (is.map D.int)) (k : R (.int is.sum) m) : DL.sumQ [d] m R E := by
  rcases hd with rfl | rfl
  · exact .inr (sum_L k)
  · exact DL.sumQ_t k
theorem ge0_b (is : List Int) : (is.map fun i => decide (i ≥ 0)).all id = is.all fun i => decide (0 ≤ i) := by
  rw [List.all_map]; rfl
theorem are_shares_ok {ss : List D} {c : Int} (hd : Seq d ss) (hl : ss.length ≤ 1000) (hp : ∀ x ∈ ss, PlL x) (k : R (.bl (shOk ss c)) m) : m_are_shares [d, .int c] m R E := by
  unfold m_are_shares; tm_at "en"; unfold b_are_shares
  tm_at "bb"
  refine fnM_i ?_
  tm_at "bb"
  refine are_integers_L hd hl hp ?_
  refine andM_i (fun hi => ?_) (fun hi => ?_)
  · have e := all_ivs hi
    tm_at "bb"
    refine lenQ hd ?_
    tm_at "bb"
    refine cmpM_i ?_
    refine eq_i ?_
    refine andM_i (fun hc => ?_) (fun hc => ?_)
    · tm_at "bb"
      refine seqQ hd ?_
      rw [e]
      refine comp_map (e := D.int) (g := fun i => D.bl (decide (i ≥ 0))) (ss.map iv) [] (fun i hx Q hQ => ?_) (by simp; omega) ?_
      · tm_at "bb"
        refine cmpM_i ?_
        refine ge_i ?_
        tm_at "bb"
        exact hQ
      refine lsM_i ?_
      rw [show [] ++ (ss.map iv).map (fun i => D.bl (decide (i ≥ 0))) = ((ss.map iv).map fun i => decide (i ≥ 0)).map D.bl by simp]
      tm_at "bb"
      refine all_L ?_
      rw [ge0_b]
      refine andM_i (fun hg => ?_) (fun hg => ?_)
      · tm_at "bb"
        rw [e] at hd
        refine sumS hd ?_
        tm_at "bb"
        refine cmpM_i ?_
        refine gt_i ?_
        refine rtM_i ?_
        refine fnR_same ?_
        rw [show shOk ss c = decide ((ss.map iv).sum > 0) by unfold shOk; rw [hi, hc, hg]; rfl] at k
        exact k
      · refine rtM_i ?_
        refine fnR_same ?_
        rw [show shOk ss c = false by unfold shOk; rw [hi, hc, hg]; rfl] at k
        exact k
    · refine rtM_i ?_
      refine fnR_same ?_
      rw [show shOk ss c = false by unfold shOk; rw [hi, hc]; rfl] at k
      exact k
  · refine rtM_i ?_
    refine fnR_same ?_
    rw [show shOk ss c = false by unfold shOk; rw [hi]; rfl] at k
    exact k
def oddIt : List D := [.tup [.int 2, .int 4], .tup [.int 1, .int 0], .int 3, .non, .lst [.int 1, .int 1], .tup [.bl true, .int 1]]
def It (d : D) : Prop := (∃ q, GR q ∧ Rb 90 q ∧ d = rat q) ∨ d ∈ oddIt
theorem It.rv {d : D} (h : It d) : RV d := by
  rcases h with ⟨q, _, _, rfl⟩ | h
  · exact GR.rv q
  · simp only [oddIt, List.mem_cons, List.not_mem_nil, or_false] at h
    have pi : ∀ i : Int, PlL (.int i) := fun i => .inl (.inl ⟨i, rfl⟩)
    rcases h with rfl | rfl | rfl | rfl | rfl | rfl
    · exact .inr ⟨_, rfl, by simp, by simp [pi]⟩
    · exact .inr ⟨_, rfl, by simp, by simp [pi]⟩
    · exact .inl (pi _)
    · exact .inl (.inl (.inr (.inr (.inl rfl))))
    · exact .inl (.inr ⟨_, rfl⟩)
    · exact .inr ⟨_, rfl, by simp, fun x hx => by
        simp only [List.mem_cons, List.not_mem_nil, or_false] at hx
        rcases hx with rfl | rfl
        · exact .inl (.inr (.inl ⟨_, rfl⟩))
        · exact pi _⟩
theorem law_is_ratio_It (h : It d) (k : R (.bl (isR d)) m) : m_law_is_ratio [d] m R E := by
  rcases h with ⟨q, hq, _, rfl⟩ | h
  · refine law_is_ratio_ok hq ?_
    rw [hq.okr] at k
    exact k
  · simp only [oddIt, List.mem_cons, List.not_mem_nil, or_false] at h
    have pi : ∀ i : Int, PlL (.int i) := fun i => .inl (.inl ⟨i, rfl⟩)
    unfold m_law_is_ratio; tm_at "en"; unfold b_law_is_ratio
    rcases h with rfl | rfl | rfl | rfl | rfl | rfl
    · tm_at "mm"
      refine orB_i (fun e => absurd e (by decide)) (fun _ => ?_)
      tm_at "mm"
      refine law_is_number_L (pi _) ?_
      tm_at "mm"
      refine orB_i (fun e => absurd e (by decide)) (fun _ => ?_)
      tm_at "mm"
      refine law_is_number_L (pi _) ?_
      tm_at "mm"
      refine iteM_f' (by decide) ?_
      tm_at "bb"
      refine ixT_i atI_1 ?_
      tm_at "bb"
      refine cmpM_i ?_
      refine ge_i ?_
      refine andM_i (fun _ => ?_) (fun e => absurd e (by decide))
      tm_at "mm"
      refine law_divisor_ok (ns := [2, 4]) (.inl rfl) ?_
      rw [show gL [2, 4] = 2 by decide]
      tm_at "mm"
      exact k
    · tm_at "mm"
      refine orB_i (fun e => absurd e (by decide)) (fun _ => ?_)
      tm_at "mm"
      refine law_is_number_L (pi _) ?_
      tm_at "mm"
      refine orB_i (fun e => absurd e (by decide)) (fun _ => ?_)
      tm_at "mm"
      refine law_is_number_L (pi _) ?_
      tm_at "mm"
      refine iteM_f' (by decide) ?_
      tm_at "bb"
      refine ixT_i atI_1 ?_
      tm_at "bb"
      refine cmpM_i ?_
      refine ge_i ?_
      refine andM_i (fun e => absurd e (by decide)) (fun _ => ?_)
      tm_at "mm"
      exact k
    · tm_at "mm"
      exact k
    · tm_at "mm"
      exact k
    · tm_at "mm"
      exact k
    · tm_at "mm"
      refine orB_i (fun e => absurd e (by decide)) (fun _ => ?_)
      tm_at "mm"
      refine law_is_number_L (.inl (.inr (.inl ⟨_, rfl⟩))) ?_
      refine tru_bl ?_
      refine notB_i ?_
      refine orB_i (fun _ => ?_) (fun e => absurd e (by decide))
      tm_at "mm"
      exact k
end


section
variable {R : D → Led → Prop} {E : XR} {m : Led} {d dl : D} {RB : Bool → Led → Prop}
theorem eqD_emp (xs : List D) : eqD (.lst xs) (.lst []) = xs.isEmpty := by cases xs <;> rfl
theorem ne_empL {xs : List D} (h : ∀ x ∈ xs, Sh 19 x) (k : RB (!xs.isEmpty) m) : cmpB .NotEq (.lst xs) (.lst []) m RB E := .inl ⟨_, _, .now _, .now _, h, (fun _ h => nomatch h), by rw [eqD_emp]; exact k⟩
theorem filt_emp {α : Type} {f : α → D} (p : α → Bool) : ∀ xs : List α, (!(([] ++ (xs.filter p).map f).isEmpty)) = xs.any p
  | [] => rfl
  | x :: xs => by
    have := filt_emp (f := f) p xs
    cases h : p x with
    | true => simp [List.filter_cons, h]
    | false => simpa [List.filter_cons, h] using this
theorem It.sh {n : Nat} {d : D} (h : It d) : Sh (n + 2) d := by
  have pi : ∀ i : Int, Sh (n + 1) (.int i) := fun i => trivial
  rcases h with ⟨q, _, _, rfl⟩ | h
  · exact fun x hx => by
      simp only [List.mem_cons, List.not_mem_nil, or_false] at hx
      rcases hx with rfl | rfl <;> exact pi _
  · simp only [oddIt, List.mem_cons, List.not_mem_nil, or_false] at h
    rcases h with rfl | rfl | rfl | rfl | rfl | rfl
    · exact fun x hx => by
        simp only [List.mem_cons, List.not_mem_nil, or_false] at hx
        rcases hx with rfl | rfl <;> exact pi _
    · exact fun x hx => by
        simp only [List.mem_cons, List.not_mem_nil, or_false] at hx
        rcases hx with rfl | rfl <;> exact pi _
    · trivial
    · trivial
    · exact fun x hx => by
        simp only [List.mem_cons, List.not_mem_nil, or_false] at hx
        rcases hx with rfl | rfl <;> exact pi _
    · exact fun x hx => by
        simp only [List.mem_cons, List.not_mem_nil, or_false] at hx
        rcases hx with rfl | rfl
        · trivial
        · exact pi _
def Rows (d : D) (rs : List (List D)) : Prop := ∃ f : List D → D, (∀ r, Seq (f r) r) ∧ (∀ r, (∀ x ∈ r, Sh 18 x) → Sh 19 (f r)) ∧ Seq d (rs.map f)
def eqLen (rs : List (List D)) : Bool := rs.all fun r => decide (r.length = (rs.headD []).length)
def qv : D → Q
  | .tup [.int a, .int b] => (a, b)
  | _ => (0, 1)
def gQ (rs : List (List D)) (i j : Nat) : Q := qv ((rs.getD i []).getD j .non)
def gS (ss : List D) (i : Nat) : Int := iv (ss.getD i .non)
def tot (f : Nat → Nat → Q) (s : Nat → Int) (S : Int) (j : Nat) : Nat → Q
  | 0 => (0, 1)
  | i + 1 => plusQ (tot f s S j i) (mkQ ((f i j).1 * s i) ((f i j).2 * S))
def dueS (rs : List (List D)) (ss : List D) : Option Str := if shOk ss rs.length then (if rs.all okR then (if eqLen rs then none else some ("mismatch" : Str)) else some ("division" : Str)) else some ("shares" : Str)
def dueL (rs : List (List D)) (ss : List D) : List Q := (List.range (rs.headD []).length).map fun j => tot (gQ rs) (gS ss) (ss.map iv).sum j rs.length
theorem ixSq {xs : List D} {j : Nat} {v : D} (hd : Seq d xs) (hx : xs[j]? = some v) (k : R v m) : ixM d (.int (j : Int)) m R E := by
  rcases hd with rfl | rfl
  · exact ixL_i (atI_nat hx) k
  · exact ixT_i (atI_nat hx) k
theorem shOk_parts {ss : List D} {c : Int} (h : shOk ss c = true) : ss.all isI = true ∧ (ss.length : Int) = c ∧ (∀ i ∈ ss.map iv, 0 ≤ i) ∧ 0 < (ss.map iv).sum := by
  unfold shOk at h
  simp only [Bool.and_eq_true, decide_eq_true_eq, List.all_eq_true] at h
  exact ⟨by rw [List.all_eq_true]; exact h.1, h.2.1, h.2.2.1, h.2.2.2⟩
theorem sum_nn : ∀ {l : List Int}, (∀ i ∈ l, 0 ≤ i) → 0 ≤ l.sum
  | [], _ => by simp
  | x :: l, h => by
    have := sum_nn (l := l) fun i hi => h i (by simp [hi])
    have := h x (by simp)
    rw [List.sum_cons]
    omega
theorem sum_bdN (b : Nat) : ∀ {l : List Int}, (∀ x ∈ l, Bd b x) → Bd (b + l.length) l.sum
  | [], _ => by unfold Bd; simp; exact Nat.pow_pos (by decide)
  | x :: l, h => by
    have h1 := h x (by simp)
    have h2 := sum_bdN b (l := l) fun y hy => h y (by simp [hy])
    rw [List.sum_cons]
    exact (h1.addR h2).up (by simp; omega)
theorem bad_any {ss : List D} : (ss.any fun x => !isI x || decide (iv x < 0)) = false → ss.all isI = true ∧ ∀ i ∈ ss.map iv, 0 ≤ i := by
  intro h
  rw [List.any_eq_false] at h
  refine ⟨List.all_eq_true.mpr fun x hx => ?_, fun i hi => ?_⟩
  · have := h x hx
    cases e : isI x with
    | true => rfl
    | false => rw [e] at this; exact absurd rfl this
  · obtain ⟨x, hx, rfl⟩ := List.mem_map.mp hi
    have := h x hx
    simp only [Bool.or_eq_true, Bool.not_eq_true', decide_eq_true_eq, not_or] at this
    omega
theorem all_false {α : Type} {l : List α} {x : α} {p : α → Bool} (h : x ∈ l) (e : p x = false) : l.all p = false := List.all_eq_false.mpr ⟨x, h, by rw [e]; decide⟩
theorem law_plus_X {p q : Q} (hp : Rb 6000 p) (hq : Rb 1000 q) (p0 : p.2 ≠ 0) (q0 : q.2 ≠ 0) (k : R (rat (plusQ p q)) m) : m_law_plus [rat p, rat q] m R E := by
  obtain ⟨h1, h2⟩ := hp
  obtain ⟨h3, h4⟩ := hq
  show fnM (b_law_plus _ _) m R E
  unfold b_law_plus
  tm_at "mm"
  refine law_ratio_ok (Int.mul_ne_zero p0 q0) ((h2.mulR h4).up (by decide)) ?_
  tm_at "mm"
  exact k
theorem plus_X {p q : Q} (hp : Rb 6000 p) (hq : Rb 1000 q) (p0 : p.2 ≠ 0) (q0 : q.2 ≠ 0) (k : R (rat (plusQ p q)) m) : m_plus [rat p, rat q] m R E := by
  obtain ⟨h1, h2⟩ := hp
  obtain ⟨h3, h4⟩ := hq
  show fnM (b_plus _ _) m R E
  unfold b_plus
  tm_at "mm"
  refine ratio_ok (Int.mul_ne_zero p0 q0) ((h2.mulR h4).up (by decide)) ?_
  tm_at "mm"
  exact k
theorem tot_ok {f : Nat → Nat → Q} {s : Nat → Int} {S : Int} {j : Nat} (hS : 0 < S) (bS : Bd 51 S) : ∀ i, (∀ x, x < i → 0 < (f x j).2 ∧ Rb 90 (f x j) ∧ Bd 10 (s x)) → 0 < (tot f s S j i).2 ∧ Rb (1 + 143 * i) (tot f s S j i)
  | 0, _ => ⟨(show (0 : Int) < 1 by decide), (show Bd 1 0 by unfold Bd; decide).up (by omega), Bd.one.up (by omega)⟩
  | i + 1, h => by
    obtain ⟨g1, g2⟩ := tot_ok (j := j) hS bS i fun x hx => h x (by omega)
    obtain ⟨a1, ⟨a2, a3⟩, a4⟩ := h i (by omega)
    have hd : (f i j).2 * S ≠ 0 := Int.mul_ne_zero (by omega) (by omega)
    have n2 := mkQ_nf (u := (f i j).1 * s i) hd
    have r2 : Rb 141 (mkQ ((f i j).1 * s i) ((f i j).2 * S)) := mkQ_rb hd ((a2.mulR a4).up (by decide)) (a3.mulR bS)
    have hd2 : (tot f s S j i).2 * (mkQ ((f i j).1 * s i) ((f i j).2 * S)).2 ≠ 0 := Int.mul_ne_zero (by omega) (by have := n2.1; omega)
    obtain ⟨b1, b2⟩ := g2
    obtain ⟨c1, c2⟩ := r2
    refine ⟨(mkQ_nf hd2).1, mkQ_rb hd2 ?_ ?_⟩
    · exact ((b1.mulR c2).addR (c1.mulR b2)).up (by omega)
    · exact (b2.mulR c2).up (by omega)
end


section
variable {R : D → Led → Prop} {E : XR} {m : Led} {d dl : D} {RB : Bool → Led → Prop}
theorem eqLen_any (rs : List (List D)) : (rs.any fun r => !decide (r.length = (rs.headD []).length)) = !eqLen rs := by
  unfold eqLen
  rw [← List.not_all_eq_any_not]
theorem ix0 {rs : List (List D)} {f : List D → D} (h : rs ≠ []) : (rs.map f)[0]? = some (f (rs.headD [])) := by
  cases rs with
  | nil => exact absurd rfl h
  | cons r rs => rfl
theorem rows_get {rs : List (List D)} {f : List D → D} {k : Nat} (h : k < rs.length) : (rs.map f)[k]? = some (f (rs.getD k [])) := by
  rw [List.getElem?_map, List.getElem?_eq_getElem h, List.getD_eq_getElem?_getD, List.getElem?_eq_getElem h]
  rfl
theorem okR_len {r : List D} (h : okR r = true) : 1 ≤ r.length ∧ r.length ≤ 5 ∧ r.all isR = true := by
  unfold okR at h
  simp only [Bool.and_eq_true, decide_eq_true_eq] at h
  exact ⟨h.1, h.2.1, h.2.2⟩
theorem isR_qv {x : D} (h : isR x = true) (hi : It x) : x = rat (qv x) ∧ GR (qv x) ∧ Rb 90 (qv x) := by
  rcases hi with ⟨q, h1, h2, rfl⟩ | hi
  · exact ⟨rfl, h1, h2⟩
  · simp only [oddIt, List.mem_cons, List.not_mem_nil, or_false] at hi
    rcases hi with rfl | rfl | rfl | rfl | rfl | rfl <;> exact absurd h (by decide)
structure Good (rs : List (List D)) (ss : List D) : Prop where
  ne : rs ≠ []
  sh : shOk ss rs.length = true
  ok : rs.all okR = true
  le : eqLen rs = true
theorem Good.n {rs : List (List D)} {ss : List D} (g : Good rs ss) : 1 ≤ (rs.headD []).length ∧ (rs.headD []).length ≤ 5 := by
  cases rs with
  | nil => exact absurd rfl g.ne
  | cons r rs =>
    have := okR_len (List.all_eq_true.mp g.ok r (by simp))
    exact ⟨this.1, this.2.1⟩
theorem Good.len {rs : List (List D)} {ss : List D} (g : Good rs ss) {r : List D} (h : r ∈ rs) : r.length = (rs.headD []).length := of_decide_eq_true (List.all_eq_true.mp g.le r h)
theorem getD_mem {α : Type} {l : List α} {k : Nat} {z : α} (h : k < l.length) : l.getD k z ∈ l := by
  rw [List.getD_eq_getElem?_getD, List.getElem?_eq_getElem h]
  exact List.getElem_mem h
theorem getD_get {α : Type} {l : List α} {k : Nat} {z : α} (h : k < l.length) : l[k]? = some (l.getD k z) := by
  rw [List.getD_eq_getElem?_getD, List.getElem?_eq_getElem h]
  rfl
theorem Good.item {rs : List (List D)} {ss : List D} (g : Good rs ss) (hi : ∀ r ∈ rs, ∀ x ∈ r, It x) {i j : Nat} (h1 : i < rs.length) (h2 : j < (rs.headD []).length) : (rs.getD i [])[j]? = some (rat (gQ rs i j)) ∧ GR (gQ rs i j) ∧ Rb 90 (gQ rs i j) := by
  have hm : rs.getD i [] ∈ rs := getD_mem h1
  have hl := g.len hm
  have hx : (rs.getD i []).getD j .non ∈ rs.getD i [] := getD_mem (by omega)
  have hr := List.all_eq_true.mp (okR_len (List.all_eq_true.mp g.ok _ hm)).2.2 _ hx
  obtain ⟨e, g1, g2⟩ := isR_qv hr (hi _ hm _ hx)
  refine ⟨?_, g1, g2⟩
  show _ = some (rat (qv ((rs.getD i []).getD j .non)))
  rw [← e]
  exact getD_get (by omega)
theorem Good.share {rs : List (List D)} {ss : List D} (g : Good rs ss) {i : Nat} (h1 : i < rs.length) : ss[i]? = some (.int (gS ss i)) := by
  obtain ⟨h, hl, _, _⟩ := shOk_parts g.sh
  have hi : i < ss.length := by omega
  obtain ⟨z, hz⟩ := isI_int (List.all_eq_true.mp h _ (List.getElem_mem hi))
  unfold gS
  rw [List.getD_eq_getElem?_getD, List.getElem?_eq_getElem hi, hz]
  rfl
theorem drop_rng {N j x : Nat} {xs : List Nat} (h : x :: xs = (List.range N).drop j) : j < N ∧ x = j ∧ xs = (List.range N).drop (j + 1) := by
  have hlt : j < (List.range N).length := by
    rcases Nat.lt_or_ge j (List.range N).length with q | q
    · exact q
    · rw [List.drop_eq_nil_of_le q] at h
      cases h
  rw [List.drop_eq_getElem_cons hlt] at h
  obtain ⟨e1, e2⟩ := List.cons.inj h
  rw [List.getElem_range] at e1
  exact ⟨by simpa using hlt, e1, e2⟩
theorem drop_end {N j : Nat} (hj : j ≤ N) (h : [] = (List.range N).drop j) : j = N := by
  have := congrArg List.length h
  simp at this
  omega
theorem not5 {k : Nat} (h : (!decide ((k : Int) ≤ 5)) = true) : ¬ k ≤ 5 := fun e => by
  rw [decide_eq_true (show (k : Int) ≤ 5 by omega)] at h
  cases h
theorem law_due_ok {rs : List (List D)} {ss : List D} (hr : Rows dl rs) (hs : Seq d ss) (n40 : rs.length ≤ 40) (l10 : ∀ r ∈ rs, r.length ≤ 10) (hi : ∀ r ∈ rs, ∀ x ∈ r, It x) (sl : ss.length ≤ 41) (sp : ∀ x ∈ ss, Pl x) (sb : ∀ x ∈ ss, Bd 10 (iv x))
    (k1 : ∀ z, dueS rs ss = some z → R (.str z) m) (k2 : dueS rs ss = none → ∀ p, R (.ref p) (m ++ [(p, .lst ((dueL rs ss).map rat))])) : m_law_due [dl, d] m R E := by
  obtain ⟨f, hf, hf2, hr⟩ := hr
  unfold m_law_due; tm_at "en"; unfold b_law_due
  have lr : (rs.map f).length = rs.length := List.length_map _
  have bad1 : shOk ss rs.length = false → dueS rs ss = some ("shares" : Str) := fun h => by unfold dueS; rw [h]; rfl
  refine (show (b_law_due dl d) m (fnRK R) E from ?_)
  unfold b_law_due
  tm_at "bb"
  refine lenQ hs ?_
  tm_at "bb"
  refine lenQ hr ?_
  tm_at "bb"
  refine ne_i ?_
  rw [lr]
  refine orB_i (fun e => ?_) (fun e => ?_)
  · refine iteM_ti ?_
    tm_at "bb"
    refine rtM_i ?_
    refine k1 _ (bad1 ?_)
    unfold shOk
    rw [decide_eq_false (by simpa using e)]
    simp
  have e : (ss.length : Int) = rs.length := by simpa using e
  tm_at "bb"
  refine seqQ hs ?_
  tm_at "bb"
  rw [← List.map_id ss]
  refine comp_filter (e := id) (g := id) (p := fun x => !isI x || decide (iv x < 0)) ss [] (fun x hx Q q1 q2 => ?_) (by simp; omega) ?_
  · tm_at "bb"
    refine law_is_number_L (.inl (sp x hx)) ?_
    refine tru_bl ?_
    refine notB_i ?_
    refine orB_i (fun e => ?_) (fun e => ?_)
    · have e : (!isI x) = true := e
      refine iteM_ti ?_
      tm_at "bb"
      exact q1 (by rw [e]; rfl)
    · have e : (!isI x) = false := e
      obtain ⟨i, rfl⟩ := isI_int (show isI x = true by simpa using e)
      tm_at "bb"
      refine lt_i ?_
      refine iteM_i (fun e2 => ?_) (fun e2 => ?_)
      · tm_at "bb"
        exact q1 (by rw [e]; exact e2)
      · exact q2 (by rw [e]; exact e2)
  refine lsM_i ?_
  tm_at "bb"
  refine mkL_i (by simp) ?_
  refine ne_empL (fun x hx => ?_) ?_
  · obtain ⟨y, hy, rfl⟩ := List.mem_map.mp (by rw [List.nil_append] at hx; exact hx)
    have := sp y (List.mem_filter.mp hy).1
    rcases this with ⟨i, rfl⟩ | ⟨b, rfl⟩ | rfl | ⟨z, rfl⟩ <;> trivial
  rw [filt_emp]
  refine iteM_i (fun e2 => ?_) (fun e2 => ?_)
  · tm_at "bb"
    refine rtM_i ?_
    refine k1 _ (bad1 ?_)
    cases h : shOk ss rs.length with
    | false => rfl
    | true =>
      obtain ⟨a1, _, a2, _⟩ := shOk_parts h
      obtain ⟨x, hx, hb⟩ := List.any_eq_true.mp e2
      have b1 := List.all_eq_true.mp a1 x hx
      have b2 := a2 _ (List.mem_map_of_mem hx)
      rw [b1, Bool.not_true, Bool.false_or, decide_eq_true_eq] at hb
      omega
  obtain ⟨ai, a0⟩ := bad_any e2
  have es := all_ivs ai
  have hs2 := hs
  rw [es] at hs2
  tm_at "bb"
  refine sumS hs2 ?_
  tm_at "bb"
  refine eq_i ?_
  have s0 := sum_nn a0
  refine iteM_i (fun e3 => ?_) (fun e3 => ?_)
  · have e3 := of_decide_eq_true e3
    tm_at "bb"
    refine rtM_i ?_
    refine k1 _ (bad1 ?_)
    unfold shOk
    rw [decide_eq_false (show ¬ 0 < (ss.map iv).sum by omega)]
    simp
  have e3 := of_decide_eq_false e3
  have hsh : shOk ss rs.length = true := by
    unfold shOk
    rw [ai, decide_eq_true e, decide_eq_true (show 0 < (ss.map iv).sum by omega), List.all_eq_true.mpr fun i hi => decide_eq_true (a0 i hi)]
    rfl
  have d1 : dueS rs ss = (if rs.all okR then (if eqLen rs then none else some ("mismatch" : Str)) else some ("division" : Str)) := by unfold dueS; rw [hsh]; rfl
  tm_at "bb"
  refine seqQ hr ?_
  refine seqF_i ?_
  refine for_ind (e := f) (fun xs (s : Unit) m' => m' = m ∧ (∀ r ∈ xs, r ∈ rs) ∧ rs.all okR = xs.all okR) ?_ ?_ _ _ _ ⟨rfl, fun _ h => h, rfl⟩
  · rintro r xs s m' ⟨rfl, hx, hall⟩ Q q1 q2 _
    have hm := hx r (by simp)
    tm_at "bb"
    refine lenQ (hf r) ?_
    tm_at "bb"
    refine le_i ?_
    have hne : okR r = false → dueS rs ss = some ("division" : Str) := fun h => by
      rw [d1, hall, all_false (List.mem_cons_self) h]; rfl
    refine chainB_i (fun h1 => ?_) (fun h1 => ?_)
    · tm_at "bb"
      refine le_i ?_
      refine notB_i ?_
      refine orB_i (fun h2 => ?_) (fun h2 => ?_)
      · refine iteM_ti ?_
        tm_at "bb"
        refine rtM_i ?_
        refine q2 _ _ (k1 _ (hne ?_))
        unfold okR
        rw [decide_eq_false (show ¬ r.length ≤ 5 from not5 h2)]
        simp
      · have h1 := of_decide_eq_true h1
        have h2 : (r.length : Int) ≤ 5 := by simpa using h2
        tm_at "bb"
        refine seqQ (hf r) ?_
        tm_at "bb"
        rw [← List.map_id r]
        refine comp_filter (e := id) (g := id) (p := fun x => !isR x) r [] (fun x hx Q q1 q2 => ?_) (by simp; omega) ?_
        · tm_at "bb"
          refine law_is_ratio_It (hi r hm x hx) ?_
          refine tru_bl ?_
          refine notB_i ?_
          refine iteM_i (fun e2 => ?_) (fun e2 => ?_)
          · tm_at "bb"
            exact q1 e2
          · exact q2 e2
        refine lsM_i ?_
        tm_at "bb"
        refine mkL_i (by simp) ?_
        refine ne_empL (fun x hx => ?_) ?_
        · obtain ⟨y, hy, rfl⟩ := List.mem_map.mp (by rw [List.nil_append] at hx; exact hx)
          exact (hi r hm y (List.mem_filter.mp hy).1).sh
        rw [filt_emp, ← List.not_all_eq_any_not]
        have eo : okR r = r.all isR := by unfold okR; rw [decide_eq_true (by omega), decide_eq_true (by omega)]; rfl
        rw [← eo]
        refine iteM_i (fun e2 => ?_) (fun e2 => ?_)
        · tm_at "bb"
          refine rtM_i ?_
          exact q2 _ _ (k1 _ (hne (by simpa using e2)))
        · refine q1 _ _ ⟨rfl, fun z hz => hx z (by simp [hz]), ?_⟩
          rw [hall, List.all_cons, show okR r = true by simpa using e2, Bool.true_and]
    · refine notB_i ?_
      refine orB_i (fun h2 => ?_) (fun h2 => absurd h2 (by decide))
      refine iteM_ti ?_
      tm_at "bb"
      refine rtM_i ?_
      refine q2 _ _ (k1 _ (hne ?_))
      unfold okR
      rw [decide_eq_false (show ¬ 1 ≤ r.length by have := of_decide_eq_false h1; omega)]
      rfl
  rintro s m' ⟨em, -, hall⟩
  subst m'
  refine seqK_nx ?_
  have hall : rs.all okR = true := by rw [hall]; rfl
  have hn : rs ≠ [] := by
    rintro rfl
    have : ss = [] := List.length_eq_zero_iff.mp (by simpa using e)
    subst this
    exact e3 rfl
  have d2 : dueS rs ss = (if eqLen rs then none else some ("mismatch" : Str)) := by rw [d1, hall]; rfl
  tm_at "bb"
  refine seqQ hr ?_
  tm_at "bb"
  refine comp_filter (e := f) (g := f) (p := fun r => !decide (r.length = (rs.headD []).length)) rs [] (fun r hx Q q1 q2 => ?_) (by simp; omega) ?_
  · tm_at "bb"
    refine lenQ (hf r) ?_
    tm_at "bb"
    refine ixSq (j := 0) hr (ix0 hn) ?_
    tm_at "bb"
    refine lenQ (hf _) ?_
    tm_at "bb"
    refine ne_i ?_
    rw [show decide (((r.length : Nat) : Int) = ((rs.headD []).length : Nat)) = decide (r.length = (rs.headD []).length) from decide_eq_decide.mpr (by omega)]
    refine iteM_i (fun e2 => ?_) (fun e2 => ?_)
    · tm_at "bb"
      exact q1 e2
    · exact q2 e2
  refine lsM_i ?_
  tm_at "bb"
  refine mkL_i (by simp) ?_
  refine ne_empL (fun x hx => ?_) ?_
  · obtain ⟨y, hy, rfl⟩ := List.mem_map.mp (by rw [List.nil_append] at hx; exact hx)
    exact hf2 y fun x hx => (hi y (List.mem_filter.mp hy).1 x hx).sh
  rw [filt_emp, eqLen_any]
  refine iteM_i (fun e4 => ?_) (fun e4 => ?_)
  · tm_at "bb"
    refine rtM_i ?_
    exact k1 _ (by rw [d2, show eqLen rs = false by simpa using e4]; rfl)
  have g : Good rs ss := ⟨hn, hsh, hall, by simpa using e4⟩
  have k2 := k2 (by rw [d2, g.le]; rfl)
  obtain ⟨n1, n5⟩ := g.n
  have S0 := (shOk_parts g.sh).2.2.2
  have bS : Bd 51 (ss.map iv).sum := (sum_bdN 10 (l := ss.map iv) fun x hx => by
    obtain ⟨y, hy, rfl⟩ := List.mem_map.mp hx
    exact sb y hy).up (by simp; omega)
  have bs : ∀ i, i < rs.length → Bd 10 (gS ss i) := fun i hi => sb _ (getD_mem (by omega))
  have tk : ∀ j, j < (rs.headD []).length → ∀ i, i ≤ rs.length → 0 < (tot (gQ rs) (gS ss) (ss.map iv).sum j i).2 ∧ Rb 6000 (tot (gQ rs) (gS ss) (ss.map iv).sum j i) := fun j hj i hi2 => by
    obtain ⟨t1, t2, t3⟩ := tot_ok (f := gQ rs) (s := gS ss) (j := j) S0 bS i fun x hx => by
      obtain ⟨_, g2, g3⟩ := g.item hi (show x < rs.length by omega) hj
      exact ⟨g2.1.1, g3, bs x (by omega)⟩
    exact ⟨t1, t2.up (by omega), t3.up (by omega)⟩
  tm_at "bb"
  refine newL_i (by simp) fun p => ?_
  tm_at "bb"
  refine ixSq (j := 0) hr (ix0 hn) ?_
  tm_at "bb"
  refine lenQ (hf _) ?_
  refine rng_i (by omega) (by omega) ?_
  rw [Int.toNat_natCast, rangeD_map]
  refine seqF_i ?_
  refine for_ind (e := fun k : Nat => D.int (k : Int)) (fun xs (s : Unit) m' => ∃ j, xs = (List.range (rs.headD []).length).drop j ∧ j ≤ (rs.headD []).length ∧ m' = m ++ [(p, .lst ((List.range j).map fun j => rat (tot (gQ rs) (gS ss) (ss.map iv).sum j rs.length)))]) ?_ ?_ _ _ _ ⟨0, rfl, by omega, rfl⟩
  · rintro x xs s m' ⟨j, hx, hj, rfl⟩ Q q1 _ _
    obtain ⟨hj, rfl, rfl⟩ := drop_rng hx
    tm_at "mm"
    refine lenQ hr ?_
    rw [lr]
    refine rng_i (by omega) (by omega) ?_
    rw [Int.toNat_natCast, rangeD_map]
    refine seqF_i ?_
    refine for_ind (e := fun k : Nat => D.int (k : Int)) (fun xs (s : D × Option D × Option D × Option D) m'' => ∃ i, xs = (List.range rs.length).drop i ∧ i ≤ rs.length ∧ s.1 = rat (tot (gQ rs) (gS ss) (ss.map iv).sum x i) ∧ (1 ≤ i → (∃ a, s.2.1 = some a) ∧ (∃ a, s.2.2.1 = some a) ∧ ∃ a, s.2.2.2 = some a) ∧ m'' = m ++ [(p, .lst ((List.range x).map fun j => rat (tot (gQ rs) (gS ss) (ss.map iv).sum j rs.length)))]) ?_ ?_ _ _ _ ⟨0, rfl, by omega, rfl, fun h => absurd h (by decide), rfl⟩
    · rintro y ys ⟨s1, s2, s3, s4⟩ m'' ⟨i, hy, hi2, rfl, -, rfl⟩ Q q1 _ _
      obtain ⟨hi2, rfl, rfl⟩ := drop_rng hy
      obtain ⟨i1, i2, i3⟩ := g.item hi hi2 hj
      obtain ⟨t1, t2⟩ := tk x hj y (by omega)
      have hd : (gQ rs y x).2 * (ss.map iv).sum ≠ 0 := Int.mul_ne_zero (by have := i2.1.1; omega) (by omega)
      tm_at "bb"
      refine ixSq hr (rows_get hi2) ?_
      tm_at "bb"
      refine ixSq (hf _) i1 ?_
      refine ut2_i ?_
      tm_at "bb"
      refine ixSq hs (g.share hi2) ?_
      refine mul_i (Bd.mul i3.1 (bs y hi2) (by decide)) ?_
      tm_at "bb"
      refine sumS hs2 ?_
      refine mul_i (Bd.mul i3.2 bS (by decide)) ?_
      tm_at "bb"
      refine law_ratio_ok hd ((i3.2.mulR bS).up (by decide)) ?_
      tm_at "bb"
      refine law_plus_X t2 (mkQ_rb hd ((i3.1.mulR (bs y hi2)).up (by decide)) ((i3.2.mulR bS).up (by decide))) (by omega) (by have := (mkQ_nf (u := (gQ rs y x).1 * gS ss y) hd).1; omega) ?_
      tm_at "bb"
      exact q1 _ _ ⟨y + 1, rfl, by omega, rfl, fun _ => ⟨⟨_, rfl⟩, ⟨_, rfl⟩, ⟨_, rfl⟩⟩, rfl⟩
    · rintro ⟨s1, s2, s3, s4⟩ m'' ⟨i, hy, hi2, rfl, hg, rfl⟩
      obtain rfl := drop_end hi2 hy
      have h1 : 1 ≤ rs.length := by
        rcases Nat.eq_zero_or_pos rs.length with h | h
        · exact absurd (List.length_eq_zero_iff.mp h) hn
        · exact h
      obtain ⟨⟨a2, e2⟩, ⟨a3, e3⟩, a4, e4⟩ := hg h1
      refine seqK_nx ?_
      tm_at "bb"
      refine ⟨a2, e2, ?_⟩
      tm_at "bb"
      refine ⟨a3, e3, ?_⟩
      tm_at "bb"
      refine ⟨a4, e4, ?_⟩
      tm_at "bb"
      refine chk_i m.length get_last ?_
      tm_at "bb"
      refine app_i m.length get_last (by simp; omega) ?_
      rw [set_last]
      tm_at "bb"
      refine q1 _ _ ⟨x + 1, rfl, by omega, ?_⟩
      rw [List.range_succ, List.map_append]
      rfl
  · rintro s m' ⟨j, hx, hj, rfl⟩
    obtain rfl := drop_end hj hx
    refine seqK_nx ?_
    tm_at "bb"
    refine rtM_i ?_
    have := k2 p
    unfold dueL at this
    rw [List.map_map] at this
    exact this
end


theorem mkQ_rep {q : Q} {x D : Int} (hq : Nf q) (h : Rep q x D) (hD : D ≠ 0) : q = mkQ x D := nf_unique hq (mkQ_nf hD) (by
  have h1 := mkQ_cross (u := x) hD
  unfold Rep at h
  have h2 : (q.1 * (mkQ x D).2) * D = ((mkQ x D).1 * q.2) * D := by
    calc (q.1 * (mkQ x D).2) * D = (q.1 * D) * (mkQ x D).2 := by rw [Int.mul_assoc, Int.mul_comm (mkQ x D).2 D, ← Int.mul_assoc]
      _ = (x * q.2) * (mkQ x D).2 := by rw [h]
      _ = (x * (mkQ x D).2) * q.2 := by rw [Int.mul_assoc, Int.mul_comm q.2, ← Int.mul_assoc]
      _ = ((mkQ x D).1 * D) * q.2 := by rw [h1]
      _ = ((mkQ x D).1 * q.2) * D := by rw [Int.mul_assoc, Int.mul_comm D, ← Int.mul_assoc]
  exact Int.eq_of_mul_eq_mul_right hD h2)
structure DvOk (n : Nat) (w : List Int → Int) (L : List (Q × Int)) (D : Int) : Prop where
  len : L.length = n
  hz : ∀ z ∈ L, GR z.1 ∧ Rep z.1 z.2 D
  hD : 0 < D
  hB : Bd 150 D
  ht : totQ (L.map (·.1)) = (w (rng n), 1)
def ofL (L : List (Q × Int)) : List Q := L.map (·.1)
def zOf (w : List Int → Int) (L : List (Q × Int)) (D : Int) (g : List Int) : Int := w g * D - (g.map fun x => (L.getD x.toNat ((0, 1), 0)).2).sum
theorem pick_L {L : List (Q × Int)} {g : List Int} (hg : ∀ x ∈ g, 0 ≤ x ∧ x < L.length) : pick (ofL L) g = (g.map fun x => L.getD x.toNat ((0, 1), 0)).map (·.1) := by
  unfold pick ofL
  rw [List.map_map]
  refine List.map_congr_left fun x hx => ?_
  have h := hg x hx
  have h2 : x.toNat < L.length := by omega
  simp [h2]
theorem getL_mem {L : List (Q × Int)} {x : Int} (h : 0 ≤ x ∧ x < L.length) : L.getD x.toNat ((0, 1), 0) ∈ L := by
  have h2 : x.toNat < L.length := by omega
  rw [List.getD_eq_getElem?_getD, List.getElem?_eq_getElem h2]
  exact List.getElem_mem h2
theorem DvOk.cmpl {n : Nat} {w : List Int → Int} {L : List (Q × Int)} {D : Int} (h : DvOk n w L D) (h5 : n ≤ 5) {g : List Int} (hg : g ∈ grp n) : cmpl w (ofL L) g = mkQ (zOf w L D g) D := by
  have hgi : ∀ x ∈ g, 0 ≤ x ∧ x < L.length := fun x hx => by rw [h.len]; exact grp_in h5 g hg x hx
  have hD := h.hD
  obtain ⟨h1, h2⟩ := tot_rep (D := D) (g.map fun x => L.getD x.toNat ((0, 1), 0)) fun z hz => by
    obtain ⟨x, hx, rfl⟩ := List.mem_map.mp hz
    have := h.hz _ (getL_mem (hgi x hx))
    exact ⟨this.2, this.1.1.1⟩
  rw [← pick_L hgi, List.map_map] at h1
  rw [← pick_L hgi] at h2
  have h3 : Rep (minusQ (w g, 1) (totQ (pick (ofL L) g))) (w g * D - (g.map ((fun z : Q × Int => z.2) ∘ fun x => L.getD x.toNat ((0, 1), 0))).sum) D := Rep.minus (by unfold Rep; simp) h1 (by simp) h2.1
  refine mkQ_rep (mkQ_nf (Int.mul_ne_zero (by simp) (by have := h2.1; omega))) ?_ (by omega)
  exact h3
theorem mkQ_eq {a b D1 D2 : Int} (h1 : 0 < D1) (h2 : 0 < D2) (h : a * D2 = b * D1) : mkQ a D1 = mkQ b D2 := by
  refine mkQ_rep (mkQ_nf (by omega)) ?_ (by omega)
  have c := mkQ_cross (u := a) (d := D1) (by omega)
  unfold Rep
  refine Int.eq_of_mul_eq_mul_right (a := D1) (by omega) ?_
  rw [Int.mul_right_comm, c, Int.mul_right_comm, h, Int.mul_right_comm]

section
variable {R : D → Led → Prop} {E : XR} {m : Led} {d dl : D} {RB : Bool → Led → Prop}
def errS (z : Str) : Str := if z = ("shares" : Str) then ("BadShares" : Str) else if z = ("division" : Str) then ("NotDivision" : Str) else ("Mismatch" : Str)
theorem are_ratios_rows {rs : List (List D)} {f : List D → D} (hf : ∀ r, Seq (f r) r) (l10 : ∀ r ∈ rs, r.length ≤ 10) (hi : ∀ r ∈ rs, ∀ x ∈ r, It x) {r : List D} (h : r ∈ rs) (k : R (.bl (okR r)) m) : m_are_ratios [f r] m R E :=
  are_ratios_ok (hf r) (by have := l10 r h; omega) (fun x hx => (hi r h x hx).rv) k
theorem erase_lastB {m : Led} {c : Addr × MO} : (m ++ [c]).eraseIdx m.length = m := by rw [List.eraseIdx_append_of_length_le (Nat.le_refl _), Nat.sub_self]; simp
theorem zipD_map2 (f g : Nat → D) : ∀ l : List Nat, zipD (l.map f) (l.map g) = l.map fun i => .tup [f i, g i]
  | [] => rfl
  | x :: l => by
    show D.tup [f x, g x] :: zipD (l.map f) (l.map g) = _
    rw [zipD_map2 f g l]
    rfl
theorem zipD_map {N : Nat} (f g : Nat → D) : zipD ((List.range N).map f) ((List.range N).map g) = (List.range N).map fun i => .tup [f i, g i] := zipD_map2 f g _
theorem list_gen {α : Type} {l : List α} {z : α} : l = (List.range l.length).map fun i => l.getD i z := by
  refine List.ext_getElem (by simp) fun i h1 h2 => ?_
  rw [List.getElem_map, List.getElem_range, List.getD_eq_getElem?_getD, List.getElem?_eq_getElem h1]
  rfl
theorem timesQ_part {s S t b : Int} (hS : S ≠ 0) (hb : 0 < b) (hS2 : 0 < S) : timesQ (mkQ s S) (t, b) = mkQ (t * s) (b * S) := by
  obtain ⟨p, rfl, p0, e1, e2, h0, _⟩ := mkQ_spec (u := s) hS
  generalize mkQ s S = q at *
  generalize piece s S = p at *
  have hp : 0 < p := by
    rcases Int.lt_trichotomy p 0 with h | h | h
    · have := Int.mul_neg_of_pos_of_neg h0 h
      omega
    · exact absurd h p0
    · exact h
  unfold timesQ
  refine mkQ_eq (Int.mul_pos h0 hb) (Int.mul_pos hb hS2) ?_
  show q.1 * t * (b * S) = t * s * (q.2 * b)
  rw [e1, e2]
  simp only [Int.mul_comm, Int.mul_left_comm]
theorem blended_ok {rs : List (List D)} {ss : List D} (hr : Rows dl rs) (hs : Seq d ss) (n40 : rs.length ≤ 40) (l10 : ∀ r ∈ rs, r.length ≤ 10) (hi : ∀ r ∈ rs, ∀ x ∈ r, It x) (sl : ss.length ≤ 41) (sp : ∀ x ∈ ss, Pl x) (sb : ∀ x ∈ ss, Bd 10 (iv x))
    (k1 : ∀ z, dueS rs ss = some z → E (errS z) none m) (k2 : dueS rs ss = none → ∀ p, R (.ref p) (m ++ [(p, .lst ((dueL rs ss).map rat))])) : m_blended [dl, d] m R E := by
  obtain ⟨f, hf, hf2, hr⟩ := hr
  unfold m_blended; tm_at "en"; unfold b_blended
  have lr : (rs.map f).length = rs.length := List.length_map _
  refine (show (b_blended dl d) m (fnRK R) E from ?_)
  unfold b_blended
  tm_at "bb"
  refine lenQ hr ?_
  rw [lr]
  tm_at "bb"
  refine are_shares_ok hs (by omega) (fun x hx => .inl (sp x hx)) ?_
  refine tru_bl ?_
  refine notB_i ?_
  refine iteM_i (fun e => ?_) (fun e => ?_)
  · refine rai_i ?_
    exact k1 ("shares" : Str) (by unfold dueS; rw [show shOk ss rs.length = false by simpa using e]; rfl)
  have hsh : shOk ss rs.length = true := by simpa using e
  have d1 : dueS rs ss = (if rs.all okR then (if eqLen rs then none else some ("mismatch" : Str)) else some ("division" : Str)) := by unfold dueS; rw [hsh]; rfl
  obtain ⟨ai, el, a0, S0⟩ := shOk_parts hsh
  have es := all_ivs ai
  have hs2 := hs
  rw [es] at hs2
  tm_at "bb"
  refine seqQ hr ?_
  tm_at "bb"
  refine comp_map (e := f) (g := fun r => D.bl (okR r)) rs [] (fun r hx Q hQ => ?_) (by simp; omega) ?_
  · tm_at "bb"
    refine are_ratios_rows hf l10 hi hx ?_
    tm_at "bb"
    exact hQ
  refine lsM_i ?_
  rw [show [] ++ rs.map (fun r => D.bl (okR r)) = (rs.map okR).map D.bl by simp]
  tm_at "bb"
  refine all_L ?_
  rw [show (rs.map okR).all id = rs.all okR by rw [List.all_map]; rfl]
  refine tru_bl ?_
  refine notB_i ?_
  refine iteM_i (fun e => ?_) (fun e => ?_)
  · refine rai_i ?_
    exact k1 ("division" : Str) (by rw [d1, show rs.all okR = false by simpa using e]; rfl)
  have hall : rs.all okR = true := by simpa using e
  have hn : rs ≠ [] := by
    rintro rfl
    have : ss = [] := List.length_eq_zero_iff.mp (by simpa using el)
    subst this
    exact absurd S0 (by decide)
  have d2 : dueS rs ss = (if eqLen rs then none else some ("mismatch" : Str)) := by rw [d1, hall]; rfl
  tm_at "bb"
  refine seqQ hr ?_
  tm_at "bb"
  refine comp_map (e := f) (g := fun r => D.bl (!decide (r.length = (rs.headD []).length))) rs [] (fun r hx Q hQ => ?_) (by simp; omega) ?_
  · tm_at "bb"
    refine lenQ (hf r) ?_
    tm_at "bb"
    refine ixSq (j := 0) hr (ix0 hn) ?_
    tm_at "bb"
    refine lenQ (hf _) ?_
    tm_at "bb"
    refine cmpM_i ?_
    refine ne_i ?_
    rw [show decide (((r.length : Nat) : Int) = ((rs.headD []).length : Nat)) = decide (r.length = (rs.headD []).length) from decide_eq_decide.mpr (by omega)]
    tm_at "bb"
    exact hQ
  refine lsM_i ?_
  rw [show [] ++ rs.map (fun r => D.bl (!decide (r.length = (rs.headD []).length))) = (rs.map fun r => !decide (r.length = (rs.headD []).length)).map D.bl by simp]
  tm_at "bb"
  refine any_L ?_
  rw [show (rs.map fun r => !decide (r.length = (rs.headD []).length)).any id = !eqLen rs by rw [List.any_map, ← eqLen_any]; rfl]
  refine tru_bl ?_
  refine iteM_i (fun e => ?_) (fun e => ?_)
  · refine rai_i ?_
    exact k1 ("mismatch" : Str) (by rw [d2, show eqLen rs = false by simpa using e]; rfl)
  have g : Good rs ss := ⟨hn, hsh, hall, by simpa using e⟩
  have k2 := k2 (by rw [d2, g.le]; rfl)
  obtain ⟨n1, n5⟩ := g.n
  have bS : Bd 51 (ss.map iv).sum := (sum_bdN 10 (l := ss.map iv) fun x hx => by
    obtain ⟨y, hy, rfl⟩ := List.mem_map.mp hx
    exact sb y hy).up (by simp; omega)
  have bs : ∀ i, i < rs.length → Bd 10 (gS ss i) := fun i hi => sb _ (getD_mem (by omega))
  have tk : ∀ j, j < (rs.headD []).length → ∀ i, i ≤ rs.length → 0 < (tot (gQ rs) (gS ss) (ss.map iv).sum j i).2 ∧ Rb 6000 (tot (gQ rs) (gS ss) (ss.map iv).sum j i) := fun j hj i hi2 => by
    obtain ⟨t1, t2, t3⟩ := tot_ok (f := gQ rs) (s := gS ss) (j := j) S0 bS i fun x hx => by
      obtain ⟨_, g2, g3⟩ := g.item hi (show x < rs.length by omega) hj
      exact ⟨g2.1.1, g3, bs x (by omega)⟩
    exact ⟨t1, t2.up (by omega), t3.up (by omega)⟩
  have hz : ∀ {m' : Led} {R : List D → Led → Prop}, R ((List.range rs.length).map fun i => .tup [f (rs.getD i []), .int (gS ss i)]) m' → zipX dl d m' R E := fun {m' R} h => by
    refine ⟨_, _, hr, hs, by rw [lr]; omega, ?_⟩
    have e1 : rs.map f = (List.range rs.length).map fun i => f (rs.getD i []) := by
      conv => lhs; rw [list_gen (l := rs) (z := [])]
      rw [List.map_map]; rfl
    have e2 : ss = (List.range rs.length).map fun i => .int (gS ss i) := by
      rw [show rs.length = ss.length by omega]
      conv => lhs; rw [list_gen (l := ss) (z := D.non)]
      refine List.map_congr_left fun i hi => ?_
      have := g.share (i := i) (by simp at hi; omega)
      rw [getD_get (z := D.non) (by simpa using hi)] at this
      exact Option.some.inj this
    rw [e1]
    conv => enter [1]; rw [e2]
    rw [zipD_map]
    exact h
  tm_at "bb"
  refine ixSq (j := 0) hr (ix0 hn) ?_
  tm_at "bb"
  refine seqQ (hf _) ?_
  tm_at "bb"
  rw [← List.map_id (rs.headD [])]
  refine comp_map (e := id) (g := fun _ => rat (0, 1)) (rs.headD []) [] (fun x hx Q hQ => ?_) (by simp only [List.length_nil, Nat.zero_add]; omega) ?_
  · tm_at "bb"
    exact hQ
  refine lsMM_i fun p => ?_
  tm_at "bb"
  refine hz ?_
  refine seqF_i ?_
  refine for_ind (e := fun i : Nat => .tup [f (rs.getD i []), .int (gS ss i)]) (fun xs (s : D) m' => ∃ i q, xs = (List.range rs.length).drop i ∧ i ≤ rs.length ∧ s = .ref q ∧ m' = m ++ [(q, .lst ((List.range (rs.headD []).length).map fun j => rat (tot (gQ rs) (gS ss) (ss.map iv).sum j i)))]) ?_ ?_ _ _ _ ⟨0, p, rfl, by omega, rfl, ?_⟩
  · rintro x xs s m' ⟨i, q, hx, hi2, rfl, rfl⟩ Q q1 _ _
    obtain ⟨hi2, rfl, rfl⟩ := drop_rng hx
    refine ut2_i ?_
    tm_at "bb"
    refine sumS hs2 ?_
    tm_at "bb"
    refine ratio_ok (by omega) (bS.up (by decide)) ?_
    tm_at "bb"
    refine frz_i m.length get_last ?_
    rw [erase_lastB]
    tm_at "bb"
    have e1 : rs.getD x [] = (List.range (rs.headD []).length).map fun j => rat (gQ rs x j) := by
      rw [← g.len (getD_mem hi2)]
      conv => lhs; rw [list_gen (l := rs.getD x []) (z := D.non)]
      refine List.map_congr_left fun j hj => ?_
      have hj : j < (rs.getD x []).length := by simpa using hj
      have := (g.item hi hi2 (j := j) (by rw [← g.len (getD_mem hi2)]; exact hj)).1
      rw [getD_get (z := D.non) hj] at this
      exact Option.some.inj this
    refine ⟨_, _, .inl rfl, hf _, by rw [List.length_map, List.length_range, g.len (getD_mem hi2)], ?_⟩
    rw [e1, zipD_map]
    tm_at "bb"
    refine comp_map (e := fun j : Nat => .tup [rat (tot (gQ rs) (gS ss) (ss.map iv).sum j x), rat (gQ rs x j)]) (g := fun j : Nat => rat (tot (gQ rs) (gS ss) (ss.map iv).sum j (x + 1))) (List.range (rs.headD []).length) [] (fun j hj Q hQ => ?_) (by simp only [List.length_nil, Nat.zero_add, List.length_range]; omega) ?_
    · have hj : j < (rs.headD []).length := by simpa using hj
      obtain ⟨i1, i2, i3⟩ := g.item hi hi2 hj
      obtain ⟨t1, t2⟩ := tk j hj x (by omega)
      have hd : (gQ rs x j).2 * (ss.map iv).sum ≠ 0 := Int.mul_ne_zero (by have := i2.1.1; omega) (by omega)
      have np := mkQ_nf (u := gS ss x) (d := (ss.map iv).sum) (by omega)
      have rp : Rb 51 (mkQ (gS ss x) (ss.map iv).sum) := mkQ_rb (by omega) ((bs x hi2).up (by decide)) bS
      refine un2_i ?_
      tm_at "bb"
      refine times_ok ⟨rp.1.up (by decide), rp.2.up (by decide)⟩ i2.rb (by have := np.1; omega) (by have := i2.1.1; omega) ?_
      rw [show timesQ (mkQ (gS ss x) (ss.map iv).sum) (gQ rs x j) = mkQ ((gQ rs x j).1 * gS ss x) ((gQ rs x j).2 * (ss.map iv).sum) from timesQ_part (by omega) i2.1.1 S0]
      tm_at "bb"
      refine plus_X t2 (mkQ_rb hd ((i3.1.mulR (bs x hi2)).up (by decide)) ((i3.2.mulR bS).up (by decide))) (by omega) (by have := (mkQ_nf (u := (gQ rs x j).1 * gS ss x) hd).1; omega) ?_
      tm_at "bb"
      exact hQ
    refine lsMM_i fun q2 => ?_
    rw [List.nil_append]
    tm_at "bb"
    exact q1 _ _ ⟨x + 1, q2, rfl, by omega, rfl, rfl⟩
  · rintro s m' ⟨i, q, hx, hi2, rfl, rfl⟩
    obtain rfl := drop_end hi2 hx
    refine seqK_nx ?_
    tm_at "bb"
    refine rtM_i ?_
    have := k2 q
    unfold dueL at this
    rw [List.map_map] at this
    exact this
  · show _ = m ++ [(p, MO.lst ((List.range (rs.headD []).length).map fun _ => rat (0, 1)))]
    rw [List.nil_append, List.map_const', List.map_const', List.length_range]
end


theorem mkQ_leB {z D : Int} (hD : 0 < D) (h : z ≤ 0) : (mkQ z D).1 ≤ 0 := by
  have h1 := mkQ_cross (u := z) (d := D) (by omega)
  have h2 := (mkQ_nf (u := z) (d := D) (by omega)).1
  rcases Int.lt_or_le 0 (mkQ z D).1 with q | q
  · have h3 := Int.mul_pos q hD
    have h4 := Int.mul_nonpos_of_nonpos_of_nonneg h (Int.le_of_lt h2)
    omega
  · exact q
theorem plusQ_sameB {x y D : Int} (hD : 0 < D) : plusQ (mkQ x D) (mkQ y D) = mkQ (x + y) D := by
  have a := mkQ_nf (u := x) (d := D) (by omega)
  have b := mkQ_nf (u := y) (d := D) (by omega)
  exact mkQ_rep (mkQ_nf (Int.mul_ne_zero (by have := a.1; omega) (by have := b.1; omega))) (Rep.plus (Rep.mkQ (by omega)) (Rep.mkQ (by omega)) a.1 b.1) (by omega)
theorem mkQ_intB {c D : Int} (hD : 0 < D) : mkQ (c * D) D = (c, 1) := by
  refine (mkQ_rep (q := (c, 1)) ⟨(show (0 : Int) < 1 by decide), ?_⟩ ?_ (by omega)).symm
  · show Int.gcd c 1 = 1
    exact Int.gcd_one_right c
  · unfold Rep
    show c * D = c * D * 1
    rw [Int.mul_one]
theorem mkQ_zeroB {D : Int} (h : 0 < D) : mkQ 0 D = (0, 1) := by
  have := mkQ_intB (c := 0) h
  rwa [Int.zero_mul] at this
theorem minusQ_intB {c z D : Int} (hD : 0 < D) : minusQ (c, 1) (mkQ z D) = mkQ (c * D - z) D := by
  have a := mkQ_nf (u := z) (d := D) (by omega)
  refine mkQ_rep (mkQ_nf (Int.mul_ne_zero (show (1 : Int) ≠ 0 by decide) (by have := a.1; omega))) (Rep.minus (by unfold Rep; simp) (Rep.mkQ (by omega)) (show (0 : Int) < 1 by decide) a.1) (by omega)
def rwD (D : Int) (t : List Int) : List Q := t.map fun z => mkQ z D
theorem rwD_fold {D : Int} (hD : 0 < D) : ∀ (t : List Int) (s : Int), (rwD D t).foldl plusQ (mkQ s D) = mkQ (s + t.sum) D
  | [], s => by simp [rwD]
  | z :: t, s => by
    show (rwD D t).foldl plusQ (plusQ (mkQ s D) (mkQ z D)) = _
    rw [plusQ_sameB hD, rwD_fold hD t, List.sum_cons, Int.add_assoc]
theorem rwD_tot {D : Int} (hD : 0 < D) (t : List Int) : totQ (rwD D t) = mkQ t.sum D := by
  have := rwD_fold hD t 0
  rw [mkQ_zeroB hD, Int.zero_add] at this
  exact this
theorem rwD_get {D : Int} (hD : 0 < D) (t : List Int) (i : Nat) : (rwD D t).getD i (0, 1) = mkQ (t.getD i 0) D := by
  unfold rwD
  rw [List.getD_eq_getElem?_getD, List.getD_eq_getElem?_getD, List.getElem?_map]
  cases t[i]? with
  | none => exact (mkQ_zeroB hD).symm
  | some z => rfl
def aG (t : List Int) (g : List Int) : Int := (g.map fun x => t.getD x.toNat 0).sum
theorem rwD_pick {D : Int} (hD : 0 < D) (t g : List Int) : totQ (pick (rwD D t) g) = mkQ (aG t g) D := by
  have : pick (rwD D t) g = rwD D (g.map fun x => t.getD x.toNat 0) := by
    unfold pick
    rw [show rwD D (g.map fun x => t.getD x.toNat 0) = g.map fun x => mkQ (t.getD x.toNat 0) D by unfold rwD; rw [List.map_map]; rfl]
    exact List.map_congr_left fun x _ => rwD_get hD t x.toNat
  rw [this, rwD_tot hD]
  rfl
theorem aG_rng {t : List Int} {n : Nat} (h : t.length = n) : aG t (rng n) = t.sum := by
  unfold aG rng
  rw [List.map_map]
  conv => rhs; rw [list_gen (l := t) (z := 0), h]
  rfl
theorem sum_lin {α : Type} (f h : α → Int) (a b : Int) : ∀ l : List α, (l.map fun x => f x * a + h x * b).sum = (l.map f).sum * a + (l.map h).sum * b
  | [] => by simp
  | x :: l => by
    rw [List.map_cons, List.sum_cons, sum_lin f h a b l, List.map_cons, List.sum_cons, List.map_cons, List.sum_cons, Int.add_mul, Int.add_mul]
    omega
def mix (n : Nat) (t u : List Int) (a b : Int) : List Int := (List.range n).map fun j => t.getD j 0 * a + u.getD j 0 * b
theorem mix_get {n : Nat} {t u : List Int} {a b : Int} (ht : t.length = n) (hu : u.length = n) (i : Nat) : (mix n t u a b).getD i 0 = t.getD i 0 * a + u.getD i 0 * b := by
  rcases Nat.lt_or_ge i n with h | h
  · unfold mix
    rw [List.getD_eq_getElem?_getD, List.getElem?_map, List.getElem?_range h]
    rfl
  · have e1 : t.getD i 0 = 0 := by rw [List.getD_eq_getElem?_getD, List.getElem?_eq_none (by omega)]; rfl
    have e2 : u.getD i 0 = 0 := by rw [List.getD_eq_getElem?_getD, List.getElem?_eq_none (by omega)]; rfl
    have e3 : (mix n t u a b).getD i 0 = 0 := by rw [List.getD_eq_getElem?_getD, List.getElem?_eq_none (by unfold mix; simpa using h)]; rfl
    rw [e1, e2, e3]
    simp
theorem mix_aG {n : Nat} {t u : List Int} {a b : Int} (ht : t.length = n) (hu : u.length = n) (g : List Int) : aG (mix n t u a b) g = aG t g * a + aG u g * b := by
  unfold aG
  rw [← sum_lin]
  congr 1
  exact List.map_congr_left fun x _ => mix_get ht hu x.toNat
theorem mix_sum {n : Nat} {t u : List Int} {a b : Int} (ht : t.length = n) (hu : u.length = n) : (mix n t u a b).sum = t.sum * a + u.sum * b := by
  rw [← aG_rng (n := n) (by simp [mix]), mix_aG ht hu, aG_rng ht, aG_rng hu]
def fl (t g : List Int) : Int := (mkQ (aG t g) 3).1.fdiv (mkQ (aG t g) 3).2
theorem fl_le (t g : List Int) : 3 * fl t g ≤ aG t g := by
  have c := mkQ_cross (u := aG t g) (d := 3) (by decide)
  have p := (mkQ_nf (u := aG t g) (d := 3) (by decide)).1
  unfold fl
  generalize mkQ (aG t g) 3 = q at *
  have h1 : q.1.fdiv q.2 * q.2 ≤ q.1 := by
    rw [Int.fdiv_eq_ediv_of_nonneg _ (by omega)]
    exact Int.ediv_mul_le _ (by omega)
  have h2 : (3 * q.1.fdiv q.2) * q.2 ≤ aG t g * q.2 := by
    rw [Int.mul_assoc, ← c]
    omega
  exact Int.le_of_mul_le_mul_right h2 p
theorem fl_bd {t g : List Int} (h : Bd 18 (aG t g)) : Bd 19 (fl t g) := by
  have r := mkQ_rb (u := aG t g) (d := 3) (n := 18) (by decide) h (by unfold Bd; decide)
  have p := (mkQ_nf (u := aG t g) (d := 3) (by decide)).1
  unfold fl
  generalize mkQ (aG t g) 3 = q at *
  have h1 := r.1
  unfold Bd at h1 ⊢
  rw [Int.fdiv_eq_ediv_of_nonneg _ (by omega)]
  have := Int.natAbs_ediv_le_natAbs q.1 q.2
  omega
theorem aG_bd {t g : List Int} (ht : ∀ z ∈ t, Bd 12 z) (hg : g.length ≤ 5) : Bd 18 (aG t g) := by
  have := sum_bdN 12 (l := g.map fun x => t.getD x.toNat 0) fun x hx => by
    obtain ⟨y, _, rfl⟩ := List.mem_map.mp hx
    rcases Nat.lt_or_ge y.toNat t.length with h | h
    · exact ht _ (getD_mem h)
    · rw [List.getD_eq_getElem?_getD, List.getElem?_eq_none (by omega)]
      unfold Bd; decide
  exact this.up (by simp; omega)
def wB (n : Nat) (t u : List Int) (g : List Int) : Int := if g ∈ grp n then min (fl t g) (fl u g) else 0
theorem wB_bd {n : Nat} (h5 : n ≤ 5) {t u : List Int} (ht : ∀ z ∈ t, Bd 12 z) (hu : ∀ z ∈ u, Bd 12 z) (g : List Int) : Bd 20 (wB n t u g) := by
  unfold wB
  split
  · rename_i hg
    have lg := (grp_small n h5).2 g hg
    have a := fl_bd (aG_bd ht lg)
    have b := fl_bd (aG_bd hu lg)
    unfold Bd at *
    omega
  · unfold Bd; decide
theorem wB_rng {n : Nat} (h0 : 1 ≤ n) {t u : List Int} (ht : t.length = n) (hu : u.length = n) (st : t.sum = 27) (su : u.sum = 27) : wB n t u (rng n) = 9 := by
  have f9 : ∀ t : List Int, t.length = n → t.sum = 27 → fl t (rng n) = 9 := fun t h s => by
    unfold fl
    rw [aG_rng h, s]
    decide
  unfold wB
  rw [if_pos (rng_mem_grp h0), f9 t ht st, f9 u hu su]
  rfl
theorem mix_calm {n : Nat} (h5 : n ≤ 5) {t u : List Int} {a b : Int} (ht : t.length = n) (hu : u.length = n) (ha : 0 ≤ a) (hb : 0 ≤ b) (hS : 0 < 3 * (a + b)) : calmB (wB n t u) (rwD (3 * (a + b)) (mix n t u a b)) (grp n) = true := by
  unfold calmB
  rw [List.all_eq_true]
  intro g hg
  refine decide_eq_true ?_
  unfold cmpl
  rw [rwD_pick hS, minusQ_intB hS, mix_aG ht hu]
  refine mkQ_leB hS ?_
  have e : wB n t u g = min (fl t g) (fl u g) := if_pos hg
  have h1 : 3 * wB n t u g ≤ aG t g := by have := fl_le t g; omega
  have h2 : 3 * wB n t u g ≤ aG u g := by have := fl_le u g; omega
  have h3 := Int.mul_le_mul_of_nonneg_right h1 ha
  have h4 := Int.mul_le_mul_of_nonneg_right h2 hb
  have e2 : wB n t u g * (3 * (a + b)) = 3 * wB n t u g * a + 3 * wB n t u g * b := by
    rw [← Int.mul_assoc, Int.mul_comm (wB n t u g) 3, Int.mul_add]
  omega


section
variable {p : Addr} {a c : Int} {ns : List Int} {rest : Led} {R : D → Led → Prop} {E : XR} {n : Nat} {m : Led} {d : D}
def qrow (t : List Int) : List D := (rwD 3 t).map rat
theorem GR_3 {z : Int} (h : Bd 12 z) : GR (mkQ z 3) ∧ Rb 90 (mkQ z 3) := by
  have r := mkQ_rb (u := z) (d := 3) (n := 12) (by decide) h (by unfold Bd; decide)
  exact ⟨⟨mkQ_nf (by decide), r.1.up (by decide), r.2.up (by decide)⟩, r.1.up (by decide), r.2.up (by decide)⟩
theorem rwD_GR {t : List Int} (ht : ∀ z ∈ t, Bd 12 z) : ∀ q ∈ rwD 3 t, GR q := fun q hq => by
  obtain ⟨z, hz, rfl⟩ := List.mem_map.mp hq
  exact (GR_3 (ht z hz)).1
theorem qrow_len (t : List Int) : (qrow t).length = t.length := by simp [qrow, rwD]
theorem qrow_It {t : List Int} (ht : ∀ z ∈ t, Bd 12 z) : ∀ x ∈ qrow t, It x := fun x hx => by
  obtain ⟨q, hq, rfl⟩ := List.mem_map.mp hx
  obtain ⟨z, hz, rfl⟩ := List.mem_map.mp hq
  have := GR_3 (ht z hz)
  exact .inl ⟨_, this.1, this.2, rfl⟩
theorem qrow_ok {t : List Int} (h0 : 1 ≤ t.length) (h5 : t.length ≤ 5) (ht : ∀ z ∈ t, Bd 12 z) : okR (qrow t) = true := by
  unfold okR
  rw [qrow_len, decide_eq_true h0, decide_eq_true h5, List.all_eq_true.mpr]
  · rfl
  · intro x hx
    obtain ⟨q, hq, rfl⟩ := List.mem_map.mp hx
    exact (rwD_GR ht q hq).okr
theorem qrow_get {t : List Int} {j : Nat} (h : j < t.length) : qv ((qrow t).getD j .non) = mkQ (t.getD j 0) 3 := by
  have h1 := getD_get (l := t) (z := 0) h
  unfold qrow rwD
  rw [List.getD_eq_getElem?_getD, List.getElem?_map, List.getElem?_map, h1]
  rfl
theorem two_due {t u : List Int} {s0 s1 : Int} (h0 : 1 ≤ n) (h5 : n ≤ 5) (ht : t.length = n) (hu : u.length = n) (bt : ∀ z ∈ t, Bd 12 z) (bu : ∀ z ∈ u, Bd 12 z) (a0 : 0 ≤ s0) (a1 : 0 < s1) : dueS [qrow t, qrow u] [.int s0, .int s1] = none ∧ dueL [qrow t, qrow u] [.int s0, .int s1] = rwD (3 * (s0 + s1)) (mix n t u s0 s1) := by
  have hS : 0 < 3 * (s0 + s1) := by omega
  constructor
  · unfold dueS
    have e1 : shOk [.int s0, .int s1] (([qrow t, qrow u] : List (List D)).length : Nat) = true := by
      unfold shOk
      simp only [List.all_cons, List.all_nil, List.map_cons, List.map_nil, List.sum_cons, List.sum_nil, isI, iv, List.length_cons, List.length_nil, Bool.and_true, Bool.true_and]
      rw [decide_eq_true a0, decide_eq_true (show 0 ≤ s1 by omega), decide_eq_true (show 0 < s0 + (s1 + 0) by omega)]
      rfl
    have e2 : ([qrow t, qrow u] : List (List D)).all okR = true := by
      simp only [List.all_cons, List.all_nil]
      rw [qrow_ok (by omega) (by omega) bt, qrow_ok (by omega) (by omega) bu]
      rfl
    have e3 : eqLen [qrow t, qrow u] = true := by
      unfold eqLen
      rw [List.all_eq_true]
      intro r hr
      refine decide_eq_true ?_
      have el : ([qrow t, qrow u].headD []).length = n := by rw [List.headD_cons, qrow_len, ht]
      rw [el]
      simp only [List.mem_cons, List.not_mem_nil, or_false] at hr
      rcases hr with rfl | rfl
      · rw [qrow_len, ht]
      · rw [qrow_len, hu]
    rw [e1, e2, e3]
    rfl
  · unfold dueL rwD mix
    rw [List.map_map]
    have el : ([qrow t, qrow u].headD []).length = n := by rw [List.headD_cons, qrow_len, ht]
    rw [el]
    refine List.map_congr_left fun j hj => ?_
    have hj : j < n := by simpa using hj
    have es : (([.int s0, .int s1] : List D).map iv).sum = s0 + s1 := by simp [iv]
    rw [es]
    have g0 : gQ [qrow t, qrow u] 0 j = mkQ (t.getD j 0) 3 := qrow_get (by omega)
    have g1 : gQ [qrow t, qrow u] 1 j = mkQ (u.getD j 0) 3 := qrow_get (by omega)
    have hm : ∀ z s : Int, mkQ ((mkQ z 3).1 * s) ((mkQ z 3).2 * (s0 + s1)) = mkQ (z * s) (3 * (s0 + s1)) := fun z s => by
      have c := mkQ_cross (u := z) (d := 3) (by decide)
      have p := (mkQ_nf (u := z) (d := 3) (by decide)).1
      refine mkQ_eq (Int.mul_pos p (by omega)) hS ?_
      calc (mkQ z 3).1 * s * (3 * (s0 + s1)) = ((mkQ z 3).1 * 3) * (s * (s0 + s1)) := by simp only [Int.mul_comm, Int.mul_left_comm, Int.mul_assoc]
        _ = z * (mkQ z 3).2 * (s * (s0 + s1)) := by rw [c]
        _ = z * s * ((mkQ z 3).2 * (s0 + s1)) := by simp only [Int.mul_comm, Int.mul_left_comm, Int.mul_assoc]
    show plusQ (plusQ (0, 1) (mkQ ((gQ [qrow t, qrow u] 0 j).1 * s0) ((gQ [qrow t, qrow u] 0 j).2 * (s0 + s1)))) (mkQ ((gQ [qrow t, qrow u] 1 j).1 * s1) ((gQ [qrow t, qrow u] 1 j).2 * (s0 + s1))) = mkQ (t.getD j 0 * s0 + u.getD j 0 * s1) (3 * (s0 + s1))
    rw [g0, g1, hm, hm, ← mkQ_zeroB hS, plusQ_sameB hS, plusQ_sameB hS, Int.zero_add]
def tW (t : List Int) : List Int := t ++ [27 - t.sum]
theorem tW_ok {t : List Int} {k : Nat} (hl : t.length = k) (h5 : k ≤ 4) (hb : ∀ z ∈ t, -20 ≤ z ∧ z ≤ 20) : (tW t).length = k + 1 ∧ (tW t).sum = 27 ∧ ∀ z ∈ tW t, Bd 12 z := by
  refine ⟨by simp [tW, hl], by simp [tW, List.sum_append]; omega, fun z hz => ?_⟩
  rcases List.mem_append.mp hz with hz | hz
  · have := hb z hz
    unfold Bd; omega
  · rw [List.mem_singleton.mp hz]
    have s : Bd 9 t.sum := (sum_bdN 5 (l := t) fun x hx => by have := hb x hx; unfold Bd; omega).up (by omega)
    unfold Bd at s ⊢
    omega
theorem minus_row {t : List Int} : minusQ (9, 1) (totQ (rwD 3 t)) = mkQ (27 - t.sum) 3 := by
  rw [rwD_tot (by decide), minusQ_intB (by decide)]
  rfl
theorem qrow_tW (t : List Int) : (rwD 3 t).map rat ++ [rat (mkQ (27 - t.sum) 3)] = qrow (tW t) := by
  unfold qrow rwD tW
  rw [List.map_append, List.map_append]
  rfl
theorem zipW_snd {α β : Type} {f : β → D} : ∀ (xs : List α) (vs : List β), vs.length = xs.length → List.zipWith (fun (_ : α) v => f v) xs vs = vs.map f
  | [], [], _ => rfl
  | x :: xs, v :: vs, h => by rw [List.zipWith_cons_cons, zipW_snd xs vs (by simpa using h)]; rfl
theorem weights_ok (hl : ns.length ≤ 63) (ha : 0 ≤ a) (ha2 : a ≤ 900000) (hc : 0 ≤ c) (k : ∀ (s0 s1 a' c' : Int), 0 ≤ s0 → s0 ≤ 8 → 1 ≤ s1 → s1 ≤ 9 → R (.lst [.int s0, .int s1]) ((p, poolO a' c' ns) :: rest)) : m_law_weights_of [.ref p] ((p, poolO a c ns) :: rest) R E := by
  unfold m_law_weights_of; tm_at "en"; unfold b_law_weights_of
  refine fnM_i ?_
  tm_at "bb"
  refine take_ok hl (by decide) ha (by omega) hc ((Bd.lit _).up (by decide)) fun r a1 c1 r0 r1 x1 x2 x3 => ?_
  tm_at "bb"
  refine take_ok hl (by decide) (by omega) (by omega) x3 ((Bd.lit _).up (by decide)) fun r2 a2 c2 r3 r4 y1 y2 y3 => ?_
  refine add_i ?_
  tm_at "bb"
  refine mkL_i (by simp) ?_
  refine rtM_i ?_
  refine fnR_rt ?_
  rw [show ((p, poolO a c ns) :: rest).length = ((p, poolO a2 c2 ns) :: rest).length from rfl, List.take_length]
  exact k _ _ _ _ r0 (by omega) (by omega) (by omega)
theorem ers {x y : Addr × MO} : (x :: (rest ++ [y])).eraseIdx (rest.length + 1) = x :: rest := by
  rw [List.eraseIdx_cons_succ, List.eraseIdx_append_of_length_le (Nat.le_refl _), Nat.sub_self]
  simp
theorem gts {x y : Addr × MO} : (x :: (rest ++ [y]))[rest.length + 1]? = some y := by simp
theorem newD_B (k : ∀ p, R (.ref p) (m ++ [(p, .dI [] [])])) : newDM m R E := k
theorem frz_c {x : Addr × MO} {q : Addr} {ds : List D} (h : R (.lst ds) (x :: rest)) : frzM (.ref q) (x :: (rest ++ [(q, .lst ds)])) R E := frz_i (rest.length + 1) gts (by rw [ers]; exact h)
theorem sts {x y z : Addr × MO} : (x :: (rest ++ [y])).set (rest.length + 1) z = x :: (rest ++ [z]) := by simp
theorem law_calm_blends_ok (hl : ns.length ≤ 63) (ha : 0 ≤ a) (ha2 : a ≤ 800000) (hc : 0 ≤ c) (k : ∀ (a' c' : Int), R (.bl true) ((p, poolO a' c' ns) :: rest)) : m_law_calm_blends [.ref p] ((p, poolO a c ns) :: rest) R E := by
  unfold m_law_calm_blends; tm_at "en"; unfold b_law_calm_blends
  refine fnM_i ?_
  tm_at "bb"
  refine few_ok hl ha (by omega) hc fun n a1 c1 n1 n5 x1 x2 x3 => ?_
  obtain ⟨s1, s2⟩ := grp_small n n5
  tm_at "bb"
  refine newL_i (by simp) fun pr => ?_
  tm_at "bb"
  refine rng_i (by decide) (by decide) ?_
  rw [show rangeD 0 (2 : Int).toNat = [(0 : Int), 1].map D.int from rfl]
  refine seqF_i ?_
  refine for_ind (e := D.int) (fun xs (s : Unit) m' => ∃ (ts : List (List Int)) (a' c' : Int), ts.length + xs.length = 2 ∧ (∀ t ∈ ts, t.length = n - 1 ∧ ∀ z ∈ t, -20 ≤ z ∧ z ≤ 20) ∧ a1 ≤ a' ∧ a' ≤ a1 + 4 * ts.length ∧ 0 ≤ c' ∧ m' = (p, poolO a' c' ns) :: (rest ++ [(pr, MO.lst (ts.map fun t => .lst ((rwD 3 t).map rat)))])) ?_ ?_ _ _ _ ⟨[], a1, c1, by simp, by simp, by omega, by simp, x3, rfl⟩
  · rintro x xs s m' ⟨ts, a', c', h1, h2, h3, h4, h5', rfl⟩ Q q1 _ _
    have h1 : ts.length + (xs.length + 1) = 2 := by simpa using h1
    tm_at "bb"
    refine chk_i (rest.length + 1) gts ?_
    tm_at "bb"
    refine sub_i ?_
    refine rng_i (by omega) (by omega) ?_
    rw [show ((n : Int) - 1).toNat = n - 1 by omega, rangeD_map]
    tm_at "bb"
    refine comp_pool (e := fun k : Nat => D.int (k : Int)) (P := fun z : Int => -20 ≤ z ∧ z ≤ 20) (g := fun _ z => rat (mkQ z 3)) (s := 1) (A := a' + 4) (List.range (n - 1)) [] a' c' (by omega) (by simp; omega) h5' (fun x hx a c b1 b2 b3 Q hQ => ?_) (by simp; omega) fun vs a2 c2 v1 v2 v3 v4 v5 => ?_
    · tm_at "bb"
      refine take_ok hl (by decide) b1 (by omega) b3 ((Bd.lit _).up (by decide)) fun r a3 c3 r0 r1 y1 y2 y3 => ?_
      tm_at "bb"
      refine sub_i ?_
      tm_at "bb"
      refine law_ratio_ok (by decide) ((Bd.lit _).up (by decide)) ?_
      tm_at "bb"
      exact hQ _ a3 c3 ⟨by omega, by omega⟩ y1 (by omega) y3
    refine lsM_i ?_
    rw [List.nil_append, zipW_snd _ _ v1]
    refine app_i (rest.length + 1) gts (by simp; omega) ?_
    rw [sts]
    tm_at "bb"
    refine q1 _ _ ⟨ts ++ [vs], a2, c2, by simp; omega, ?_, by omega, by simp at v4 ⊢; omega, v5, ?_⟩
    · intro t ht
      rcases List.mem_append.mp ht with ht | ht
      · exact h2 t ht
      · rw [List.mem_singleton.mp ht]
        exact ⟨by simpa using v1, v2⟩
    · rw [List.map_append]
      show _ = (p, poolO a2 c2 ns) :: (rest ++ [(pr, MO.lst (_ ++ [.lst ((rwD 3 vs).map rat)]))])
      rw [show (rwD 3 vs).map rat = vs.map fun v => rat (mkQ v 3) by unfold rwD; rw [List.map_map]; rfl]
  rintro s m' ⟨ts, a2, c2, h1, h2, h3, h4, h5', rfl⟩
  obtain ⟨t, u, rfl⟩ : ∃ t u, ts = [t, u] := by
    match ts, h1 with
    | [t, u], _ => exact ⟨t, u, rfl⟩
  obtain ⟨lt, bt⟩ := h2 t (by simp)
  obtain ⟨lu, bu⟩ := h2 u (by simp)
  obtain ⟨t1, t2, t3⟩ := tW_ok lt (by omega) bt
  obtain ⟨u1, u2, u3⟩ := tW_ok lu (by omega) bu
  have t1 : (tW t).length = n := by omega
  have u1 : (tW u).length = n := by omega
  have b12 : ∀ t : List Int, (∀ z ∈ t, -20 ≤ z ∧ z ≤ 20) → ∀ z ∈ t, Bd 12 z := fun t h z hz => by have := h z hz; unfold Bd; omega
  refine seqK_nx ?_
  tm_at "bb"
  refine frz_c ?_
  tm_at "bb"
  refine seq_L ?_
  tm_at "bb"
  refine comp_map (e := fun t => .lst ((rwD 3 t).map rat)) (g := fun t => .lst (qrow (tW t))) [t, u] [] (fun v hv Q hQ => ?_) (by simp) ?_
  · have hv2 : v.length = n - 1 ∧ ∀ z ∈ v, -20 ≤ z ∧ z ≤ 20 := h2 v hv
    have gv := rwD_GR (b12 v hv2.2)
    have lv : (rwD 3 v).length ≤ 5 := by unfold rwD; rw [List.length_map]; omega
    obtain ⟨p1, p2⟩ := tot_fold lv gv
    tm_at "bb"
    refine mkT_i (by simp) ?_
    tm_at "bb"
    refine law_total_ok (.inl rfl) lv gv ?_
    tm_at "bb"
    refine law_minus_ok (p := (9, 1)) ⟨(Bd.lit _).up (by decide), (Bd.lit _).up (by decide)⟩ ⟨p2.1.up (by decide), p2.2.up (by decide)⟩ (show (1 : Int) ≠ 0 by decide) (by omega) ?_
    rw [minus_row]
    tm_at "bb"
    refine mkL_i (by simp) ?_
    refine cat_i (by simp [rwD]; omega) ?_
    rw [qrow_tW]
    exact hQ
  refine lsMM_i fun p2 => ?_
  tm_at "bb"
  refine frz_c ?_
  tm_at "bb"
  refine newD_B fun pd => ?_
  tm_at "bb"
  refine law_groups_ok n5 ?_
  refine seq_L ?_
  refine seqF_i ?_
  have am : ∀ {v g : List Int} {m : Led} {R : D → Led → Prop} {E : XR}, v.length = n → (∀ z ∈ v, Bd 12 z) → g ∈ grp n → R (rat (mkQ (aG v g) 3)) m → m_law_amount [.lst (qrow v), keyD g] m R E := fun {v g m R E} h1 h2 hg k => by
    refine law_amount_ok (qs := rwD 3 v) (.inl rfl) (s2 g hg) (rwD_GR h2) (fun x hx => ?_) ?_
    · have := grp_in n5 g hg x hx
      unfold rwD
      rw [List.length_map, h1]
      exact this
    · rw [rwD_pick (by decide)]
      exact k
  refine for_ind (e := keyD) (fun xs (s : Unit) m' => ∃ done, done ++ xs = grp n ∧ m' = (p, poolO a2 c2 ns) :: (rest ++ [(pd, MO.dI done (done.map fun g => .int (wB n (tW t) (tW u) g)))])) ?_ ?_ _ _ _ ⟨[], rfl, rfl⟩
  · rintro g xs s m' ⟨done, ed, rfl⟩ Q q1 _ _
    have hg : g ∈ grp n := by rw [← ed]; simp
    have nd : g ∉ done := fun h => by
      have := grp_nodup n n5
      rw [← ed] at this
      exact (List.nodup_append.mp this).2.2 g h g (by simp) rfl
    have ld : done.length ≤ 31 := by
      have := congrArg List.length ed
      rw [List.length_append] at this
      omega
    have fd : ∀ {v : List Int}, (∀ z ∈ v, Bd 12 z) → ∀ {R : D → Led → Prop} {m : Led} {E : XR}, R (.int (fl v g)) m → binM .FloorDiv (.int (mkQ (aG v g) 3).1) (.int (mkQ (aG v g) 3).2) m R E := fun {v} h {R m E} k => by
      have r := mkQ_rb (u := aG v g) (d := 3) (n := 18) (by decide) (aG_bd h (s2 g hg)) (by unfold Bd; decide)
      have np := (mkQ_nf (u := aG v g) (d := 3) (by decide)).1
      exact fdiv_i (r.2.divG (by omega) (by decide)) k
    tm_at "bb"
    refine ixL_i atI_0 ?_
    tm_at "bb"
    refine am t1 t3 hg ?_
    refine ut2_i ?_
    tm_at "bb"
    refine ixL_i atI_1 ?_
    tm_at "bb"
    refine am u1 u3 hg ?_
    refine ut2_i ?_
    tm_at "bb"
    refine fd t3 ?_
    tm_at "bb"
    refine fd u3 ?_
    tm_at "bb"
    refine min_i ?_
    tm_at "bb"
    refine ⟨rest.length + 1, done, _, g, gts, rfl, by omega, .inr ⟨nd, ?_⟩⟩
    rw [sts]
    refine q1 _ _ ⟨done ++ [g], by rw [List.append_assoc]; exact ed, ?_⟩
    rw [List.map_append]
    show _ = (p, poolO a2 c2 ns) :: (rest ++ [(pd, MO.dI (done ++ [g]) (_ ++ [.int (wB n (tW t) (tW u) g)]))])
    rw [show wB n (tW t) (tW u) g = min (fl (tW t) g) (fl (tW u) g) from if_pos hg]
  rintro s m' ⟨done, ed, rfl⟩
  rw [List.append_nil] at ed
  subst ed
  refine seqK_nx ?_
  tm_at "bb"
  refine frzD_i (rest.length + 1) gts ?_
  rw [ers]
  tm_at "bb"
  refine weights_ok hl (by omega) (by simp at h4; omega) h5' fun s0 s1 a3 c3 r0 r1 r2 r3 => ?_
  tm_at "bb"
  obtain ⟨d1, d2⟩ := two_due n1 n5 t1 u1 t3 u3 r0 (show 0 < s1 by omega)
  have hS : 0 < 3 * (s0 + s1) := by omega
  refine blended_ok (rs := [qrow (tW t), qrow (tW u)]) (ss := [.int s0, .int s1]) ⟨D.lst, fun r => .inl rfl, fun r h => h, .inl rfl⟩ (.inl rfl) (by simp) (fun r hr => ?_) (fun r hr => ?_) (by simp) (fun x hx => ?_) (fun x hx => ?_) (fun z hz => by rw [d1] at hz; cases hz) fun _ q => ?_
  · simp only [List.mem_cons, List.not_mem_nil, or_false] at hr
    rcases hr with rfl | rfl
    · rw [qrow_len]; omega
    · rw [qrow_len]; omega
  · simp only [List.mem_cons, List.not_mem_nil, or_false] at hr
    rcases hr with rfl | rfl
    · exact qrow_It t3
    · exact qrow_It u3
  · simp only [List.mem_cons, List.not_mem_nil, or_false] at hx
    rcases hx with rfl | rfl <;> exact .inl ⟨_, rfl⟩
  · simp only [List.mem_cons, List.not_mem_nil, or_false] at hx
    rcases hx with rfl | rfl
    · show Bd 10 s0
      unfold Bd; omega
    · show Bd 10 s1
      unfold Bd; omega
  refine frz_c ?_
  rw [d2]
  tm_at "bb"
  refine law_groups_ok n5 ?_
  tm_at "bb"
  have bm : ∀ q ∈ rwD (3 * (s0 + s1)) (mix n (tW t) (tW u) s0 s1), GR q := fun q hq => by
    obtain ⟨z, hz, rfl⟩ := List.mem_map.mp hq
    obtain ⟨j, hj, rfl⟩ := List.mem_map.mp hz
    have hj : j < n := by simpa using hj
    have y1 := t3 _ (getD_mem (z := 0) (show j < (tW t).length by omega))
    have y2 := u3 _ (getD_mem (z := 0) (show j < (tW u).length by omega))
    have y3 : Bd 4 s0 := by unfold Bd; omega
    have y4 : Bd 4 s1 := by unfold Bd; omega
    exact GR.mk (by omega) (((y1.mulR y3).addR (y2.mulR y4)).up (by decide)) ((show Bd 10 (3 * (s0 + s1)) by unfold Bd; omega).up (by decide))
  refine law_calm_for_ok (w := wB n (tW t) (tW u)) (fun g hg => fun {Q E} h => ix_w hg h) (by unfold rwD mix; simp) n1 n5 bm ?_ (wB_bd n5 t3 u3) (fun g h => h) (by omega) ?_
  · rw [rwD_tot hS, mix_sum t1 u1, t2, u2, wB_rng n1 t1 u1 t2 u2, show 27 * s0 + 27 * s1 = 9 * (3 * (s0 + s1)) by omega, mkQ_intB hS]
  rw [mix_calm n5 t1 u1 r0 (by omega) hS]
  refine rtM_i ?_
  refine fnR_rt ?_
  rw [show ((p, poolO a c ns) :: rest).length = ((p, poolO a3 c3 ns) :: rest).length from rfl, List.take_length]
  exact k a3 c3
end


section
variable {p : Addr} {a c : Int} {ns : List Int} {rest : Led} {R : D → Led → Prop} {E : XR} {n : Nat} {m : Led} {d : D} {RB : Bool → Led → Prop}
theorem seqF_k {σ σ' τ : Type} {k : σ → M (Fl σ' τ)} {c : M (Fl σ τ)} {R : Fl σ' τ → Led → Prop} (P : σ → Led → Prop) (hc : ∀ R' : Fl σ τ → Led → Prop, (∀ s m', P s m' → R' (.nx s) m') → c m R' E) (hk : ∀ s m', P s m' → k s m' R E) : seqF c k m R E :=
  seqF_i (hc _ fun s m' h => seqK_nx (hk s m' h))
theorem ne_empR {q : Addr} {i : Nat} {xs : List D} (hm : m[i]? = some (q, .lst xs)) (h : ∀ x ∈ xs, Sh 19 x) (k : RB (!xs.isEmpty) m) : cmpB .NotEq (.ref q) (.lst []) m RB E := .inl ⟨_, _, .led hm (DWs.now _), .now _, h, (fun _ h => nomatch h), by rw [eqD_emp]; exact k⟩
def SP (ss : List D) : Prop := ∀ x ∈ ss, Pl x ∧ Bd 10 (iv x)
theorem SP.sh {ss : List D} (h : SP ss) : ∀ x ∈ ss, Sh 19 x := fun x hx => by
  rcases (h x hx).1 with ⟨i, rfl⟩ | ⟨b, rfl⟩ | rfl | ⟨z, rfl⟩ <;> trivial
theorem SP.ints {vs : List Int} (h : ∀ v ∈ vs, 0 ≤ v ∧ v ≤ 1000) : SP (vs.map D.int) := fun x hx => by
  obtain ⟨i, hi, rfl⟩ := List.mem_map.mp hx
  have := h i hi
  exact ⟨.inl ⟨i, rfl⟩, by show Bd 10 i; unfold Bd; omega⟩
theorem ixN_nat {l i : Nat} (h : i < l) : ixN l (i : Int) = some i := by
  unfold ixN
  simp [h]
theorem ixN_in {k : Nat} {r : Int} (h0 : 0 ≤ r) (h1 : r < k) : ixN k r = some r.toNat := by
  obtain ⟨j, rfl⟩ := Int.eq_ofNat_of_zero_le h0
  exact ixN_nat (by omega)
theorem neg_B {i : Int} {R : D → Led → Prop} (h : R (.int (-i)) m) : unM .USub (.int i) m R E := h
theorem shares_ok {N : Nat} (hN : N ≤ 39) (hl : ns.length ≤ 63) (ha : 0 ≤ a) (ha2 : a ≤ 800000) (hc : 0 ≤ c)
    (k : ∀ (ss : List D) (a' c' : Int) (ext : Led), ss.length ≤ 40 → SP ss → 0 ≤ a' → a' ≤ a + 100 → 0 ≤ c' → R (.lst ss) ((p, poolO a' c' ns) :: (rest ++ ext))) : m_law_shares [.ref p, .int (N : Int)] ((p, poolO a c ns) :: rest) (fun d m' => frzM d m' R E) E := by
  unfold m_law_shares; tm_at "en"
  refine (show (b_law_shares (.ref p) (.int (N : Int))) ((p, poolO a c ns) :: rest) (fnRK fun d m' => frzM d m' R E) E from ?_)
  unfold b_law_shares
  tm_at "bb"
  refine rng_i (by omega) (by omega) ?_
  rw [Int.toNat_natCast, rangeD_map]
  refine comp_pool (e := fun k : Nat => D.int (k : Int)) (P := fun z : Int => 0 ≤ z ∧ z ≤ 1000) (g := fun _ z => D.int z) (s := 2) (A := a + 80) (List.range N) [] a c ha (by simp; omega) hc (fun x hx a c b1 b2 b3 Q hQ => ?_) (by simp; omega) fun vs a2 c2 v1 v2 v3 v4 v5 => ?_
  · tm_at "bb"
    refine mkL_i (by simp) ?_
    tm_at "bb"
    refine take_ok hl (by decide) b1 (by omega) b3 ((Bd.lit _).up (by decide)) fun r a3 c3 r0 r1 y1 y2 y3 => ?_
    have er : r = 0 ∨ r = 1 := by omega
    rcases er with rfl | rfl
    · refine ixL_i atI_0 ?_
      tm_at "bb"
      refine take_ok hl (by decide) (by omega) (by omega) y3 ((Bd.lit _).up (by decide)) fun r2 a4 c4 r3 r4 z1 z2 z3 => ?_
      exact hQ r2 a4 c4 ⟨r3, by omega⟩ (by omega) (by omega) z3
    · refine ixL_i atI_1 ?_
      tm_at "bb"
      refine take_ok hl (by decide) (by omega) (by omega) y3 ((Bd.lit _).up (by decide)) fun r2 a4 c4 r3 r4 z1 z2 z3 => ?_
      exact hQ r2 a4 c4 ⟨r3, by omega⟩ (by omega) (by omega) z3
  refine lsMM_i fun q0 => ?_
  rw [List.nil_append, zipW_snd _ _ v1]
  have v1 : vs.length = N := by simpa using v1
  have v4 : a2 ≤ a + 80 := by simp at v4; omega
  tm_at "bb"
  refine take_ok hl (by decide) (by omega) (by omega) v5 ((Bd.lit _).up (by decide)) fun sp a3 c3 r0 r1 y1 y2 y3 => ?_
  refine seqF_k (fun s m' => ∃ (ss : List D) (q : Addr) (ext : Led), s = .ref q ∧ m' = (p, poolO a3 c3 ns) :: ((rest ++ ext) ++ [(q, .lst ss)]) ∧ SP ss ∧ ss.length = N) (fun R' hR => ?_) ?_
  · tm_at "bb"
    refine eq_i ?_
    refine iteM_i (fun e => ?_) (fun e => ?_)
    · tm_at "bb"
      refine frz_c ?_
      tm_at "bb"
      refine seq_L ?_
      tm_at "bb"
      refine comp_map (e := D.int) (g := fun _ => D.int 0) vs [] (fun x hx Q hQ => ?_) (by simp; omega) ?_
      · tm_at "bb"
        exact hQ
      refine lsMM_i fun q1 => ?_
      tm_at "bb"
      refine hR _ _ ⟨_, q1, [], rfl, by rw [List.append_nil]; rfl, ?_, by simp [v1]⟩
      rw [List.nil_append]
      intro x hx
      obtain ⟨_, _, rfl⟩ := List.mem_map.mp hx
      exact ⟨.inl ⟨0, rfl⟩, by show Bd 10 0; unfold Bd; decide⟩
    · tm_at "bb"
      exact hR _ _ ⟨_, q0, [], rfl, by rw [List.append_nil]; rfl, SP.ints v2, by simp [v1]⟩
  rintro _ _ ⟨ss, q, ext, rfl, rfl, hss, hsl⟩
  refine seqF_k (fun s m' => ∃ (ss : List D) (a' c' : Int), m' = (p, poolO a' c' ns) :: ((rest ++ ext) ++ [(q, .lst ss)]) ∧ SP ss ∧ ss.length = N ∧ 0 ≤ a' ∧ a' ≤ a3 + 2 ∧ 0 ≤ c') (fun R' hR => ?_) ?_
  · tm_at "bb"
    refine eq_i ?_
    refine andB_i (fun e => ?_) (fun e => ?_)
    · tm_at "bb"
      refine mkL_i (by simp) ?_
      refine ne_empR (i := (rest ++ ext).length + 1) gts hss.sh ?_
      refine iteM_i (fun e2 => ?_) (fun e2 => ?_)
      · have h0 : 0 < N := by
          rw [← hsl]
          cases ss with
          | nil => cases e2
          | cons x xs => simp
        tm_at "bb"
        refine neg_B ?_
        tm_at "bb"
        refine mkL_i (by simp) ?_
        tm_at "bb"
        refine take_ok hl (by decide) (by omega) (by omega) y3 ((Bd.lit _).up (by decide)) fun r a4 c4 r2 r3 z1 z2 z3 => ?_
        obtain ⟨o, ho, po⟩ : ∃ o, atI [D.int (-1), .bl true, .non, .str "1"] r = some o ∧ Pl o ∧ Bd 10 (iv o) := by
          have er : r = 0 ∨ r = 1 ∨ r = 2 ∨ r = 3 := by omega
          rcases er with rfl | rfl | rfl | rfl
          · exact ⟨_, atI_0, .inl ⟨_, rfl⟩, by show Bd 10 (-1); unfold Bd; decide⟩
          · exact ⟨_, atI_1, .inr (.inl ⟨_, rfl⟩), by show Bd 10 0; unfold Bd; decide⟩
          · exact ⟨_, atI_2, .inr (.inr (.inl rfl)), by show Bd 10 0; unfold Bd; decide⟩
          · exact ⟨_, atI_nat (j := 3) rfl, .inr (.inr (.inr ⟨_, rfl⟩)), by show Bd 10 0; unfold Bd; decide⟩
        refine ixL_i ho ?_
        tm_at "bb"
        refine take_ok hl (by omega) (by omega) (by omega) z3 ((show Bd 10 (N : Int) by unfold Bd; omega).up (by decide)) fun r4 a5 c5 r5 r6 w1 w2 w3 => ?_
        refine st_i ((rest ++ ext).length + 1) r4.toNat gts (ixN_in r5 (by omega)) ?_
        rw [sts]
        tm_at "bb"
        refine hR _ _ ⟨_, a5, c5, rfl, fun x hx => ?_, by simp [hsl], by omega, by omega, w3⟩
        rcases List.mem_or_eq_of_mem_set hx with hx | rfl
        · exact hss x hx
        · exact po
      · tm_at "bb"
        exact hR _ _ ⟨ss, a3, c3, rfl, hss, hsl, by omega, by omega, y3⟩
    · refine iteM_fi ?_
      tm_at "bb"
      exact hR _ _ ⟨ss, a3, c3, rfl, hss, hsl, by omega, by omega, y3⟩
  rintro _ _ ⟨ss, a4, c4, rfl, hss, hsl, z1, z2, z3⟩
  refine seqF_k (fun s m' => ∃ (ss : List D), m' = (p, poolO a4 c4 ns) :: ((rest ++ ext) ++ [(q, .lst ss)]) ∧ SP ss ∧ ss.length ≤ 40) (fun R' hR => ?_) ?_
  · tm_at "bb"
    refine eq_i ?_
    refine iteM_i (fun e => ?_) (fun e => ?_)
    · tm_at "bb"
      refine chk_i ((rest ++ ext).length + 1) gts ?_
      tm_at "bb"
      refine app_i ((rest ++ ext).length + 1) gts (by omega) ?_
      rw [sts]
      tm_at "bb"
      refine hR _ _ ⟨_, rfl, fun x hx => ?_, by simp; omega⟩
      rcases List.mem_append.mp hx with hx | hx
      · exact hss x hx
      · rw [List.mem_singleton.mp hx]
        exact ⟨.inl ⟨1, rfl⟩, by show Bd 10 1; unfold Bd; decide⟩
    · tm_at "bb"
      exact hR _ _ ⟨ss, rfl, hss, by omega⟩
  rintro _ _ ⟨ss, rfl, hss, hsl⟩
  refine seqF_k (fun s m' => ∃ (ss : List D), m' = (p, poolO a4 c4 ns) :: ((rest ++ ext) ++ [(q, .lst ss)]) ∧ SP ss ∧ ss.length ≤ 40) (fun R' hR => ?_) ?_
  · tm_at "bb"
    refine eq_i ?_
    refine andB_i (fun e => ?_) (fun e => ?_)
    · tm_at "bb"
      refine mkL_i (by simp) ?_
      refine ne_empR (i := (rest ++ ext).length + 1) gts hss.sh ?_
      refine iteM_i (fun e2 => ?_) (fun e2 => ?_)
      · have h0 : 0 < ss.length := by
          cases ss with
          | nil => cases e2
          | cons x xs => simp
        tm_at "bb"
        refine pop0_i ((rest ++ ext).length + 1) gts (List.getElem?_eq_getElem (show ss.length - 1 < ss.length by omega)) ?_
        rw [sts]
        tm_at "bb"
        exact hR _ _ ⟨_, rfl, fun x hx => hss x (List.dropLast_subset _ hx), by simp; omega⟩
      · tm_at "bb"
        exact hR _ _ ⟨ss, rfl, hss, hsl⟩
    · refine iteM_fi ?_
      tm_at "bb"
      exact hR _ _ ⟨ss, rfl, hss, hsl⟩
  rintro _ _ ⟨ss, rfl, hss, hsl⟩
  tm_at "bb"
  refine rtM_i ?_
  refine (show frzM (.ref q) _ R E from ?_)
  refine frz_c (rest := rest ++ ext) ?_
  exact k ss a4 c4 ext hsl hss z1 (by omega) z3
end


section
variable {p : Addr} {a c : Int} {ns : List Int} {rest : Led} {R : D → Led → Prop} {E : XR} {n : Nat} {m : Led} {d dl : D} {RB : Bool → Led → Prop}
def dueV (rs : List (List D)) (ss : List D) : D := match dueS rs ss with
  | some z => .str z
  | none => .lst ((dueL rs ss).map rat)
theorem nb_rats_B (qs : List Q) : NB 20 (.lst (qs.map rat)) := nb_lst (n := 19) fun x _ => nb_rat 18 _
theorem dueV_sh (rs : List (List D)) (ss : List D) : Sh 20 (dueV rs ss) := by
  unfold dueV
  split
  · trivial
  · exact NB.sh (nb_rats_B _)
structure Inp (rs : List (List D)) (ss : List D) : Prop where
  n40 : rs.length ≤ 40
  l10 : ∀ r ∈ rs, r.length ≤ 10
  hi : ∀ r ∈ rs, ∀ x ∈ r, It x
  sl : ss.length ≤ 41
  sp : SP ss
theorem frz_l {q : Addr} {ds : List D} (h : R (.lst ds) m) : frzM (.ref q) (m ++ [(q, .lst ds)]) R E := frz_i m.length get_last (by rw [erase_lastB]; exact h)
theorem due_z {rs : List (List D)} {ss : List D} (hr : Rows dl rs) (hs : Seq d ss) (I : Inp rs ss) (k : R (dueV rs ss) m) : m_law_due [dl, d] m (fun d m' => frzM d m' R E) E := by
  refine law_due_ok hr hs I.n40 I.l10 I.hi I.sl (fun x hx => (I.sp x hx).1) (fun x hx => (I.sp x hx).2) (fun z hz => ?_) fun hz q => ?_
  · unfold dueV at k
    rw [hz] at k
    exact k
  · unfold dueV at k
    rw [hz] at k
    exact frz_l k
theorem dueS_cases {rs : List (List D)} {ss : List D} {z : Str} (h : dueS rs ss = some z) : z = ("shares" : Str) ∨ z = ("division" : Str) ∨ z = ("mismatch" : Str) := by
  unfold dueS at h
  split at h
  · split at h
    · split at h
      · cases h
      · exact .inr (.inr (Option.some.inj h).symm)
    · exact .inr (.inl (Option.some.inj h).symm)
  · exact .inl (Option.some.inj h).symm
theorem told_z {rs : List (List D)} {ss : List D} (hr : Rows dl rs) (hs : Seq d ss) (I : Inp rs ss) (k : R (dueV rs ss) m) : m_law_told [dl, d] m (fun d m' => frzM d m' R E) E := by
  unfold m_law_told; tm_at "en"
  refine (show (b_law_told dl d) m (fnRK fun d m' => frzM d m' R E) E from ?_)
  unfold b_law_told
  refine seqF_i ?_
  refine tryN_i ?_
  tm_at "bb"
  refine blended_ok hr hs I.n40 I.l10 I.hi I.sl (fun x hx => (I.sp x hx).1) (fun x hx => (I.sp x hx).2) (fun z hz => ?_) fun hz q => ?_
  · have k : R (.str z) m := by unfold dueV at k; rw [hz] at k; exact k
    rcases dueS_cases hz with rfl | rfl | rfl
    · rw [show errS ("shares" : Str) = ("BadShares" : Str) from rfl]
      refine catch_t (by decide) ?_
      tm_at "bb"
      refine rtM_i ?_
      exact k
    · rw [show errS ("division" : Str) = ("NotDivision" : Str) from rfl]
      refine catch_f (by decide) ?_
      refine catch_t (by decide) ?_
      tm_at "bb"
      refine rtM_i ?_
      exact k
    · rw [show errS ("mismatch" : Str) = ("Mismatch" : Str) from rfl]
      refine catch_f (by decide) ?_
      refine catch_f (by decide) ?_
      refine catch_t (by decide) ?_
      tm_at "bb"
      refine rtM_i ?_
      exact k
  · refine frz_l ?_
    refine rtM_i ?_
    refine seqK_rt ?_
    unfold dueV at k
    rw [hz] at k
    exact k
def cellL (z : Addr × List D) : Addr × MO := (z.1, .lst z.2)
def cellT (z : Addr × List D) : Addr × D := (z.1, .lst z.2)
theorem frzR_cs {x y : Addr × MO} {T : Led} : ∀ cs : List (Addr × List D), FrzR (x :: y :: (cs.map cellL ++ T)) (cs.map cellT) (x :: y :: T)
  | [] => .nil _
  | z :: cs => .cons (i := 2) (a := z.1) (ds := z.2) rfl (frzR_cs cs)
theorem tds_set {T : List (Addr × D)} {x : D} {ds es : List D} (h : TDs T ds es) : ∀ k, TDs T (ds.set k x) (es.set k x) := by
  induction h with
  | nil => exact fun k => .nil
  | keep h ih => exact fun k => match k with
    | 0 => .keep h
    | k + 1 => .keep (ih k)
  | sub hm h ih => exact fun k => match k with
    | 0 => .keep h
    | k + 1 => .sub hm (ih k)
theorem tds_cs {T : List (Addr × D)} : ∀ cs : List (Addr × List D), (∀ z ∈ cs, cellT z ∈ T) → TDs T (cs.map fun z => D.ref z.1) (cs.map fun z => D.lst z.2)
  | [], _ => .nil
  | z :: cs, h => .sub (h z (by simp)) (tds_cs cs fun y hy => h y (by simp [hy]))
def ItR (k : Nat) (r : List D) : Prop := r.length ≤ k ∧ ∀ x ∈ r, It x
structure Lists (p pl : Addr) (ns : List Int) (N : Nat) (a c : Int) (m : Led) : Prop where
  ex : ∃ (es : List D) (cs : List (Addr × List D)) (T : Led) (rs : List (List D)), m = (p, poolO a c ns) :: (pl, .lst es) :: (cs.map cellL ++ T) ∧ TDs (cs.map cellT) es (rs.map D.lst) ∧ rs.length = N ∧ ∀ r ∈ rs, ItR 6 r
theorem cs_rs (cs : List (Addr × List D)) : (cs.map fun z => D.lst z.2) = (cs.map (·.2)).map D.lst := by rw [List.map_map]; rfl
theorem lists_base {p pl : Addr} {N : Nat} {cs : List (Addr × List D)} (h1 : cs.length = N) (h2 : ∀ z ∈ cs, ItR 6 z.2) (T : Led) : Lists p pl ns N a c ((p, poolO a c ns) :: (pl, .lst (cs.map fun z => D.ref z.1)) :: (cs.map cellL ++ T)) :=
  ⟨_, cs, T, cs.map (·.2), rfl, by rw [← cs_rs]; exact tds_cs cs fun z hz => List.mem_map_of_mem hz, by simpa using h1, fun r hr => by
    obtain ⟨z, hz, rfl⟩ := List.mem_map.mp hr
    exact h2 z hz⟩
theorem lists_set {p pl : Addr} {N k : Nat} {cs : List (Addr × List D)} {r : List D} (h1 : cs.length = N) (h2 : ∀ z ∈ cs, ItR 6 z.2) (hr : ItR 6 r) (T : Led) : Lists p pl ns N a c ((p, poolO a c ns) :: (pl, .lst ((cs.map fun z => D.ref z.1).set k (.lst r))) :: (cs.map cellL ++ T)) :=
  ⟨_, cs, T, (cs.map (·.2)).set k r, rfl, by
    rw [List.map_set, ← cs_rs]
    exact tds_set (tds_cs cs fun z hz => List.mem_map_of_mem hz) k, by simpa using h1, fun r' hr' => by
    rcases List.mem_or_eq_of_mem_set hr' with h | rfl
    · obtain ⟨z, hz, rfl⟩ := List.mem_map.mp h
      exact h2 z hz
    · exact hr⟩
end


section
variable {p : Addr} {a c : Int} {ns : List Int} {rest : Led} {R : D → Led → Prop} {E : XR} {n : Nat} {m : Led} {d dl : D} {RB : Bool → Led → Prop}
theorem repM_B {q : Addr} {i : Int} {ds : List D} (j : Nat) (hm : m[j]? = some (q, .lst ds)) (h1 : i ≤ 10000) (h2 : -10000 ≤ i) (h3 : ds.length ≤ 5) (k : R (.lst (List.replicate i.toNat ds).flatten) m) : repM (.ref q) (.int i) m R E := ⟨j, ds, hm, h1, h2, h3, k⟩
theorem frzd_lists {pl : Addr} {N : Nat} (h : Lists p pl ns N a c m) (k : ∀ (rs : List (List D)) (T : Led), rs.length = N → (∀ r ∈ rs, ItR 6 r) → R (.lst (rs.map D.lst)) ((p, poolO a c ns) :: T)) : frzdM (.ref pl) m R E := by
  obtain ⟨es, cs, T, rs, rfl, h1, h2, h3⟩ := h.ex
  exact frzd_i 1 (frzR_cs cs) rfl h1 (k rs T h2 h3)
def Far (F : Int) : Prop := F = 0 ∨ F = 10 ^ 24
theorem far_It {F r r2 : Int} (h : Far F) (h0 : 0 ≤ r) (h1 : r ≤ 40) (h2 : 0 ≤ r2) (h3 : r2 ≤ 8) : (F + 1 + r2 ≠ 0 ∧ Bd 8000 (F + 1 + r2)) ∧ It (rat (mkQ (F + r - 20) (F + 1 + r2))) := by
  have b1 : Bd 90 (F + r - 20) := by
    unfold Bd
    rcases h with rfl | rfl <;> omega
  have b2 : Bd 90 (F + 1 + r2) := by
    unfold Bd
    rcases h with rfl | rfl <;> omega
  have b3 : F + 1 + r2 ≠ 0 := by rcases h with rfl | rfl <;> omega
  have rb := mkQ_rb b3 b1 b2
  exact ⟨⟨b3, b2.up (by decide)⟩, .inl ⟨_, ⟨mkQ_nf b3, rb.1.up (by decide), rb.2.up (by decide)⟩, rb, rfl⟩⟩
theorem rep_flatB {x : D} : ∀ j : Nat, (List.replicate j [x]).flatten = List.replicate j x
  | 0 => rfl
  | j + 1 => by rw [List.replicate_succ, List.flatten_cons, rep_flatB j]; rfl
theorem one_It : It (.tup [.int 1, .int 1]) := .inl ⟨(1, 1), ⟨⟨by decide, by decide⟩, by unfold Rb Bd; decide⟩, by unfold Rb Bd; decide, rfl⟩
theorem cell_at {cs : List (Addr × List D)} {k : Nat} {q : Addr} {row : List D} {x y : Addr × MO} {T : Led} (h : cs[k]? = some (q, row)) : (x :: y :: (cs.map cellL ++ T))[k + 2]? = some (q, .lst row) := by
  have hk := (List.getElem?_eq_some_iff.mp h).1
  show (cs.map cellL ++ T)[k]? = _
  rw [List.getElem?_append_left (by simpa using hk), List.getElem?_map, h]
  rfl
theorem cell_set {cs : List (Addr × List D)} {k : Nat} {q : Addr} {row r2 : List D} {x y : Addr × MO} {T : Led} (h : cs[k]? = some (q, row)) : (x :: y :: (cs.map cellL ++ T)).set (k + 2) (q, .lst r2) = x :: y :: ((cs.set k (q, r2)).map cellL ++ T) := by
  have hk := (List.getElem?_eq_some_iff.mp h).1
  show x :: y :: (cs.map cellL ++ T).set k _ = _
  rw [List.set_append_left _ _ (by simpa using hk), List.map_set]
  rfl
theorem set_self_B {l : List D} {k : Nat} {x : D} (h : l[k]? = some x) : l.set k x = l := by
  refine List.ext_getElem? fun i => ?_
  rw [List.getElem?_set]
  split
  · rename_i e
    subst e
    rw [h, if_pos (List.getElem?_eq_some_iff.mp h).1]
  · rfl
theorem refs_set {cs : List (Addr × List D)} {k : Nat} {q : Addr} {row : List D} (h : cs[k]? = some (q, row)) (r2 : List D) : (cs.map fun z => D.ref z.1) = (cs.set k (q, r2)).map fun z => D.ref z.1 := by
  rw [List.map_set]
  refine (set_self_B ?_).symm
  rw [List.getElem?_map, h]
  rfl
theorem SP.sh18 {ss : List D} (h : SP ss) : ∀ x ∈ ss, Sh 18 x := fun x hx => by
  rcases (h x hx).1 with ⟨i, rfl⟩ | ⟨b, rfl⟩ | rfl | ⟨z, rfl⟩ <;> trivial
theorem dueL_len {rs : List (List D)} {ss : List D} (I : Inp rs ss) (h : dueS rs ss = none) : (dueL rs ss).length ≤ 10 := by
  unfold dueL
  rw [List.length_map, List.length_range]
  cases rs with
  | nil => simp
  | cons r rs => exact I.l10 r (by simp)
theorem main_law (ns : List Int) (hl : ns.length ≤ 63) (R : D → Led → Prop) (hR : ∀ m', R (.bl true) m') : m_law [.lsk (ns.map D.int)] [] R NoX := by
  unfold m_law; tm_at "en"; unfold b_law
  refine fnM_i ?_
  tm_at "bb"
  refine pool_ok fun p => ?_
  rw [List.nil_append]
  tm_at "bb"
  refine take_ok hl (by decide) (by decide) (by decide) (by decide) ((Bd.lit _).up (by decide)) fun r a1 c1 r0 r1 x1 x2 x3 => ?_
  refine add_i ?_
  obtain ⟨n, hn⟩ : ∃ n : Nat, 1 + r = n := ⟨(1 + r).toNat, by omega⟩
  rw [hn]
  have n1 : 1 ≤ n := by omega
  have n5 : n ≤ 5 := by omega
  tm_at "bb"
  refine take_ok hl (by decide) (by omega) (by omega) x3 ((Bd.lit _).up (by decide)) fun r2 a2 c2 r3 r4 y1 y2 y3 => ?_
  refine seqF_k (fun s m' => ∃ (N : Nat) (a' c' : Int), s = .int (N : Int) ∧ N ≤ 39 ∧ 0 ≤ a' ∧ a' ≤ 10 ∧ 0 ≤ c' ∧ m' = (p, poolO a' c' ns) :: []) (fun R' hR => ?_) ?_
  · tm_at "bb"
    refine take_ok hl (by decide) (by omega) (by omega) y3 ((Bd.lit _).up (by decide)) fun r5 a3 c3 r6 r7 z1 z2 z3 => ?_
    tm_at "bb"
    refine eq_i ?_
    refine iteM_i (fun e => ?_) (fun e => ?_)
    · tm_at "bb"
      exact hR _ _ ⟨39, a3, c3, rfl, by omega, by omega, by omega, z3, rfl⟩
    · tm_at "bb"
      exact hR _ _ ⟨r2.toNat, a3, c3, by rw [Int.toNat_of_nonneg r3], by omega, by omega, by omega, z3, rfl⟩
  rintro _ _ ⟨N, a3, c3, rfl, hN, z1, z2, z3, rfl⟩
  tm_at "bb"
  refine pow_i ⟨by decide, by decide, by decide⟩ ?_
  tm_at "bb"
  refine take_ok hl (by decide) (by omega) (by omega) z3 ((Bd.lit _).up (by decide)) fun r5 a4 c4 r6 r7 w1 w2 w3 => ?_
  tm_at "bb"
  refine cmpM_i ?_
  refine eq_i ?_
  tm_at "bb"
  refine int_b ?_
  refine mul_i (Bd.mul (a := 90) (b := 2) (by unfold Bd; decide) (by unfold Bd; split <;> decide) (by decide)) ?_
  obtain ⟨F, hF, eF⟩ : ∃ F, Far F ∧ (10 : Int) ^ (24 : Int).toNat * (if decide (r5 = 0) = true then 1 else 0) = F := by
    by_cases h : r5 = 0
    · exact ⟨_, .inr rfl, by rw [decide_eq_true h]; rfl⟩
    · exact ⟨_, .inl rfl, by rw [decide_eq_false h]; rfl⟩
  rw [eF]
  tm_at "bb"
  refine newL_i (by simp) fun pl => ?_
  tm_at "bb"
  refine rng_i (by omega) (by omega) ?_
  rw [Int.toNat_natCast, rangeD_map]
  refine seqF_k (fun s m' => ∃ (cs : List (Addr × List D)) (a' c' : Int), cs.length = N ∧ (∀ z ∈ cs, z.2.length = n ∧ ∀ x ∈ z.2, It x) ∧ 0 ≤ a' ∧ a' ≤ 500 ∧ 0 ≤ c' ∧ m' = (p, poolO a' c' ns) :: (pl, .lst (cs.map fun z => D.ref z.1)) :: (cs.map cellL ++ [])) (fun R' hR => ?_) ?_
  · refine for_ind (e := fun k : Nat => D.int (k : Int)) (fun xs (s : Unit) m' => ∃ (cs : List (Addr × List D)) (a' c' : Int), xs = (List.range N).drop cs.length ∧ cs.length ≤ N ∧ (∀ z ∈ cs, z.2.length = n ∧ ∀ x ∈ z.2, It x) ∧ 0 ≤ a' ∧ a' ≤ 20 + 10 * cs.length ∧ 0 ≤ c' ∧ m' = (p, poolO a' c' ns) :: (pl, .lst (cs.map fun z => D.ref z.1)) :: cs.map cellL) ?_ ?_ _ _ _ ⟨[], a4, c4, rfl, by simp, by simp, by omega, by simp; omega, w3, rfl⟩
    · rintro x xs s m' ⟨cs, a', c', hx, h1, h2, h3, h4, h5, rfl⟩ Q q1 _ _
      obtain ⟨h1, rfl, rfl⟩ := drop_rng hx
      tm_at "bb"
      refine chk_i 1 rfl ?_
      tm_at "bb"
      refine newL_i (by simp) fun q => ?_
      refine app_i 1 rfl (by simp; omega) ?_
      tm_at "bb"
      refine rng_i (by omega) (by omega) ?_
      rw [Int.toNat_natCast, rangeD_map]
      refine seqF_i ?_
      refine for_ind (e := fun k : Nat => D.int (k : Int)) (fun xs (s : Unit) m' => ∃ (row : List D) (a2 c2 : Int), xs = (List.range n).drop row.length ∧ row.length ≤ n ∧ (∀ x ∈ row, It x) ∧ 0 ≤ a2 ∧ a2 ≤ a' + 2 * row.length ∧ 0 ≤ c2 ∧ m' = (p, poolO a2 c2 ns) :: (pl, .lst ((cs.map fun z => D.ref z.1) ++ [.ref q])) :: (cs.map cellL ++ [(q, .lst row)])) ?_ ?_ _ _ _ ⟨[], a', c', rfl, by simp, by simp, h3, by simp, h5, rfl⟩
      · rintro y ys s m' ⟨row, a2, c2, hy, g1, g2, g3, g4, g5, rfl⟩ Q q1 _ _
        obtain ⟨g1, rfl, rfl⟩ := drop_rng hy
        have gi : ∀ {x y : Addr × MO}, (x :: y :: (cs.map cellL ++ [(q, MO.lst row)]))[(cs.map cellL).length + 2]? = some (q, MO.lst row) := fun {x y} => by simp
        have si : ∀ {x y z : Addr × MO}, (x :: y :: (cs.map cellL ++ [(q, MO.lst row)])).set ((cs.map cellL).length + 2) z = x :: y :: (cs.map cellL ++ [z]) := fun {x y z} => by simp
        tm_at "bb"
        refine ixR_i 1 rfl (atI_nat (j := cs.length) (v := .ref q) (by simp)) ?_
        tm_at "bb"
        refine chk_i ((cs.map cellL).length + 2) gi ?_
        tm_at "bb"
        refine take_ok hl (by decide) (by omega) (by omega) g5 ((Bd.lit _).up (by decide)) fun s1 a5 c5 s2 s3 u1 u2 u3 => ?_
        refine add_i ?_
        tm_at "bb"
        refine sub_i ?_
        tm_at "bb"
        refine add_i ?_
        tm_at "bb"
        refine take_ok hl (by decide) (by omega) (by omega) u3 ((Bd.lit _).up (by decide)) fun s4 a6 c6 s5 s6 t1 t2 t3 => ?_
        refine add_i ?_
        tm_at "bb"
        obtain ⟨⟨f1, f2⟩, f3⟩ := far_It hF s2 (show s1 ≤ 40 by omega) s5 (show s4 ≤ 8 by omega)
        refine law_ratio_ok f1 f2 ?_
        refine app_i ((cs.map cellL).length + 2) gi (by omega) ?_
        rw [si]
        tm_at "bb"
        refine q1 _ _ ⟨row ++ [rat (mkQ (F + s1 - 20) (F + 1 + s4))], a6, c6, by rw [List.length_append]; rfl, by simp; omega, fun x hx => ?_, by omega, by simp; omega, t3, rfl⟩
        rcases List.mem_append.mp hx with hx | hx
        · exact g2 x hx
        · rw [List.mem_singleton.mp hx]
          exact f3
      · rintro s m' ⟨row, a2, c2, hy, g1, g2, g3, g4, g5, rfl⟩
        have el := drop_end g1 hy
        refine seqK_nx ?_
        tm_at "bb"
        refine q1 _ _ ⟨cs ++ [(q, row)], a2, c2, by rw [List.length_append]; rfl, by simp; omega, fun z hz => ?_, g3, by simp; omega, g5, ?_⟩
        · rcases List.mem_append.mp hz with hz | hz
          · exact h2 z hz
          · rw [List.mem_singleton.mp hz]
            exact ⟨el, g2⟩
        · rw [List.map_append, List.map_append]
          rfl
    · rintro s m' ⟨cs, a', c', hx, h1, h2, h3, h4, h5, rfl⟩
      have el := drop_end h1 hx
      exact hR _ _ ⟨cs, a', c', el, h2, h3, by omega, h5, by rw [List.append_nil]⟩
  rintro _ _ ⟨cs, a5, c5, lc, hcs, b1, b2, b3, rfl⟩
  have hcs6 : ∀ z ∈ cs, ItR 6 z.2 := fun z hz => ⟨by have := (hcs z hz).1; omega, (hcs z hz).2⟩
  tm_at "bb"
  refine take_ok hl (by decide) (by omega) (by omega) b3 ((Bd.lit _).up (by decide)) fun sp a6 c6 sp0 sp1 d1 d2 d3 => ?_
  have bN : 0 < N → Bd 4000 (N : Int) := fun _ => (show Bd 10 (N : Int) by unfold Bd; omega).up (by decide)
  refine seqF_k (fun s m' => (sp ≠ 0 ∧ m' = (p, poolO a6 c6 ns) :: (pl, .lst (cs.map fun z => D.ref z.1)) :: (cs.map cellL ++ [])) ∨ sp = 0 ∧ ∃ a' c', 0 ≤ a' ∧ a' ≤ 600 ∧ 0 ≤ c' ∧ Lists p pl ns N a' c' m') (fun R' hR => ?_) ?_
  · tm_at "bb"
    refine eq_i ?_
    refine andB_i (fun e => ?_) (fun e => ?_)
    · have e := of_decide_eq_true e
      tm_at "bb"
      refine gt_i ?_
      refine iteM_i (fun e2 => ?_) (fun e2 => ?_)
      · have e2 := of_decide_eq_true e2
        tm_at "bb"
        refine mkT_i (by simp) ?_
        tm_at "bb"
        refine newL_i (by simp) fun pz => ?_
        tm_at "bb"
        refine take_ok hl (by decide) (by omega) (by omega) d3 ((Bd.lit _).up (by decide)) fun s1 a7 c7 s2 s3 u1 u2 u3 => ?_
        refine add_i ?_
        refine repM_B (ds := [.tup [.int 1, .int 1]]) ((cs.map cellL).length + 2) (by simp) (by omega) (by omega) (by simp) ?_
        tm_at "bb"
        refine take_ok hl (by omega) (by omega) (by omega) u3 (bN (by omega)) fun s4 a8 c8 s5 s6 t1 t2 t3 => ?_
        refine st_i 1 s4.toNat rfl (ixN_in s5 (by simp; omega)) ?_
        tm_at "bb"
        refine hR _ _ (.inr ⟨e, a8, c8, by omega, by omega, t3, ?_⟩)
        refine (show Lists p pl ns N a8 c8 ((p, poolO a8 c8 ns) :: (pl, .lst ((cs.map fun z => D.ref z.1).set s4.toNat (.lst (List.replicate (1 + s1).toNat [D.tup [.int 1, .int 1]]).flatten))) :: ((cs.map cellL ++ []) ++ [(pz, MO.lst [D.tup [.int 1, .int 1]])])) from ?_)
        rw [List.append_nil]
        refine lists_set lc hcs6 ?_ _
        rw [rep_flatB]
        refine ⟨by rw [List.length_replicate]; omega, fun x hx => ?_⟩
        rw [(List.mem_replicate.mp hx).2]
        exact one_It
      · tm_at "bb"
        exact hR _ _ (.inr ⟨e, a6, c6, by omega, by omega, d3, lists_base lc hcs6 _⟩)
    · refine iteM_fi ?_
      tm_at "bb"
      exact hR _ _ (.inl ⟨of_decide_eq_false e, rfl⟩)
  rintro _ m2 h2
  refine seqF_k (fun s m' => (sp ≠ 0 ∧ sp ≠ 1 ∧ m' = (p, poolO a6 c6 ns) :: (pl, .lst (cs.map fun z => D.ref z.1)) :: (cs.map cellL ++ [])) ∨ (sp = 0 ∨ sp = 1) ∧ ∃ a' c', 0 ≤ a' ∧ a' ≤ 600 ∧ 0 ≤ c' ∧ Lists p pl ns N a' c' m') (fun R' hR => ?_) ?_
  · tm_at "bb"
    refine eq_i ?_
    refine andB_i (fun e => ?_) (fun e => ?_)
    · have e := of_decide_eq_true e
      obtain ⟨_, rfl⟩ : sp ≠ 0 ∧ m2 = (p, poolO a6 c6 ns) :: (pl, .lst (cs.map fun z => D.ref z.1)) :: (cs.map cellL ++ []) := by
        rcases h2 with h | ⟨h, _⟩
        · exact h
        · omega
      tm_at "bb"
      refine gt_i ?_
      refine iteM_i (fun e2 => ?_) (fun e2 => ?_)
      · have e2 := of_decide_eq_true e2
        tm_at "bb"
        refine take_ok hl (by omega) (by omega) (by omega) d3 (bN (by omega)) fun s1 a7 c7 s2 s3 u1 u2 u3 => ?_
        have hk : s1.toNat < cs.length := by omega
        have es1 : s1 = (s1.toNat : Int) := (Int.toNat_of_nonneg s2).symm
        obtain ⟨q, row, hq⟩ : ∃ q row, cs[s1.toNat]? = some (q, row) := ⟨_, _, List.getElem?_eq_getElem hk⟩
        have hrow := hcs (q, row) (List.mem_of_getElem? hq)
        rw [es1]
        refine ixR_i 1 rfl (atI_nat (j := s1.toNat) (v := .ref q) (by rw [List.getElem?_map, hq]; rfl)) ?_
        tm_at "bb"
        refine mkT_i (by simp) ?_
        tm_at "bb"
        refine mkT_i (by simp) ?_
        tm_at "bb"
        refine mkL_i (by simp) ?_
        tm_at "bb"
        refine mkT_i (by simp) ?_
        tm_at "bb"
        refine mkL_i (by simp) ?_
        tm_at "bb"
        refine take_ok hl (by decide) (by omega) (by omega) u3 ((Bd.lit _).up (by decide)) fun s4 a8 c8 s5 s6 t1 t2 t3 => ?_
        obtain ⟨o, ho, po⟩ : ∃ o, atI oddIt s4 = some o ∧ o ∈ oddIt := by
          have er : s4 = 0 ∨ s4 = 1 ∨ s4 = 2 ∨ s4 = 3 ∨ s4 = 4 ∨ s4 = 5 := by omega
          rcases er with rfl | rfl | rfl | rfl | rfl | rfl
          · exact ⟨_, atI_0, by simp [oddIt]⟩
          · exact ⟨_, atI_1, by simp [oddIt]⟩
          · exact ⟨_, atI_2, by simp [oddIt]⟩
          · exact ⟨_, atI_nat (j := 3) rfl, by simp [oddIt]⟩
          · exact ⟨_, atI_nat (j := 4) rfl, by simp [oddIt]⟩
          · exact ⟨_, atI_nat (j := 5) rfl, by simp [oddIt]⟩
        refine ixL_i ho ?_
        tm_at "bb"
        refine take_ok hl (by omega) (by omega) (by omega) t3 ((show Bd 10 (n : Int) by unfold Bd; omega).up (by decide)) fun s7 a9 c9 s8 s9 v1 v2 v3 => ?_
        refine st_i (s1.toNat + 2) s7.toNat (cell_at hq) (ixN_in s8 (by rw [hrow.1]; omega)) ?_
        rw [cell_set hq]
        tm_at "bb"
        refine hR _ _ (.inr ⟨.inr e, a9, c9, by omega, by omega, v3, ?_⟩)
        rw [refs_set hq (row.set s7.toNat o)]
        refine lists_base (by simpa using lc) (fun z hz => ?_) _
        rcases List.mem_or_eq_of_mem_set hz with hz | rfl
        · exact hcs6 z hz
        · refine ⟨by rw [List.length_set, hrow.1]; omega, fun x hx => ?_⟩
          rcases List.mem_or_eq_of_mem_set hx with hx | rfl
          · exact hrow.2 x hx
          · exact .inr po
      · tm_at "bb"
        exact hR _ _ (.inr ⟨.inr e, a6, c6, by omega, by omega, d3, lists_base lc hcs6 _⟩)
    · have e := of_decide_eq_false e
      refine iteM_fi ?_
      tm_at "bb"
      rcases h2 with ⟨h, rfl⟩ | ⟨h, hh⟩
      · exact hR _ _ (.inl ⟨h, e, rfl⟩)
      · exact hR _ _ (.inr ⟨.inl h, hh⟩)
  rintro _ m3 h3
  refine seqF_k (fun s m' => ∃ a' c', 0 ≤ a' ∧ a' ≤ 600 ∧ 0 ≤ c' ∧ Lists p pl ns N a' c' m') (fun R' hR => ?_) ?_
  · tm_at "bb"
    refine eq_i ?_
    refine andB_i (fun e => ?_) (fun e => ?_)
    · have e := of_decide_eq_true e
      obtain rfl : m3 = (p, poolO a6 c6 ns) :: (pl, .lst (cs.map fun z => D.ref z.1)) :: (cs.map cellL ++ []) := by
        rcases h3 with ⟨_, _, h⟩ | ⟨h, _⟩
        · exact h
        · omega
      tm_at "bb"
      refine gt_i ?_
      refine iteM_i (fun e2 => ?_) (fun e2 => ?_)
      · have e2 := of_decide_eq_true e2
        tm_at "bb"
        refine mkL_i (by simp) ?_
        tm_at "bb"
        refine take_ok hl (by omega) (by omega) (by omega) d3 (bN (by omega)) fun s4 a8 c8 s5 s6 t1 t2 t3 => ?_
        refine st_i 1 s4.toNat rfl (ixN_in s5 (by simp; omega)) ?_
        tm_at "bb"
        exact hR _ _ ⟨a8, c8, by omega, by omega, t3, lists_set lc hcs6 ⟨by simp, by simp⟩ _⟩
      · tm_at "bb"
        exact hR _ _ ⟨a6, c6, by omega, by omega, d3, lists_base lc hcs6 _⟩
    · refine iteM_fi ?_
      tm_at "bb"
      rcases h3 with ⟨_, _, rfl⟩ | ⟨_, hh⟩
      · exact hR _ _ ⟨a6, c6, by omega, by omega, d3, lists_base lc hcs6 _⟩
      · exact hR _ _ hh
  rintro _ m4 ⟨a7, c7, g1, g2, g3, L⟩
  refine frzd_lists L fun rs T lr hrs => ?_
  tm_at "bb"
  refine shares_ok hN hl g1 (by omega) g3 fun ss a8 c8 ext ls hss i1 i2 i3 => ?_
  have I : Inp rs ss := ⟨by omega, fun r hr => by have := (hrs r hr).1; omega, fun r hr => (hrs r hr).2, by omega, hss⟩
  have rL : Rows (.lst (rs.map D.lst)) rs := ⟨D.lst, fun r => .inl rfl, fun r h => h, .inl rfl⟩
  have rT : Rows (.tup (rs.map D.tup)) rs := ⟨D.tup, fun r => .inr rfl, fun r h => h, .inr rfl⟩
  have lm : (rs.map D.lst).length ≤ 100000 := by rw [List.length_map]; omega
  have cl : ∀ {f g : List D → D} {F : D → M (Option D)} {R : List D → Led → Prop} {m : Led} {E : XR}, (∀ r ∈ rs, ∀ Q : Option D → Led → Prop, Q (some (g r)) m → F (f r) m Q NoX) → R (rs.map g) m → compM F (rs.map f) [] m R E := fun {f g F R m E} h1 h2 =>
    comp_map (e := f) (g := g) rs [] h1 (by simp; omega) (by rw [List.nil_append]; exact h2)
  have svS : Sh 20 (.lst [.lst (rs.map D.lst), .lst ss]) := fun x hx => by
    simp only [List.mem_cons, List.not_mem_nil, or_false] at hx
    rcases hx with rfl | rfl
    · intro y hy
      obtain ⟨r, hr, rfl⟩ := List.mem_map.mp hy
      exact fun x hx => ((hrs r hr).2 x hx).sh
    · exact fun y hy => hss.sh18 y hy
  tm_at "bb"
  refine seq_L ?_
  tm_at "bb"
  refine cl (g := D.lst) (fun r hr Q hQ => ?_) ?_
  · tm_at "bb"
    refine list_L ?_
    tm_at "bb"
    exact hQ
  refine lsM_i ?_
  tm_at "bb"
  refine list_L ?_
  tm_at "bb"
  refine mkL_i (by simp) ?_
  tm_at "bb"
  refine due_z rL (.inl rfl) I ?_
  tm_at "bb"
  refine told_z rL (.inl rfl) I ?_
  tm_at "bb"
  refine ne_rf (dueV_sh rs ss) ?_
  refine iteM_fi ?_
  tm_at "bb"
  refine seq_L ?_
  tm_at "bb"
  refine cl (g := D.tup) (fun r hr Q hQ => ?_) ?_
  · tm_at "bb"
    refine tuple_L ?_
    tm_at "bb"
    exact hQ
  refine lsM_i ?_
  tm_at "bb"
  refine tuple_L ?_
  tm_at "bb"
  refine tuple_L ?_
  tm_at "bb"
  refine told_z rT (.inr rfl) I ?_
  tm_at "bb"
  refine ne_rf (dueV_sh rs ss) ?_
  refine iteM_fi ?_
  tm_at "bb"
  refine seq_L ?_
  tm_at "bb"
  refine cl (g := D.lst) (fun r hr Q hQ => ?_) ?_
  · tm_at "bb"
    refine list_L ?_
    tm_at "bb"
    exact hQ
  refine lsM_i ?_
  tm_at "bb"
  refine list_L ?_
  tm_at "bb"
  refine mkL_i (by simp) ?_
  tm_at "bb"
  refine ne_rf svS ?_
  refine iteM_fi ?_
  refine seqF_k (fun s m' => ∃ T', m' = (p, poolO a8 c8 ns) :: T') (fun R' hR => ?_) ?_
  · tm_at "bb"
    rcases hd : dueS rs ss with _ | z
    · have ev : dueV rs ss = .lst ((dueL rs ss).map rat) := by unfold dueV; rw [hd]
      rw [ev]
      refine isiO_pr (t := "list") (r := true) rfl (by decide) (by decide) ?_
      refine tru_bl ?_
      refine iteM_ti ?_
      tm_at "bb"
      refine blended_ok rL (.inl rfl) I.n40 I.l10 I.hi I.sl (fun x hx => (I.sp x hx).1) (fun x hx => (I.sp x hx).2) (fun z hz => by rw [hd] at hz; cases hz) fun _ q => ?_
      tm_at "bb"
      refine chk_i _ get_last ?_
      tm_at "bb"
      refine app_i _ get_last (by have := dueL_len I hd; rw [List.length_map]; omega) ?_
      rw [set_last]
      tm_at "bb"
      exact hR _ _ ⟨_, rfl⟩
    · have ev : dueV rs ss = .str z := by unfold dueV; rw [hd]
      rw [ev]
      refine isiO_pr (t := "str") (r := false) rfl (by decide) (by decide) ?_
      refine tru_bl ?_
      refine iteM_fi ?_
      tm_at "bb"
      exact hR _ _ ⟨_, rfl⟩
  rintro _ _ ⟨T', rfl⟩
  tm_at "bb"
  refine told_z rL (.inl rfl) I ?_
  tm_at "bb"
  refine cmpM_i ?_
  refine eq_rf (dueV_sh rs ss) ?_
  refine andM_ti ?_
  tm_at "bb"
  refine law_calm_blends_ok hl i1 (by omega) i3 fun a9 c9 => ?_
  refine rtM_i ?_
  refine fnR_rt ?_
  exact hR _
end


end K35
namespace K35
open PySem PySem.Spec PyProof.Rows L2 DL
abbrev s_BadRatio__init__ : Stmt := DL.inClass (topS 2) 0
abbrev s_BadShares__init__ : Stmt := DL.inClass (topS 3) 0
abbrev s_Mismatch__init__ : Stmt := DL.inClass (topS 5) 0
abbrev s_NotDivision__init__ : Stmt := DL.inClass (topS 4) 0
theorem all_mk {w : World} {K : PySem.W.Frag} {h : Heap} {mg : Str → Option Value} {fa : Addr} (X : K.In h) (G : h.Ns mainGlobals mg) (hfa : mg "law" = some (.ref fa))
    {f0 : Addr} {od0 an0 : Option Addr} {sl0 : Array (Option Value)} {oc0 kV0 dc0 pm0 cd0 ct0 : Value}
    (a0 : PySem.W.nsIn K mainGlobals "_law_pool" = some (some (.ref f0)))
    (l0 : K.lookup f0 = some ⟨oc0, od0, .func (PySem.W.fnOf "_law_pool" "_law_pool" (defArgs s_law_pool) (defBody s_law_pool) (defScope s_law_pool) .none kV0 dc0 pm0 an0 cd0 ct0), sl0⟩) (c0 : PySem.W.codeIn K cd0 "_law_pool" = true) (k0 : PySem.W.keepIn K (.ref f0) = true)
    {f1 : Addr} {od1 an1 : Option Addr} {sl1 : Array (Option Value)} {oc1 kV1 dc1 pm1 cd1 ct1 : Value}
    (a1 : PySem.W.nsIn K mainGlobals "_law_take" = some (some (.ref f1)))
    (l1 : K.lookup f1 = some ⟨oc1, od1, .func (PySem.W.fnOf "_law_take" "_law_take" (defArgs s_law_take) (defBody s_law_take) (defScope s_law_take) .none kV1 dc1 pm1 an1 cd1 ct1), sl1⟩) (c1 : PySem.W.codeIn K cd1 "_law_take" = true) (k1 : PySem.W.keepIn K (.ref f1) = true)
    {f2 : Addr} {od2 an2 : Option Addr} {sl2 : Array (Option Value)} {oc2 kV2 dc2 pm2 cd2 ct2 : Value}
    (a2 : PySem.W.nsIn K mainGlobals "_law_shares" = some (some (.ref f2)))
    (l2 : K.lookup f2 = some ⟨oc2, od2, .func (PySem.W.fnOf "_law_shares" "_law_shares" (defArgs s_law_shares) (defBody s_law_shares) (defScope s_law_shares) .none kV2 dc2 pm2 an2 cd2 ct2), sl2⟩) (c2 : PySem.W.codeIn K cd2 "_law_shares" = true) (k2 : PySem.W.keepIn K (.ref f2) = true)
    {f3 : Addr} {od3 an3 : Option Addr} {sl3 : Array (Option Value)} {oc3 kV3 dc3 pm3 cd3 ct3 : Value}
    (a3 : PySem.W.nsIn K mainGlobals "_law_divisor" = some (some (.ref f3)))
    (l3 : K.lookup f3 = some ⟨oc3, od3, .func (PySem.W.fnOf "_law_divisor" "_law_divisor" (defArgs s_law_divisor) (defBody s_law_divisor) (defScope s_law_divisor) .none kV3 dc3 pm3 an3 cd3 ct3), sl3⟩) (c3 : PySem.W.codeIn K cd3 "_law_divisor" = true) (k3 : PySem.W.keepIn K (.ref f3) = true)
    {f4 : Addr} {od4 an4 : Option Addr} {sl4 : Array (Option Value)} {oc4 kV4 dc4 pm4 cd4 ct4 : Value}
    (a4 : PySem.W.nsIn K mainGlobals "_law_ratio" = some (some (.ref f4)))
    (l4 : K.lookup f4 = some ⟨oc4, od4, .func (PySem.W.fnOf "_law_ratio" "_law_ratio" (defArgs s_law_ratio) (defBody s_law_ratio) (defScope s_law_ratio) .none kV4 dc4 pm4 an4 cd4 ct4), sl4⟩) (c4 : PySem.W.codeIn K cd4 "_law_ratio" = true) (k4 : PySem.W.keepIn K (.ref f4) = true)
    {f5 : Addr} {od5 an5 : Option Addr} {sl5 : Array (Option Value)} {oc5 kV5 dc5 pm5 cd5 ct5 : Value}
    (a5 : PySem.W.nsIn K mainGlobals "_law_plus" = some (some (.ref f5)))
    (l5 : K.lookup f5 = some ⟨oc5, od5, .func (PySem.W.fnOf "_law_plus" "_law_plus" (defArgs s_law_plus) (defBody s_law_plus) (defScope s_law_plus) .none kV5 dc5 pm5 an5 cd5 ct5), sl5⟩) (c5 : PySem.W.codeIn K cd5 "_law_plus" = true) (k5 : PySem.W.keepIn K (.ref f5) = true)
    {f6 : Addr} {od6 an6 : Option Addr} {sl6 : Array (Option Value)} {oc6 kV6 dc6 pm6 cd6 ct6 : Value}
    (a6 : PySem.W.nsIn K mainGlobals "_law_is_number" = some (some (.ref f6)))
    (l6 : K.lookup f6 = some ⟨oc6, od6, .func (PySem.W.fnOf "_law_is_number" "_law_is_number" (defArgs s_law_is_number) (defBody s_law_is_number) (defScope s_law_is_number) .none kV6 dc6 pm6 an6 cd6 ct6), sl6⟩) (c6 : PySem.W.codeIn K cd6 "_law_is_number" = true) (k6 : PySem.W.keepIn K (.ref f6) = true)
    {f7 : Addr} {od7 an7 : Option Addr} {sl7 : Array (Option Value)} {oc7 kV7 dc7 pm7 cd7 ct7 : Value}
    (a7 : PySem.W.nsIn K mainGlobals "_law_is_ratio" = some (some (.ref f7)))
    (l7 : K.lookup f7 = some ⟨oc7, od7, .func (PySem.W.fnOf "_law_is_ratio" "_law_is_ratio" (defArgs s_law_is_ratio) (defBody s_law_is_ratio) (defScope s_law_is_ratio) .none kV7 dc7 pm7 an7 cd7 ct7), sl7⟩) (c7 : PySem.W.codeIn K cd7 "_law_is_ratio" = true) (k7 : PySem.W.keepIn K (.ref f7) = true)
    {f8 : Addr} {od8 an8 : Option Addr} {sl8 : Array (Option Value)} {oc8 kV8 dc8 pm8 cd8 ct8 : Value}
    (a8 : PySem.W.nsIn K mainGlobals "_law_due" = some (some (.ref f8)))
    (l8 : K.lookup f8 = some ⟨oc8, od8, .func (PySem.W.fnOf "_law_due" "_law_due" (defArgs s_law_due) (defBody s_law_due) (defScope s_law_due) .none kV8 dc8 pm8 an8 cd8 ct8), sl8⟩) (c8 : PySem.W.codeIn K cd8 "_law_due" = true) (k8 : PySem.W.keepIn K (.ref f8) = true)
    {f9 : Addr} {od9 an9 : Option Addr} {sl9 : Array (Option Value)} {oc9 kV9 dc9 pm9 cd9 ct9 : Value}
    (a9 : PySem.W.nsIn K mainGlobals "is_integer" = some (some (.ref f9)))
    (l9 : K.lookup f9 = some ⟨oc9, od9, .func (PySem.W.fnOf "is_integer" "is_integer" (defArgs s_is_integer) (defBody s_is_integer) (defScope s_is_integer) .none kV9 dc9 pm9 an9 cd9 ct9), sl9⟩) (c9 : PySem.W.codeIn K cd9 "is_integer" = true) (k9 : PySem.W.keepIn K (.ref f9) = true)
    {f10 : Addr} {od10 an10 : Option Addr} {sl10 : Array (Option Value)} {oc10 kV10 dc10 pm10 cd10 ct10 : Value}
    (a10 : PySem.W.nsIn K mainGlobals "are_integers" = some (some (.ref f10)))
    (l10 : K.lookup f10 = some ⟨oc10, od10, .func (PySem.W.fnOf "are_integers" "are_integers" (defArgs s_are_integers) (defBody s_are_integers) (defScope s_are_integers) .none kV10 dc10 pm10 an10 cd10 ct10), sl10⟩) (c10 : PySem.W.codeIn K cd10 "are_integers" = true) (k10 : PySem.W.keepIn K (.ref f10) = true)
    {f11 : Addr} {od11 an11 : Option Addr} {sl11 : Array (Option Value)} {oc11 kV11 dc11 pm11 cd11 ct11 : Value}
    (a11 : PySem.W.nsIn K mainGlobals "are_shares" = some (some (.ref f11)))
    (l11 : K.lookup f11 = some ⟨oc11, od11, .func (PySem.W.fnOf "are_shares" "are_shares" (defArgs s_are_shares) (defBody s_are_shares) (defScope s_are_shares) .none kV11 dc11 pm11 an11 cd11 ct11), sl11⟩) (c11 : PySem.W.codeIn K cd11 "are_shares" = true) (k11 : PySem.W.keepIn K (.ref f11) = true)
    {f12 : Addr} {od12 an12 : Option Addr} {sl12 : Array (Option Value)} {oc12 kV12 dc12 pm12 cd12 ct12 : Value}
    (a12 : PySem.W.nsIn K mainGlobals "divisor" = some (some (.ref f12)))
    (l12 : K.lookup f12 = some ⟨oc12, od12, .func (PySem.W.fnOf "divisor" "divisor" (defArgs s_divisor) (defBody s_divisor) (defScope s_divisor) .none kV12 dc12 pm12 an12 cd12 ct12), sl12⟩) (c12 : PySem.W.codeIn K cd12 "divisor" = true) (k12 : PySem.W.keepIn K (.ref f12) = true)
    {f13 : Addr} {od13 an13 : Option Addr} {sl13 : Array (Option Value)} {oc13 kV13 dc13 pm13 cd13 ct13 : Value}
    {T13 : Addr} {oT13 : Obj} {nT13 : Nat} {uT13_0 : Value}
    (a13 : PySem.W.nsIn K mainGlobals "ratio" = some (some (.ref f13)))
    (l13 : K.lookup f13 = some ⟨oc13, od13, .func (PySem.W.fnOf "ratio" "ratio" (defArgs s_ratio) (defBody s_ratio) (defScope s_ratio) (.ref T13) kV13 dc13 pm13 an13 cd13 ct13), sl13⟩) (c13 : PySem.W.codeIn K cd13 "ratio" = true) (k13 : PySem.W.keepIn K (.ref f13) = true)
    (lT13 : K.lookup T13 = some oT13) (oTd13 : oT13.data = .seq [uT13_0].toArray nT13) (rT13_0 : RelV (.int 1 : V) uT13_0)
    {f14 : Addr} {od14 an14 : Option Addr} {sl14 : Array (Option Value)} {oc14 kV14 dc14 pm14 cd14 ct14 : Value}
    (a14 : PySem.W.nsIn K mainGlobals "plus" = some (some (.ref f14)))
    (l14 : K.lookup f14 = some ⟨oc14, od14, .func (PySem.W.fnOf "plus" "plus" (defArgs s_plus) (defBody s_plus) (defScope s_plus) .none kV14 dc14 pm14 an14 cd14 ct14), sl14⟩) (c14 : PySem.W.codeIn K cd14 "plus" = true) (k14 : PySem.W.keepIn K (.ref f14) = true)
    {f15 : Addr} {od15 an15 : Option Addr} {sl15 : Array (Option Value)} {oc15 kV15 dc15 pm15 cd15 ct15 : Value}
    (a15 : PySem.W.nsIn K mainGlobals "is_ratio" = some (some (.ref f15)))
    (l15 : K.lookup f15 = some ⟨oc15, od15, .func (PySem.W.fnOf "is_ratio" "is_ratio" (defArgs s_is_ratio) (defBody s_is_ratio) (defScope s_is_ratio) .none kV15 dc15 pm15 an15 cd15 ct15), sl15⟩) (c15 : PySem.W.codeIn K cd15 "is_ratio" = true) (k15 : PySem.W.keepIn K (.ref f15) = true)
    {f16 : Addr} {od16 an16 : Option Addr} {sl16 : Array (Option Value)} {oc16 kV16 dc16 pm16 cd16 ct16 : Value}
    (a16 : PySem.W.nsIn K mainGlobals "are_ratios" = some (some (.ref f16)))
    (l16 : K.lookup f16 = some ⟨oc16, od16, .func (PySem.W.fnOf "are_ratios" "are_ratios" (defArgs s_are_ratios) (defBody s_are_ratios) (defScope s_are_ratios) .none kV16 dc16 pm16 an16 cd16 ct16), sl16⟩) (c16 : PySem.W.codeIn K cd16 "are_ratios" = true) (k16 : PySem.W.keepIn K (.ref f16) = true)
    {f17 : Addr} {od17 an17 : Option Addr} {sl17 : Array (Option Value)} {oc17 kV17 dc17 pm17 cd17 ct17 : Value}
    (a17 : PySem.W.nsIn K mainGlobals "times" = some (some (.ref f17)))
    (l17 : K.lookup f17 = some ⟨oc17, od17, .func (PySem.W.fnOf "times" "times" (defArgs s_times) (defBody s_times) (defScope s_times) .none kV17 dc17 pm17 an17 cd17 ct17), sl17⟩) (c17 : PySem.W.codeIn K cd17 "times" = true) (k17 : PySem.W.keepIn K (.ref f17) = true)
    {f18 : Addr} {od18 an18 : Option Addr} {sl18 : Array (Option Value)} {oc18 kV18 dc18 pm18 cd18 ct18 : Value}
    (a18 : PySem.W.nsIn K mainGlobals "blended" = some (some (.ref f18)))
    (l18 : K.lookup f18 = some ⟨oc18, od18, .func (PySem.W.fnOf "blended" "blended" (defArgs s_blended) (defBody s_blended) (defScope s_blended) .none kV18 dc18 pm18 an18 cd18 ct18), sl18⟩) (c18 : PySem.W.codeIn K cd18 "blended" = true) (k18 : PySem.W.keepIn K (.ref f18) = true)
    {f19 : Addr} {od19 an19 : Option Addr} {sl19 : Array (Option Value)} {oc19 kV19 dc19 pm19 cd19 ct19 : Value}
    (a19 : PySem.W.nsIn K mainGlobals "_law_told" = some (some (.ref f19)))
    (l19 : K.lookup f19 = some ⟨oc19, od19, .func (PySem.W.fnOf "_law_told" "_law_told" (defArgs s_law_told) (defBody s_law_told) (defScope s_law_told) .none kV19 dc19 pm19 an19 cd19 ct19), sl19⟩) (c19 : PySem.W.codeIn K cd19 "_law_told" = true) (k19 : PySem.W.keepIn K (.ref f19) = true)
    {f20 : Addr} {od20 an20 : Option Addr} {sl20 : Array (Option Value)} {oc20 kV20 dc20 pm20 cd20 ct20 : Value}
    (a20 : PySem.W.nsIn K mainGlobals "_law_few" = some (some (.ref f20)))
    (l20 : K.lookup f20 = some ⟨oc20, od20, .func (PySem.W.fnOf "_law_few" "_law_few" (defArgs s_law_few) (defBody s_law_few) (defScope s_law_few) .none kV20 dc20 pm20 an20 cd20 ct20), sl20⟩) (c20 : PySem.W.codeIn K cd20 "_law_few" = true) (k20 : PySem.W.keepIn K (.ref f20) = true)
    {f21 : Addr} {od21 an21 : Option Addr} {sl21 : Array (Option Value)} {oc21 kV21 dc21 pm21 cd21 ct21 : Value}
    (a21 : PySem.W.nsIn K mainGlobals "_law_groups" = some (some (.ref f21)))
    (l21 : K.lookup f21 = some ⟨oc21, od21, .func (PySem.W.fnOf "_law_groups" "_law_groups" (defArgs s_law_groups) (defBody s_law_groups) (defScope s_law_groups) .none kV21 dc21 pm21 an21 cd21 ct21), sl21⟩) (c21 : PySem.W.codeIn K cd21 "_law_groups" = true) (k21 : PySem.W.keepIn K (.ref f21) = true)
    {f22 : Addr} {od22 an22 : Option Addr} {sl22 : Array (Option Value)} {oc22 kV22 dc22 pm22 cd22 ct22 : Value}
    (a22 : PySem.W.nsIn K mainGlobals "_law_total" = some (some (.ref f22)))
    (l22 : K.lookup f22 = some ⟨oc22, od22, .func (PySem.W.fnOf "_law_total" "_law_total" (defArgs s_law_total) (defBody s_law_total) (defScope s_law_total) .none kV22 dc22 pm22 an22 cd22 ct22), sl22⟩) (c22 : PySem.W.codeIn K cd22 "_law_total" = true) (k22 : PySem.W.keepIn K (.ref f22) = true)
    {f23 : Addr} {od23 an23 : Option Addr} {sl23 : Array (Option Value)} {oc23 kV23 dc23 pm23 cd23 ct23 : Value}
    (a23 : PySem.W.nsIn K mainGlobals "_law_is_division" = some (some (.ref f23)))
    (l23 : K.lookup f23 = some ⟨oc23, od23, .func (PySem.W.fnOf "_law_is_division" "_law_is_division" (defArgs s_law_is_division) (defBody s_law_is_division) (defScope s_law_is_division) .none kV23 dc23 pm23 an23 cd23 ct23), sl23⟩) (c23 : PySem.W.codeIn K cd23 "_law_is_division" = true) (k23 : PySem.W.keepIn K (.ref f23) = true)
    {f24 : Addr} {od24 an24 : Option Addr} {sl24 : Array (Option Value)} {oc24 kV24 dc24 pm24 cd24 ct24 : Value}
    (a24 : PySem.W.nsIn K mainGlobals "_law_amount" = some (some (.ref f24)))
    (l24 : K.lookup f24 = some ⟨oc24, od24, .func (PySem.W.fnOf "_law_amount" "_law_amount" (defArgs s_law_amount) (defBody s_law_amount) (defScope s_law_amount) .none kV24 dc24 pm24 an24 cd24 ct24), sl24⟩) (c24 : PySem.W.codeIn K cd24 "_law_amount" = true) (k24 : PySem.W.keepIn K (.ref f24) = true)
    {f25 : Addr} {od25 an25 : Option Addr} {sl25 : Array (Option Value)} {oc25 kV25 dc25 pm25 cd25 ct25 : Value}
    (a25 : PySem.W.nsIn K mainGlobals "_law_complaint" = some (some (.ref f25)))
    (l25 : K.lookup f25 = some ⟨oc25, od25, .func (PySem.W.fnOf "_law_complaint" "_law_complaint" (defArgs s_law_complaint) (defBody s_law_complaint) (defScope s_law_complaint) .none kV25 dc25 pm25 an25 cd25 ct25), sl25⟩) (c25 : PySem.W.codeIn K cd25 "_law_complaint" = true) (k25 : PySem.W.keepIn K (.ref f25) = true)
    {f26 : Addr} {od26 an26 : Option Addr} {sl26 : Array (Option Value)} {oc26 kV26 dc26 pm26 cd26 ct26 : Value}
    (a26 : PySem.W.nsIn K mainGlobals "_law_calm_for" = some (some (.ref f26)))
    (l26 : K.lookup f26 = some ⟨oc26, od26, .func (PySem.W.fnOf "_law_calm_for" "_law_calm_for" (defArgs s_law_calm_for) (defBody s_law_calm_for) (defScope s_law_calm_for) .none kV26 dc26 pm26 an26 cd26 ct26), sl26⟩) (c26 : PySem.W.codeIn K cd26 "_law_calm_for" = true) (k26 : PySem.W.keepIn K (.ref f26) = true)
    {f27 : Addr} {od27 an27 : Option Addr} {sl27 : Array (Option Value)} {oc27 kV27 dc27 pm27 cd27 ct27 : Value}
    (a27 : PySem.W.nsIn K mainGlobals "_law_weights_of" = some (some (.ref f27)))
    (l27 : K.lookup f27 = some ⟨oc27, od27, .func (PySem.W.fnOf "_law_weights_of" "_law_weights_of" (defArgs s_law_weights_of) (defBody s_law_weights_of) (defScope s_law_weights_of) .none kV27 dc27 pm27 an27 cd27 ct27), sl27⟩) (c27 : PySem.W.codeIn K cd27 "_law_weights_of" = true) (k27 : PySem.W.keepIn K (.ref f27) = true)
    {f28 : Addr} {od28 an28 : Option Addr} {sl28 : Array (Option Value)} {oc28 kV28 dc28 pm28 cd28 ct28 : Value}
    (a28 : PySem.W.nsIn K mainGlobals "_law_minus" = some (some (.ref f28)))
    (l28 : K.lookup f28 = some ⟨oc28, od28, .func (PySem.W.fnOf "_law_minus" "_law_minus" (defArgs s_law_minus) (defBody s_law_minus) (defScope s_law_minus) .none kV28 dc28 pm28 an28 cd28 ct28), sl28⟩) (c28 : PySem.W.codeIn K cd28 "_law_minus" = true) (k28 : PySem.W.keepIn K (.ref f28) = true)
    {f29 : Addr} {od29 an29 : Option Addr} {sl29 : Array (Option Value)} {oc29 kV29 dc29 pm29 cd29 ct29 : Value}
    (a29 : PySem.W.nsIn K mainGlobals "_law_calm_blends" = some (some (.ref f29)))
    (l29 : K.lookup f29 = some ⟨oc29, od29, .func (PySem.W.fnOf "_law_calm_blends" "_law_calm_blends" (defArgs s_law_calm_blends) (defBody s_law_calm_blends) (defScope s_law_calm_blends) .none kV29 dc29 pm29 an29 cd29 ct29), sl29⟩) (c29 : PySem.W.codeIn K cd29 "_law_calm_blends" = true) (k29 : PySem.W.keepIn K (.ref f29) = true)
    {f30 : Addr} {od30 an30 : Option Addr} {sl30 : Array (Option Value)} {oc30 kV30 dc30 pm30 cd30 ct30 : Value}
    (a30 : PySem.W.nsIn K mainGlobals "law" = some (some (.ref f30)))
    (l30 : K.lookup f30 = some ⟨oc30, od30, .func (PySem.W.fnOf "law" "law" (defArgs s_law) (defBody s_law) (defScope s_law) .none kV30 dc30 pm30 an30 cd30 ct30), sl30⟩) (c30 : PySem.W.codeIn K cd30 "law" = true) (k30 : PySem.W.keepIn K (.ref f30) = true)
    (z0 : PySem.W.nsIn K mainGlobals "abs" = some none)
    (z1 : PySem.W.nsIn K mainGlobals "all" = some none)
    (z2 : PySem.W.nsIn K mainGlobals "any" = some none)
    (z3 : PySem.W.nsIn K mainGlobals "bool" = some none)
    (z4 : PySem.W.nsIn K mainGlobals "int" = some none)
    (z5 : PySem.W.nsIn K mainGlobals "isinstance" = some none)
    (z6 : PySem.W.nsIn K mainGlobals "len" = some none)
    (z7 : PySem.W.nsIn K mainGlobals "list" = some none)
    (z8 : PySem.W.nsIn K mainGlobals "max" = some none)
    (z9 : PySem.W.nsIn K mainGlobals "min" = some none)
    (z10 : PySem.W.nsIn K mainGlobals "range" = some none)
    (z11 : PySem.W.nsIn K mainGlobals "sorted" = some none)
    (z12 : PySem.W.nsIn K mainGlobals "sum" = some none)
    (z13 : PySem.W.nsIn K mainGlobals "tuple" = some none)
    (z14 : PySem.W.nsIn K mainGlobals "zip" = some none)
    {C_BadRatio : Addr} (ax_BadRatio : PySem.W.nsIn K mainGlobals "BadRatio" = some (some (.ref C_BadRatio)))
    {C_BadShares : Addr} (ax_BadShares : PySem.W.nsIn K mainGlobals "BadShares" = some (some (.ref C_BadShares)))
    {C_DivisionError : Addr} (ax_DivisionError : PySem.W.nsIn K mainGlobals "DivisionError" = some (some (.ref C_DivisionError)))
    {C_Mismatch : Addr} (ax_Mismatch : PySem.W.nsIn K mainGlobals "Mismatch" = some (some (.ref C_Mismatch)))
    {C_NotDivision : Addr} (ax_NotDivision : PySem.W.nsIn K mainGlobals "NotDivision" = some (some (.ref C_NotDivision)))
    (zsup : PySem.W.nsIn K mainGlobals "super" = some none) (zq : PySem.W.nsIn K cStatics "thirdparty.any" = some none)
    {fI_BadRatio cc_BadRatio cda_BadRatio N_BadRatio : Addr} {nm_BadRatio qq_BadRatio : Str} {bs_BadRatio bm_BadRatio : List Value} {sn_BadRatio : List Str} {sub_BadRatio : List Value} {ab_BadRatio : Bool} {col_BadRatio : Option Bool} {dd_BadRatio : Option Addr} {k0_BadRatio k1_BadRatio k2_BadRatio k3_BadRatio k5_BadRatio : Option Value} {kV_BadRatio doc_BadRatio pm_BadRatio ct_BadRatio oc_BadRatio ccl_BadRatio cl_BadRatio : Value} {an_BadRatio od_BadRatio cdd_BadRatio cld_BadRatio : Option Addr} {osl_BadRatio ccs_BadRatio csl_BadRatio : Array (Option Value)} {vs_BadRatio : Array Value} {file_BadRatio : Str} {tf_BadRatio : Tok}
    (lx_BadRatio : K.lookup C_BadRatio = some (excClassObj nm_BadRatio qq_BadRatio C_BadRatio N_BadRatio bs_BadRatio bm_BadRatio true sn_BadRatio sub_BadRatio ab_BadRatio col_BadRatio dd_BadRatio k0_BadRatio k1_BadRatio k2_BadRatio k3_BadRatio k5_BadRatio "ValueError.__new__")) (rx_BadRatio : PySem.HandSPX.refsVE bm_BadRatio = true) (sx_BadRatio : PySem.W.findIn K (.ref C_BadRatio) "__setattr__" = some (some (.builtin "object.__setattr__")))
    (bx_BadRatio : PySem.W.subIn K (.ref C_BadRatio) (.type "BaseException") = some true) (tx_BadRatio : PySem.W.typeIn K (.ref C_BadRatio) = some (.type "type")) (kx_BadRatio : PySem.W.keepIn K (.ref C_BadRatio) = true) (ix_BadRatio : PySem.W.findIn K (.ref C_BadRatio) "__init__" = some (some (.ref fI_BadRatio))) (ux_BadRatio : PySem.W.typeIn K (.ref fI_BadRatio) = some (.type "function"))
    (fx_BadRatio : K.lookup fI_BadRatio = some ⟨oc_BadRatio, od_BadRatio, .func (fnC "__init__" "BadRatio.__init__" s_BadRatio__init__ cc_BadRatio cda_BadRatio kV_BadRatio doc_BadRatio pm_BadRatio an_BadRatio ct_BadRatio), osl_BadRatio⟩) (cx_BadRatio : PySem.W.codeIn K (.ref cda_BadRatio) "BadRatio.__init__" = true) (dx_BadRatio : K.lookup cda_BadRatio = some ⟨ccl_BadRatio, cdd_BadRatio, .fields vs_BadRatio, ccs_BadRatio⟩) (d2_BadRatio : vs_BadRatio[2]? = some (.str file_BadRatio tf_BadRatio))
    (d3_BadRatio : ((PySem.Challenge.pw_leastcomplaint_k35_blended_divisions.main.file : Str) == file_BadRatio) = true) (ex_BadRatio : K.lookup cc_BadRatio = some ⟨cl_BadRatio, cld_BadRatio, .cell (some (.ref C_BadRatio)), csl_BadRatio⟩) (px_BadRatio : PySem.W.ks_superIn K C_BadRatio C_BadRatio "__init__" = some (some (.builtin "ValueError.__init__"))) (mx_BadRatio : PySem.W.mroIn K C_BadRatio (.ref C_BadRatio) = some true) (vx_BadRatio : PySem.W.subIn K (.ref C_BadRatio) (.type "ValueError") = some true)
    (ox_BadRatio : PySem.W.excInitIn K C_BadRatio [.type "ValueError", .type "Exception", .type "BaseException", .type "object"] "ValueError.__new__" = true)
    (nx_BadRatio : PySem.W.findIn K (.ref C_BadRatio) "bottom" = some none)
    {fI_BadShares cc_BadShares cda_BadShares N_BadShares : Addr} {nm_BadShares qq_BadShares : Str} {bs_BadShares bm_BadShares : List Value} {sn_BadShares : List Str} {sub_BadShares : List Value} {ab_BadShares : Bool} {col_BadShares : Option Bool} {dd_BadShares : Option Addr} {k0_BadShares k1_BadShares k2_BadShares k3_BadShares k5_BadShares : Option Value} {kV_BadShares doc_BadShares pm_BadShares ct_BadShares oc_BadShares ccl_BadShares cl_BadShares : Value} {an_BadShares od_BadShares cdd_BadShares cld_BadShares : Option Addr} {osl_BadShares ccs_BadShares csl_BadShares : Array (Option Value)} {vs_BadShares : Array Value} {file_BadShares : Str} {tf_BadShares : Tok}
    (lx_BadShares : K.lookup C_BadShares = some (excClassObj nm_BadShares qq_BadShares C_BadShares N_BadShares bs_BadShares bm_BadShares true sn_BadShares sub_BadShares ab_BadShares col_BadShares dd_BadShares k0_BadShares k1_BadShares k2_BadShares k3_BadShares k5_BadShares "ValueError.__new__")) (rx_BadShares : PySem.HandSPX.refsVE bm_BadShares = true) (sx_BadShares : PySem.W.findIn K (.ref C_BadShares) "__setattr__" = some (some (.builtin "object.__setattr__")))
    (bx_BadShares : PySem.W.subIn K (.ref C_BadShares) (.type "BaseException") = some true) (tx_BadShares : PySem.W.typeIn K (.ref C_BadShares) = some (.type "type")) (kx_BadShares : PySem.W.keepIn K (.ref C_BadShares) = true) (ix_BadShares : PySem.W.findIn K (.ref C_BadShares) "__init__" = some (some (.ref fI_BadShares))) (ux_BadShares : PySem.W.typeIn K (.ref fI_BadShares) = some (.type "function"))
    (fx_BadShares : K.lookup fI_BadShares = some ⟨oc_BadShares, od_BadShares, .func (fnC "__init__" "BadShares.__init__" s_BadShares__init__ cc_BadShares cda_BadShares kV_BadShares doc_BadShares pm_BadShares an_BadShares ct_BadShares), osl_BadShares⟩) (cx_BadShares : PySem.W.codeIn K (.ref cda_BadShares) "BadShares.__init__" = true) (dx_BadShares : K.lookup cda_BadShares = some ⟨ccl_BadShares, cdd_BadShares, .fields vs_BadShares, ccs_BadShares⟩) (d2_BadShares : vs_BadShares[2]? = some (.str file_BadShares tf_BadShares))
    (d3_BadShares : ((PySem.Challenge.pw_leastcomplaint_k35_blended_divisions.main.file : Str) == file_BadShares) = true) (ex_BadShares : K.lookup cc_BadShares = some ⟨cl_BadShares, cld_BadShares, .cell (some (.ref C_BadShares)), csl_BadShares⟩) (px_BadShares : PySem.W.ks_superIn K C_BadShares C_BadShares "__init__" = some (some (.builtin "ValueError.__init__"))) (mx_BadShares : PySem.W.mroIn K C_BadShares (.ref C_BadShares) = some true) (vx_BadShares : PySem.W.subIn K (.ref C_BadShares) (.type "ValueError") = some true)
    (ox_BadShares : PySem.W.excInitIn K C_BadShares [.type "ValueError", .type "Exception", .type "BaseException", .type "object"] "ValueError.__new__" = true)
    {fI_Mismatch cc_Mismatch cda_Mismatch N_Mismatch : Addr} {nm_Mismatch qq_Mismatch : Str} {bs_Mismatch bm_Mismatch : List Value} {sn_Mismatch : List Str} {sub_Mismatch : List Value} {ab_Mismatch : Bool} {col_Mismatch : Option Bool} {dd_Mismatch : Option Addr} {k0_Mismatch k1_Mismatch k2_Mismatch k3_Mismatch k5_Mismatch : Option Value} {kV_Mismatch doc_Mismatch pm_Mismatch ct_Mismatch oc_Mismatch ccl_Mismatch cl_Mismatch : Value} {an_Mismatch od_Mismatch cdd_Mismatch cld_Mismatch : Option Addr} {osl_Mismatch ccs_Mismatch csl_Mismatch : Array (Option Value)} {vs_Mismatch : Array Value} {file_Mismatch : Str} {tf_Mismatch : Tok}
    (lx_Mismatch : K.lookup C_Mismatch = some (excClassObj nm_Mismatch qq_Mismatch C_Mismatch N_Mismatch bs_Mismatch bm_Mismatch true sn_Mismatch sub_Mismatch ab_Mismatch col_Mismatch dd_Mismatch k0_Mismatch k1_Mismatch k2_Mismatch k3_Mismatch k5_Mismatch "ValueError.__new__")) (rx_Mismatch : PySem.HandSPX.refsVE bm_Mismatch = true) (sx_Mismatch : PySem.W.findIn K (.ref C_Mismatch) "__setattr__" = some (some (.builtin "object.__setattr__")))
    (bx_Mismatch : PySem.W.subIn K (.ref C_Mismatch) (.type "BaseException") = some true) (tx_Mismatch : PySem.W.typeIn K (.ref C_Mismatch) = some (.type "type")) (kx_Mismatch : PySem.W.keepIn K (.ref C_Mismatch) = true) (ix_Mismatch : PySem.W.findIn K (.ref C_Mismatch) "__init__" = some (some (.ref fI_Mismatch))) (ux_Mismatch : PySem.W.typeIn K (.ref fI_Mismatch) = some (.type "function"))
    (fx_Mismatch : K.lookup fI_Mismatch = some ⟨oc_Mismatch, od_Mismatch, .func (fnC "__init__" "Mismatch.__init__" s_Mismatch__init__ cc_Mismatch cda_Mismatch kV_Mismatch doc_Mismatch pm_Mismatch an_Mismatch ct_Mismatch), osl_Mismatch⟩) (cx_Mismatch : PySem.W.codeIn K (.ref cda_Mismatch) "Mismatch.__init__" = true) (dx_Mismatch : K.lookup cda_Mismatch = some ⟨ccl_Mismatch, cdd_Mismatch, .fields vs_Mismatch, ccs_Mismatch⟩) (d2_Mismatch : vs_Mismatch[2]? = some (.str file_Mismatch tf_Mismatch))
    (d3_Mismatch : ((PySem.Challenge.pw_leastcomplaint_k35_blended_divisions.main.file : Str) == file_Mismatch) = true) (ex_Mismatch : K.lookup cc_Mismatch = some ⟨cl_Mismatch, cld_Mismatch, .cell (some (.ref C_Mismatch)), csl_Mismatch⟩) (px_Mismatch : PySem.W.ks_superIn K C_Mismatch C_Mismatch "__init__" = some (some (.builtin "ValueError.__init__"))) (mx_Mismatch : PySem.W.mroIn K C_Mismatch (.ref C_Mismatch) = some true) (vx_Mismatch : PySem.W.subIn K (.ref C_Mismatch) (.type "ValueError") = some true)
    (ox_Mismatch : PySem.W.excInitIn K C_Mismatch [.type "ValueError", .type "Exception", .type "BaseException", .type "object"] "ValueError.__new__" = true)
    {fI_NotDivision cc_NotDivision cda_NotDivision N_NotDivision : Addr} {nm_NotDivision qq_NotDivision : Str} {bs_NotDivision bm_NotDivision : List Value} {sn_NotDivision : List Str} {sub_NotDivision : List Value} {ab_NotDivision : Bool} {col_NotDivision : Option Bool} {dd_NotDivision : Option Addr} {k0_NotDivision k1_NotDivision k2_NotDivision k3_NotDivision k5_NotDivision : Option Value} {kV_NotDivision doc_NotDivision pm_NotDivision ct_NotDivision oc_NotDivision ccl_NotDivision cl_NotDivision : Value} {an_NotDivision od_NotDivision cdd_NotDivision cld_NotDivision : Option Addr} {osl_NotDivision ccs_NotDivision csl_NotDivision : Array (Option Value)} {vs_NotDivision : Array Value} {file_NotDivision : Str} {tf_NotDivision : Tok}
    (lx_NotDivision : K.lookup C_NotDivision = some (excClassObj nm_NotDivision qq_NotDivision C_NotDivision N_NotDivision bs_NotDivision bm_NotDivision true sn_NotDivision sub_NotDivision ab_NotDivision col_NotDivision dd_NotDivision k0_NotDivision k1_NotDivision k2_NotDivision k3_NotDivision k5_NotDivision "ValueError.__new__")) (rx_NotDivision : PySem.HandSPX.refsVE bm_NotDivision = true) (sx_NotDivision : PySem.W.findIn K (.ref C_NotDivision) "__setattr__" = some (some (.builtin "object.__setattr__")))
    (bx_NotDivision : PySem.W.subIn K (.ref C_NotDivision) (.type "BaseException") = some true) (tx_NotDivision : PySem.W.typeIn K (.ref C_NotDivision) = some (.type "type")) (kx_NotDivision : PySem.W.keepIn K (.ref C_NotDivision) = true) (ix_NotDivision : PySem.W.findIn K (.ref C_NotDivision) "__init__" = some (some (.ref fI_NotDivision))) (ux_NotDivision : PySem.W.typeIn K (.ref fI_NotDivision) = some (.type "function"))
    (fx_NotDivision : K.lookup fI_NotDivision = some ⟨oc_NotDivision, od_NotDivision, .func (fnC "__init__" "NotDivision.__init__" s_NotDivision__init__ cc_NotDivision cda_NotDivision kV_NotDivision doc_NotDivision pm_NotDivision an_NotDivision ct_NotDivision), osl_NotDivision⟩) (cx_NotDivision : PySem.W.codeIn K (.ref cda_NotDivision) "NotDivision.__init__" = true) (dx_NotDivision : K.lookup cda_NotDivision = some ⟨ccl_NotDivision, cdd_NotDivision, .fields vs_NotDivision, ccs_NotDivision⟩) (d2_NotDivision : vs_NotDivision[2]? = some (.str file_NotDivision tf_NotDivision))
    (d3_NotDivision : ((PySem.Challenge.pw_leastcomplaint_k35_blended_divisions.main.file : Str) == file_NotDivision) = true) (ex_NotDivision : K.lookup cc_NotDivision = some ⟨cl_NotDivision, cld_NotDivision, .cell (some (.ref C_NotDivision)), csl_NotDivision⟩) (px_NotDivision : PySem.W.ks_superIn K C_NotDivision C_NotDivision "__init__" = some (some (.builtin "ValueError.__init__"))) (mx_NotDivision : PySem.W.mroIn K C_NotDivision (.ref C_NotDivision) = some true) (vx_NotDivision : PySem.W.subIn K (.ref C_NotDivision) (.type "ValueError") = some true)
    (ox_NotDivision : PySem.W.excInitIn K C_NotDivision [.type "ValueError", .type "Exception", .type "BaseException", .type "object"] "ValueError.__new__" = true)
    (em_BadShares_BadRatio : PySem.W.exmOne K (.ref C_BadRatio) (.ref C_BadShares) = some false)
    (em_BadShares_BadShares : PySem.W.exmOne K (.ref C_BadShares) (.ref C_BadShares) = some true)
    (em_BadShares_DivisionError : PySem.W.exmOne K (.ref C_DivisionError) (.ref C_BadShares) = some false)
    (em_BadShares_Mismatch : PySem.W.exmOne K (.ref C_Mismatch) (.ref C_BadShares) = some false)
    (em_BadShares_NotDivision : PySem.W.exmOne K (.ref C_NotDivision) (.ref C_BadShares) = some false)
    (em_Mismatch_BadRatio : PySem.W.exmOne K (.ref C_BadRatio) (.ref C_Mismatch) = some false)
    (em_Mismatch_BadShares : PySem.W.exmOne K (.ref C_BadShares) (.ref C_Mismatch) = some false)
    (em_Mismatch_DivisionError : PySem.W.exmOne K (.ref C_DivisionError) (.ref C_Mismatch) = some false)
    (em_Mismatch_Mismatch : PySem.W.exmOne K (.ref C_Mismatch) (.ref C_Mismatch) = some true)
    (em_Mismatch_NotDivision : PySem.W.exmOne K (.ref C_NotDivision) (.ref C_Mismatch) = some false)
    (em_NotDivision_BadRatio : PySem.W.exmOne K (.ref C_BadRatio) (.ref C_NotDivision) = some false)
    (em_NotDivision_BadShares : PySem.W.exmOne K (.ref C_BadShares) (.ref C_NotDivision) = some false)
    (em_NotDivision_DivisionError : PySem.W.exmOne K (.ref C_DivisionError) (.ref C_NotDivision) = some false)
    (em_NotDivision_Mismatch : PySem.W.exmOne K (.ref C_Mismatch) (.ref C_NotDivision) = some false)
    (em_NotDivision_NotDivision : PySem.W.exmOne K (.ref C_NotDivision) (.ref C_NotDivision) = some true)
    {ug_MOST_PLAYERS : Value} (hg_MOST_PLAYERS : PySem.W.nsIn K mainGlobals "MOST_PLAYERS" = some (some ug_MOST_PLAYERS)) (rg_MOST_PLAYERS : RelV (.int 5 : V) ug_MOST_PLAYERS)
    {Tg_NOTHING : Addr} {og_NOTHING : Obj} {ng_NOTHING : Nat} {ug_NOTHING_0 ug_NOTHING_1 : Value} (hg_NOTHING : PySem.W.nsIn K mainGlobals "NOTHING" = some (some (.ref Tg_NOTHING))) (lg_NOTHING : K.lookup Tg_NOTHING = some og_NOTHING) (cg_NOTHING : og_NOTHING.cls = .type "tuple") (dg_NOTHING : og_NOTHING.data = .seq [ug_NOTHING_0, ug_NOTHING_1].toArray ng_NOTHING) (rg_NOTHING_0 : RelV (.int 0 : V) ug_NOTHING_0) (rg_NOTHING_1 : RelV (.int 1 : V) ug_NOTHING_1)
    : ∃ fd : FuncData, (∀ (s : Shared) (v : Value), BindsTo s fd ⟨[v], []⟩ [("_law_script", v)]) ∧ ∀ base : Heap, K.In base → base.Ns mainGlobals mg → FnOk PySem.Challenge.pw_leastcomplaint_k35_blended_divisions w K mg base CX0 9 fa fd ["_law_script"] (lift K fun ds m R => m_law ds m R NoX) := by
  have e := hfa.symm.trans (PySem.W.mg_of X G a30)
  cases e
  have mz_abs := PySem.W.mg_none_of X G z0
  have mz_all := PySem.W.mg_none_of X G z1
  have mz_any := PySem.W.mg_none_of X G z2
  have mz_bool := PySem.W.mg_none_of X G z3
  have mz_int := PySem.W.mg_none_of X G z4
  have mz_isinstance := PySem.W.mg_none_of X G z5
  have mz_len := PySem.W.mg_none_of X G z6
  have mz_list := PySem.W.mg_none_of X G z7
  have mz_max := PySem.W.mg_none_of X G z8
  have mz_min := PySem.W.mg_none_of X G z9
  have mz_range := PySem.W.mg_none_of X G z10
  have mz_sorted := PySem.W.mg_none_of X G z11
  have mz_sum := PySem.W.mg_none_of X G z12
  have mz_tuple := PySem.W.mg_none_of X G z13
  have mz_zip := PySem.W.mg_none_of X G z14
  have mg_BadRatio := PySem.W.mg_of X G ax_BadRatio
  have mg_BadShares := PySem.W.mg_of X G ax_BadShares
  have mg_DivisionError := PySem.W.mg_of X G ax_DivisionError
  have mg_Mismatch := PySem.W.mg_of X G ax_Mismatch
  have mg_NotDivision := PySem.W.mg_of X G ax_NotDivision
  have mz_super := PySem.W.mg_none_of X G zsup
  have Z_BadRatio : XIn PySem.Challenge.pw_leastcomplaint_k35_blended_divisions K mg C_BadRatio fI_BadRatio cc_BadRatio cda_BadRatio "BadRatio.__init__" _ := xin_mk (st := s_BadRatio__init__) lx_BadRatio rx_BadRatio sx_BadRatio bx_BadRatio tx_BadRatio kx_BadRatio ix_BadRatio ux_BadRatio fx_BadRatio cx_BadRatio dx_BadRatio d2_BadRatio d3_BadRatio ex_BadRatio px_BadRatio mx_BadRatio vx_BadRatio zq ox_BadRatio mz_super (by decide +kernel)
  have x_BadRatio : XK1 PySem.Challenge.pw_leastcomplaint_k35_blended_divisions w K mg "BadRatio" "bottom" C_BadRatio := xk1_mk mg_BadRatio Z_BadRatio (sf := "self") (par := "bottom") (f := "bottom") ⟨rfl, rfl, rfl, rfl, ⟨_, rfl, rfl⟩, show ∀ x ∈ (defScope s_BadRatio__init__).names, x.2 ≠ .cell by decide +kernel, rfl, rfl⟩ ⟨_, fun L => rfl⟩ rfl (by decide) nx_BadRatio (by decide) (by decide) (fun L => rfl) rfl (fun _ _ _ => .of_eq rfl)
  have Z_BadShares : XIn PySem.Challenge.pw_leastcomplaint_k35_blended_divisions K mg C_BadShares fI_BadShares cc_BadShares cda_BadShares "BadShares.__init__" _ := xin_mk (st := s_BadShares__init__) lx_BadShares rx_BadShares sx_BadShares bx_BadShares tx_BadShares kx_BadShares ix_BadShares ux_BadShares fx_BadShares cx_BadShares dx_BadShares d2_BadShares d3_BadShares ex_BadShares px_BadShares mx_BadShares vx_BadShares zq ox_BadShares mz_super (by decide +kernel)
  have x_BadShares : XK0 PySem.Challenge.pw_leastcomplaint_k35_blended_divisions w K mg "BadShares" C_BadShares := xk0_mk mg_BadShares Z_BadShares (sf := "self") ⟨rfl, rfl, rfl, rfl, ⟨_, rfl, rfl⟩, show ∀ x ∈ (defScope s_BadShares__init__).names, x.2 ≠ .cell by decide +kernel, rfl, rfl⟩ ⟨_, fun L => rfl⟩ rfl (fun _ _ => .of_eq rfl)
  have Z_Mismatch : XIn PySem.Challenge.pw_leastcomplaint_k35_blended_divisions K mg C_Mismatch fI_Mismatch cc_Mismatch cda_Mismatch "Mismatch.__init__" _ := xin_mk (st := s_Mismatch__init__) lx_Mismatch rx_Mismatch sx_Mismatch bx_Mismatch tx_Mismatch kx_Mismatch ix_Mismatch ux_Mismatch fx_Mismatch cx_Mismatch dx_Mismatch d2_Mismatch d3_Mismatch ex_Mismatch px_Mismatch mx_Mismatch vx_Mismatch zq ox_Mismatch mz_super (by decide +kernel)
  have x_Mismatch : XK0 PySem.Challenge.pw_leastcomplaint_k35_blended_divisions w K mg "Mismatch" C_Mismatch := xk0_mk mg_Mismatch Z_Mismatch (sf := "self") ⟨rfl, rfl, rfl, rfl, ⟨_, rfl, rfl⟩, show ∀ x ∈ (defScope s_Mismatch__init__).names, x.2 ≠ .cell by decide +kernel, rfl, rfl⟩ ⟨_, fun L => rfl⟩ rfl (fun _ _ => .of_eq rfl)
  have Z_NotDivision : XIn PySem.Challenge.pw_leastcomplaint_k35_blended_divisions K mg C_NotDivision fI_NotDivision cc_NotDivision cda_NotDivision "NotDivision.__init__" _ := xin_mk (st := s_NotDivision__init__) lx_NotDivision rx_NotDivision sx_NotDivision bx_NotDivision tx_NotDivision kx_NotDivision ix_NotDivision ux_NotDivision fx_NotDivision cx_NotDivision dx_NotDivision d2_NotDivision d3_NotDivision ex_NotDivision px_NotDivision mx_NotDivision vx_NotDivision zq ox_NotDivision mz_super (by decide +kernel)
  have x_NotDivision : XK0 PySem.Challenge.pw_leastcomplaint_k35_blended_divisions w K mg "NotDivision" C_NotDivision := xk0_mk mg_NotDivision Z_NotDivision (sf := "self") ⟨rfl, rfl, rfl, rfl, ⟨_, rfl, rfl⟩, show ∀ x ∈ (defScope s_NotDivision__init__).names, x.2 ≠ .cell by decide +kernel, rfl, rfl⟩ ⟨_, fun L => rfl⟩ rfl (fun _ _ => .of_eq rfl)
  have c_BadShares : ∃ Cc, mg "BadShares" = some (.ref Cc) := ⟨_, mg_BadShares⟩
  have xm_BadShares : ∀ q ∈ ([("BadRatio", false), ("BadShares", true), ("DivisionError", false), ("Mismatch", false), ("NotDivision", false)] : List (Str × Bool)), XM K mg q.1 "BadShares" q.2 := by
    intro q hq
    simp only [List.mem_cons, List.not_mem_nil, or_false] at hq
    rcases hq with rfl | rfl | rfl | rfl | rfl
    · exact ⟨_, _, mg_BadRatio, mg_BadShares, em_BadShares_BadRatio⟩
    · exact ⟨_, _, mg_BadShares, mg_BadShares, em_BadShares_BadShares⟩
    · exact ⟨_, _, mg_DivisionError, mg_BadShares, em_BadShares_DivisionError⟩
    · exact ⟨_, _, mg_Mismatch, mg_BadShares, em_BadShares_Mismatch⟩
    · exact ⟨_, _, mg_NotDivision, mg_BadShares, em_BadShares_NotDivision⟩
  have c_Mismatch : ∃ Cc, mg "Mismatch" = some (.ref Cc) := ⟨_, mg_Mismatch⟩
  have xm_Mismatch : ∀ q ∈ ([("BadRatio", false), ("BadShares", false), ("DivisionError", false), ("Mismatch", true), ("NotDivision", false)] : List (Str × Bool)), XM K mg q.1 "Mismatch" q.2 := by
    intro q hq
    simp only [List.mem_cons, List.not_mem_nil, or_false] at hq
    rcases hq with rfl | rfl | rfl | rfl | rfl
    · exact ⟨_, _, mg_BadRatio, mg_Mismatch, em_Mismatch_BadRatio⟩
    · exact ⟨_, _, mg_BadShares, mg_Mismatch, em_Mismatch_BadShares⟩
    · exact ⟨_, _, mg_DivisionError, mg_Mismatch, em_Mismatch_DivisionError⟩
    · exact ⟨_, _, mg_Mismatch, mg_Mismatch, em_Mismatch_Mismatch⟩
    · exact ⟨_, _, mg_NotDivision, mg_Mismatch, em_Mismatch_NotDivision⟩
  have c_NotDivision : ∃ Cc, mg "NotDivision" = some (.ref Cc) := ⟨_, mg_NotDivision⟩
  have xm_NotDivision : ∀ q ∈ ([("BadRatio", false), ("BadShares", false), ("DivisionError", false), ("Mismatch", false), ("NotDivision", true)] : List (Str × Bool)), XM K mg q.1 "NotDivision" q.2 := by
    intro q hq
    simp only [List.mem_cons, List.not_mem_nil, or_false] at hq
    rcases hq with rfl | rfl | rfl | rfl | rfl
    · exact ⟨_, _, mg_BadRatio, mg_NotDivision, em_NotDivision_BadRatio⟩
    · exact ⟨_, _, mg_BadShares, mg_NotDivision, em_NotDivision_BadShares⟩
    · exact ⟨_, _, mg_DivisionError, mg_NotDivision, em_NotDivision_DivisionError⟩
    · exact ⟨_, _, mg_Mismatch, mg_NotDivision, em_NotDivision_Mismatch⟩
    · exact ⟨_, _, mg_NotDivision, mg_NotDivision, em_NotDivision_NotDivision⟩
  have h_MOST_PLAYERS : GC K mg "MOST_PLAYERS" g_MOST_PLAYERS := ⟨_, _, PySem.W.mg_of X G hg_MOST_PLAYERS, rg_MOST_PLAYERS, fun F => .int _⟩
  have h_NOTHING : GC K mg "NOTHING" g_NOTHING := ⟨.ref Tg_NOTHING, _, PySem.W.mg_of X G hg_NOTHING, rfl, fun F => .tup (.inr ⟨_, _, _, lg_NOTHING, cg_NOTHING, dg_NOTHING, (by show 2 ≤ sizeLine; decide), (.cons rg_NOTHING_0 (.cons rg_NOTHING_1 .nil))⟩) (.cons (.int _) (.cons (.int _) .nil))⟩
  have F0 := fnD_mk (st := s_law_pool) l0 c0 k0
  have F1 := fnD_mk (st := s_law_take) l1 c1 k1
  have F2 := fnD_mk (st := s_law_shares) l2 c2 k2
  have F3 := fnD_mk (st := s_law_divisor) l3 c3 k3
  have F4 := fnD_mk (st := s_law_ratio) l4 c4 k4
  have F5 := fnD_mk (st := s_law_plus) l5 c5 k5
  have F6 := fnD_mk (st := s_law_is_number) l6 c6 k6
  have F7 := fnD_mk (st := s_law_is_ratio) l7 c7 k7
  have F8 := fnD_mk (st := s_law_due) l8 c8 k8
  have F9 := fnD_mk (st := s_is_integer) l9 c9 k9
  have F10 := fnD_mk (st := s_are_integers) l10 c10 k10
  have F11 := fnD_mk (st := s_are_shares) l11 c11 k11
  have F12 := fnD_mk (st := s_divisor) l12 c12 k12
  have F13 := fnD_mk1 (st := s_ratio) l13 c13 k13 lT13 oTd13 rT13_0
  have F14 := fnD_mk (st := s_plus) l14 c14 k14
  have F15 := fnD_mk (st := s_is_ratio) l15 c15 k15
  have F16 := fnD_mk (st := s_are_ratios) l16 c16 k16
  have F17 := fnD_mk (st := s_times) l17 c17 k17
  have F18 := fnD_mk (st := s_blended) l18 c18 k18
  have F19 := fnD_mk (st := s_law_told) l19 c19 k19
  have F20 := fnD_mk (st := s_law_few) l20 c20 k20
  have F21 := fnD_mk (st := s_law_groups) l21 c21 k21
  have F22 := fnD_mk (st := s_law_total) l22 c22 k22
  have F23 := fnD_mk (st := s_law_is_division) l23 c23 k23
  have F24 := fnD_mk (st := s_law_amount) l24 c24 k24
  have F25 := fnD_mk (st := s_law_complaint) l25 c25 k25
  have F26 := fnD_mk (st := s_law_calm_for) l26 c26 k26
  have F27 := fnD_mk (st := s_law_weights_of) l27 c27 k27
  have F28 := fnD_mk (st := s_law_minus) l28 c28 k28
  have F29 := fnD_mk (st := s_law_calm_blends) l29 c29 k29
  have F30 := fun_mk (st := s_law) l30 c30 k30
  refine ⟨PySem.W.fnOf "law" "law" (defArgs s_law) (defBody s_law) (defScope s_law) .none kV30 dc30 pm30 an30 cd30 ct30, fun s v => .of_eq rfl, fun base _ _ => ?_⟩
  have K_law_pool : KnowsX PySem.Challenge.pw_leastcomplaint_k35_blended_divisions w K mg base 1 "_law_pool" 1 [] m_law_pool := knows0 (ok_law_pool (k := 0) F0 (by decide) mz_list) (PySem.W.mg_of X G a0) k0 (F0.bindsN fun _ _ _ _ _ _ us hl => match us, hl with | [_], _ => rfl)
  have K_law_take : KnowsX PySem.Challenge.pw_leastcomplaint_k35_blended_divisions w K mg base 1 "_law_take" 2 [] m_law_take := knows0 (ok_law_take (k := 0) F1 (by decide) mz_int mz_len mz_max) (PySem.W.mg_of X G a1) k1 (F1.bindsN fun _ _ _ _ _ _ us hl => match us, hl with | [_, _], _ => rfl)
  have K_law_shares : KnowsX PySem.Challenge.pw_leastcomplaint_k35_blended_divisions w K mg base 2 "_law_shares" 2 [] m_law_shares := knows0 (ok_law_shares (k := 1) F2 (by decide) mz_range (K_law_take.mono (by decide))) (PySem.W.mg_of X G a2) k2 (F2.bindsN fun _ _ _ _ _ _ us hl => match us, hl with | [_, _], _ => rfl)
  have K_law_divisor : KnowsX PySem.Challenge.pw_leastcomplaint_k35_blended_divisions w K mg base 1 "_law_divisor" 1 [] m_law_divisor := knows0 (ok_law_divisor (k := 0) F3 (by decide) mz_abs mz_int) (PySem.W.mg_of X G a3) k3 (F3.bindsN fun _ _ _ _ _ _ us hl => match us, hl with | [_], _ => rfl)
  have K_law_ratio : KnowsX PySem.Challenge.pw_leastcomplaint_k35_blended_divisions w K mg base 2 "_law_ratio" 2 [] m_law_ratio := knows0 (ok_law_ratio (k := 1) F4 (by decide) (K_law_divisor.mono (by decide))) (PySem.W.mg_of X G a4) k4 (F4.bindsN fun _ _ _ _ _ _ us hl => match us, hl with | [_, _], _ => rfl)
  have K_law_plus : KnowsX PySem.Challenge.pw_leastcomplaint_k35_blended_divisions w K mg base 3 "_law_plus" 2 [] m_law_plus := knows0 (ok_law_plus (k := 2) F5 (by decide) (K_law_ratio.mono (by decide))) (PySem.W.mg_of X G a5) k5 (F5.bindsN fun _ _ _ _ _ _ us hl => match us, hl with | [_, _], _ => rfl)
  have K_law_is_number : KnowsX PySem.Challenge.pw_leastcomplaint_k35_blended_divisions w K mg base 1 "_law_is_number" 1 [] m_law_is_number := knows0 (ok_law_is_number (k := 0) F6 (by decide) mz_bool mz_int mz_isinstance) (PySem.W.mg_of X G a6) k6 (F6.bindsN fun _ _ _ _ _ _ us hl => match us, hl with | [_], _ => rfl)
  have K_law_is_ratio : KnowsX PySem.Challenge.pw_leastcomplaint_k35_blended_divisions w K mg base 2 "_law_is_ratio" 1 [] m_law_is_ratio := knows0 (ok_law_is_ratio (k := 1) F7 (by decide) mz_isinstance mz_len mz_tuple (K_law_divisor.mono (by decide)) (K_law_is_number.mono (by decide))) (PySem.W.mg_of X G a7) k7 (F7.bindsN fun _ _ _ _ _ _ us hl => match us, hl with | [_], _ => rfl)
  have K_law_due : KnowsX PySem.Challenge.pw_leastcomplaint_k35_blended_divisions w K mg base 4 "_law_due" 2 [] m_law_due := knows0 (ok_law_due (k := 3) F8 (by decide) mz_len mz_range mz_sum (K_law_is_number.mono (by decide)) (K_law_is_ratio.mono (by decide)) (K_law_plus.mono (by decide)) (K_law_ratio.mono (by decide))) (PySem.W.mg_of X G a8) k8 (F8.bindsN fun _ _ _ _ _ _ us hl => match us, hl with | [_, _], _ => rfl)
  have K_is_integer : KnowsX PySem.Challenge.pw_leastcomplaint_k35_blended_divisions w K mg base 1 "is_integer" 1 [] m_is_integer := knows0 (ok_is_integer (k := 0) F9 (by decide) mz_bool mz_int mz_isinstance) (PySem.W.mg_of X G a9) k9 (F9.bindsN fun _ _ _ _ _ _ us hl => match us, hl with | [_], _ => rfl)
  have K_are_integers : KnowsX PySem.Challenge.pw_leastcomplaint_k35_blended_divisions w K mg base 2 "are_integers" 1 [] m_are_integers := knows0 (ok_are_integers (k := 1) F10 (by decide) mz_all mz_isinstance mz_list mz_tuple (K_is_integer.mono (by decide))) (PySem.W.mg_of X G a10) k10 (F10.bindsN fun _ _ _ _ _ _ us hl => match us, hl with | [_], _ => rfl)
  have K_are_shares : KnowsX PySem.Challenge.pw_leastcomplaint_k35_blended_divisions w K mg base 3 "are_shares" 2 [] m_are_shares := knows0 (ok_are_shares (k := 2) F11 (by decide) mz_all mz_len mz_sum (K_are_integers.mono (by decide))) (PySem.W.mg_of X G a11) k11 (F11.bindsN fun _ _ _ _ _ _ us hl => match us, hl with | [_, _], _ => rfl)
  have K_divisor : KnowsX PySem.Challenge.pw_leastcomplaint_k35_blended_divisions w K mg base 1 "divisor" 1 [] m_divisor := knows0 (ok_divisor (k := 0) F12 (by decide) mz_abs) (PySem.W.mg_of X G a12) k12 (F12.bindsN fun _ _ _ _ _ _ us hl => match us, hl with | [_], _ => rfl)
  have K_ratio : KnowsX PySem.Challenge.pw_leastcomplaint_k35_blended_divisions w K mg base 2 "ratio" 2 [] m_ratio := knowsD (ok_ratio (k := 1) F13 (by decide) (K_divisor.mono (by decide)) x_BadRatio) (PySem.W.mg_of X G a13) k13 (F13.binds1 2 1 (by simp) rfl fun _ _ _ _ _ _ _ us its hl hi => match us, its, hl, hi with | [_, _], [_], _, _ => ⟨_, rfl, rfl⟩) (fun _ => .nil)
  have K_ratio_d1 : KnowsX PySem.Challenge.pw_leastcomplaint_k35_blended_divisions w K mg base 2 "ratio" 2 [.int 1] m_ratio := knowsD (ok_ratio (k := 1) F13 (by decide) (K_divisor.mono (by decide)) x_BadRatio) (PySem.W.mg_of X G a13) k13 (F13.binds1 1 0 (by simp) rfl fun _ _ _ _ _ _ _ us its hl hi => match us, its, hl, hi with | [_], [_], _, _ => ⟨_, rfl, rfl⟩) (fun _ => (.cons (.int _) .nil))
  have K_plus : KnowsX PySem.Challenge.pw_leastcomplaint_k35_blended_divisions w K mg base 3 "plus" 2 [] m_plus := knows0 (ok_plus (k := 2) F14 (by decide) (K_ratio.mono (by decide))) (PySem.W.mg_of X G a14) k14 (F14.bindsN fun _ _ _ _ _ _ us hl => match us, hl with | [_, _], _ => rfl)
  have K_is_ratio : KnowsX PySem.Challenge.pw_leastcomplaint_k35_blended_divisions w K mg base 3 "is_ratio" 1 [] m_is_ratio := knows0 (ok_is_ratio (k := 2) F15 (by decide) mz_isinstance mz_len mz_tuple (K_are_integers.mono (by decide)) (K_divisor.mono (by decide))) (PySem.W.mg_of X G a15) k15 (F15.bindsN fun _ _ _ _ _ _ us hl => match us, hl with | [_], _ => rfl)
  have K_are_ratios : KnowsX PySem.Challenge.pw_leastcomplaint_k35_blended_divisions w K mg base 4 "are_ratios" 1 [] m_are_ratios := knows0 (ok_are_ratios (k := 3) F16 (by decide) mz_all mz_isinstance mz_len mz_list mz_tuple (K_is_ratio.mono (by decide)) h_MOST_PLAYERS) (PySem.W.mg_of X G a16) k16 (F16.bindsN fun _ _ _ _ _ _ us hl => match us, hl with | [_], _ => rfl)
  have K_times : KnowsX PySem.Challenge.pw_leastcomplaint_k35_blended_divisions w K mg base 3 "times" 2 [] m_times := knows0 (ok_times (k := 2) F17 (by decide) (K_ratio.mono (by decide))) (PySem.W.mg_of X G a17) k17 (F17.bindsN fun _ _ _ _ _ _ us hl => match us, hl with | [_, _], _ => rfl)
  have K_blended : KnowsX PySem.Challenge.pw_leastcomplaint_k35_blended_divisions w K mg base 5 "blended" 2 [] m_blended := knows0 (ok_blended (k := 4) F18 (by decide) mz_all mz_any mz_len mz_sum mz_zip (K_are_ratios.mono (by decide)) (K_are_shares.mono (by decide)) (K_plus.mono (by decide)) (K_ratio.mono (by decide)) (K_times.mono (by decide)) x_BadShares x_Mismatch x_NotDivision h_NOTHING) (PySem.W.mg_of X G a18) k18 (F18.bindsN fun _ _ _ _ _ _ us hl => match us, hl with | [_, _], _ => rfl)
  have K_law_told : KnowsX PySem.Challenge.pw_leastcomplaint_k35_blended_divisions w K mg base 6 "_law_told" 2 [] m_law_told := knows0 (ok_law_told (k := 5) F19 (by decide) (K_blended.mono (by decide)) c_BadShares xm_BadShares c_Mismatch xm_Mismatch c_NotDivision xm_NotDivision) (PySem.W.mg_of X G a19) k19 (F19.bindsN fun _ _ _ _ _ _ us hl => match us, hl with | [_, _], _ => rfl)
  have K_law_few : KnowsX PySem.Challenge.pw_leastcomplaint_k35_blended_divisions w K mg base 2 "_law_few" 1 [] m_law_few := knows0 (ok_law_few (k := 1) F20 (by decide) mz_int (K_law_take.mono (by decide))) (PySem.W.mg_of X G a20) k20 (F20.bindsN fun _ _ _ _ _ _ us hl => match us, hl with | [_], _ => rfl)
  have K_law_groups : KnowsX PySem.Challenge.pw_leastcomplaint_k35_blended_divisions w K mg base 1 "_law_groups" 1 [] m_law_groups := knows0 (ok_law_groups (k := 0) F21 (by decide) mz_range mz_sorted) (PySem.W.mg_of X G a21) k21 (F21.bindsN fun _ _ _ _ _ _ us hl => match us, hl with | [_], _ => rfl)
  have K_law_total : KnowsX PySem.Challenge.pw_leastcomplaint_k35_blended_divisions w K mg base 4 "_law_total" 1 [] m_law_total := knows0 (ok_law_total (k := 3) F22 (by decide) (K_law_plus.mono (by decide))) (PySem.W.mg_of X G a22) k22 (F22.bindsN fun _ _ _ _ _ _ us hl => match us, hl with | [_], _ => rfl)
  have K_law_is_division : KnowsX PySem.Challenge.pw_leastcomplaint_k35_blended_divisions w K mg base 5 "_law_is_division" 3 [] m_law_is_division := knows0 (ok_law_is_division (k := 4) F23 (by decide) mz_all mz_isinstance mz_len mz_list mz_range mz_tuple (K_law_is_ratio.mono (by decide)) (K_law_total.mono (by decide))) (PySem.W.mg_of X G a23) k23 (F23.bindsN fun _ _ _ _ _ _ us hl => match us, hl with | [_, _, _], _ => rfl)
  have K_law_amount : KnowsX PySem.Challenge.pw_leastcomplaint_k35_blended_divisions w K mg base 5 "_law_amount" 2 [] m_law_amount := knows0 (ok_law_amount (k := 4) F24 (by decide) (K_law_total.mono (by decide))) (PySem.W.mg_of X G a24) k24 (F24.bindsN fun _ _ _ _ _ _ us hl => match us, hl with | [_, _], _ => rfl)
  have K_law_complaint : KnowsX PySem.Challenge.pw_leastcomplaint_k35_blended_divisions w K mg base 6 "_law_complaint" 3 [] m_law_complaint := knows0 (ok_law_complaint (k := 5) F25 (by decide) (K_law_amount.mono (by decide)) (K_law_ratio.mono (by decide))) (PySem.W.mg_of X G a25) k25 (F25.bindsN fun _ _ _ _ _ _ us hl => match us, hl with | [_, _, _], _ => rfl)
  have K_law_calm_for : KnowsX PySem.Challenge.pw_leastcomplaint_k35_blended_divisions w K mg base 7 "_law_calm_for" 4 [] m_law_calm_for := knows0 (ok_law_calm_for (k := 6) F26 (by decide) (K_law_complaint.mono (by decide)) (K_law_is_division.mono (by decide))) (PySem.W.mg_of X G a26) k26 (F26.bindsN fun _ _ _ _ _ _ us hl => match us, hl with | [_, _, _, _], _ => rfl)
  have K_law_weights_of : KnowsX PySem.Challenge.pw_leastcomplaint_k35_blended_divisions w K mg base 2 "_law_weights_of" 1 [] m_law_weights_of := knows0 (ok_law_weights_of (k := 1) F27 (by decide) (K_law_take.mono (by decide))) (PySem.W.mg_of X G a27) k27 (F27.bindsN fun _ _ _ _ _ _ us hl => match us, hl with | [_], _ => rfl)
  have K_law_minus : KnowsX PySem.Challenge.pw_leastcomplaint_k35_blended_divisions w K mg base 3 "_law_minus" 2 [] m_law_minus := knows0 (ok_law_minus (k := 2) F28 (by decide) (K_law_ratio.mono (by decide))) (PySem.W.mg_of X G a28) k28 (F28.bindsN fun _ _ _ _ _ _ us hl => match us, hl with | [_, _], _ => rfl)
  have K_law_calm_blends : KnowsX PySem.Challenge.pw_leastcomplaint_k35_blended_divisions w K mg base 8 "_law_calm_blends" 1 [] m_law_calm_blends := knows0 (ok_law_calm_blends (k := 7) F29 (by decide) mz_min mz_range (K_law_amount.mono (by decide)) (K_law_calm_for.mono (by decide)) (K_law_few.mono (by decide)) (K_law_groups.mono (by decide)) (K_law_minus.mono (by decide)) (K_law_ratio.mono (by decide)) (K_law_take.mono (by decide)) (K_law_total.mono (by decide)) (K_law_weights_of.mono (by decide)) (K_blended.mono (by decide))) (PySem.W.mg_of X G a29) k29 (F29.bindsN fun _ _ _ _ _ _ us hl => match us, hl with | [_], _ => rfl)
  exact ok_law (k := 8) F30 (by decide) mz_int mz_isinstance mz_list mz_range mz_tuple (K_law_calm_blends.mono (by decide)) (K_law_due.mono (by decide)) (K_law_pool.mono (by decide)) (K_law_ratio.mono (by decide)) (K_law_shares.mono (by decide)) (K_law_take.mono (by decide)) (K_law_told.mono (by decide)) (K_blended.mono (by decide))
end K35
open PySem PySem.W PyProof.Rows
set_option maxHeartbeats 0 in
theorem PySem.Challenge.cw_leastcomplaint_k35_blended_divisions_holds : PySem.Challenge.rw_leastcomplaint_k35_blended_divisions.Holds := by
  w_on; o_law; k_head; (case hw => w_witness2)
  k_fill
  refine L2.walk_of (l := PySem.Challenge.rw_leastcomplaint_k35_blended_divisions) (n := 63) (k := 9) (x := "_law_script") (CX := fun _ => L2.CX0) (sp := fun w => DL.lift _ fun ds m R => K35.m_law ds m R DL.NoX) rfl (by decide) rfl ⟨rfl, by decide, by decide⟩ (fun w h Y => PySem.W.kIn_of Y) ?F (fun _ H a ns hl _ hS => DL.law_start hS fun R hR => K35.main_law ns hl R hR) (fun _ _ _ _ _ h => h)
  case F =>
    intro w mg fa h KX G hmg
    refine' K35.all_mk KX G hmg ?a0 ?l0 ?c0 ?k0 ?a1 ?l1 ?c1 ?k1 ?a2 ?l2 ?c2 ?k2 ?a3 ?l3 ?c3 ?k3 ?a4 ?l4 ?c4 ?k4 ?a5 ?l5 ?c5 ?k5 ?a6 ?l6 ?c6 ?k6 ?a7 ?l7 ?c7 ?k7 ?a8 ?l8 ?c8 ?k8 ?a9 ?l9 ?c9 ?k9 ?a10 ?l10 ?c10 ?k10 ?a11 ?l11 ?c11 ?k11 ?a12 ?l12 ?c12 ?k12 ?a13 ?l13 ?c13 ?k13 ?lT13 ?oTd13 ?rT13_0 ?a14 ?l14 ?c14 ?k14 ?a15 ?l15 ?c15 ?k15 ?a16 ?l16 ?c16 ?k16 ?a17 ?l17 ?c17 ?k17 ?a18 ?l18 ?c18 ?k18 ?a19 ?l19 ?c19 ?k19 ?a20 ?l20 ?c20 ?k20 ?a21 ?l21 ?c21 ?k21 ?a22 ?l22 ?c22 ?k22 ?a23 ?l23 ?c23 ?k23 ?a24 ?l24 ?c24 ?k24 ?a25 ?l25 ?c25 ?k25 ?a26 ?l26 ?c26 ?k26 ?a27 ?l27 ?c27 ?k27 ?a28 ?l28 ?c28 ?k28 ?a29 ?l29 ?c29 ?k29 ?a30 ?l30 ?c30 ?k30 ?z0 ?z1 ?z2 ?z3 ?z4 ?z5 ?z6 ?z7 ?z8 ?z9 ?z10 ?z11 ?z12 ?z13 ?z14 ?ax_BadRatio ?ax_BadShares ?ax_DivisionError ?ax_Mismatch ?ax_NotDivision ?zsup ?zq ?lx_BadRatio ?rx_BadRatio ?sx_BadRatio ?bx_BadRatio ?tx_BadRatio ?kx_BadRatio ?ix_BadRatio ?ux_BadRatio ?fx_BadRatio ?cx_BadRatio ?dx_BadRatio ?d2_BadRatio ?d3_BadRatio ?ex_BadRatio ?px_BadRatio ?mx_BadRatio ?vx_BadRatio ?ox_BadRatio ?nx_BadRatio ?lx_BadShares ?rx_BadShares ?sx_BadShares ?bx_BadShares ?tx_BadShares ?kx_BadShares ?ix_BadShares ?ux_BadShares ?fx_BadShares ?cx_BadShares ?dx_BadShares ?d2_BadShares ?d3_BadShares ?ex_BadShares ?px_BadShares ?mx_BadShares ?vx_BadShares ?ox_BadShares ?lx_Mismatch ?rx_Mismatch ?sx_Mismatch ?bx_Mismatch ?tx_Mismatch ?kx_Mismatch ?ix_Mismatch ?ux_Mismatch ?fx_Mismatch ?cx_Mismatch ?dx_Mismatch ?d2_Mismatch ?d3_Mismatch ?ex_Mismatch ?px_Mismatch ?mx_Mismatch ?vx_Mismatch ?ox_Mismatch ?lx_NotDivision ?rx_NotDivision ?sx_NotDivision ?bx_NotDivision ?tx_NotDivision ?kx_NotDivision ?ix_NotDivision ?ux_NotDivision ?fx_NotDivision ?cx_NotDivision ?dx_NotDivision ?d2_NotDivision ?d3_NotDivision ?ex_NotDivision ?px_NotDivision ?mx_NotDivision ?vx_NotDivision ?ox_NotDivision ?em_BadShares_BadRatio ?em_BadShares_BadShares ?em_BadShares_DivisionError ?em_BadShares_Mismatch ?em_BadShares_NotDivision ?em_Mismatch_BadRatio ?em_Mismatch_BadShares ?em_Mismatch_DivisionError ?em_Mismatch_Mismatch ?em_Mismatch_NotDivision ?em_NotDivision_BadRatio ?em_NotDivision_BadShares ?em_NotDivision_DivisionError ?em_NotDivision_Mismatch ?em_NotDivision_NotDivision ?hg_MOST_PLAYERS ?rg_MOST_PLAYERS ?hg_NOTHING ?lg_NOTHING ?cg_NOTHING ?dg_NOTHING ?rg_NOTHING_0 ?rg_NOTHING_1
    (case a0 => k_is)
    (case l0 => k_is)
    (case c0 => k_is)
    (case k0 => k_is)
    (case a1 => k_is)
    (case l1 => k_is)
    (case c1 => k_is)
    (case k1 => k_is)
    (case a2 => k_is)
    (case l2 => k_is)
    (case c2 => k_is)
    (case k2 => k_is)
    (case a3 => k_is)
    (case l3 => k_is)
    (case c3 => k_is)
    (case k3 => k_is)
    (case a4 => k_is)
    (case l4 => k_is)
    (case c4 => k_is)
    (case k4 => k_is)
    (case a5 => k_is)
    (case l5 => k_is)
    (case c5 => k_is)
    (case k5 => k_is)
    (case a6 => k_is)
    (case l6 => k_is)
    (case c6 => k_is)
    (case k6 => k_is)
    (case a7 => k_is)
    (case l7 => k_is)
    (case c7 => k_is)
    (case k7 => k_is)
    (case a8 => k_is)
    (case l8 => k_is)
    (case c8 => k_is)
    (case k8 => k_is)
    (case a9 => k_is)
    (case l9 => k_is)
    (case c9 => k_is)
    (case k9 => k_is)
    (case a10 => k_is)
    (case l10 => k_is)
    (case c10 => k_is)
    (case k10 => k_is)
    (case a11 => k_is)
    (case l11 => k_is)
    (case c11 => k_is)
    (case k11 => k_is)
    (case a12 => k_is)
    (case l12 => k_is)
    (case c12 => k_is)
    (case k12 => k_is)
    (case a13 => k_is)
    (case l13 => k_is)
    (case c13 => k_is)
    (case k13 => k_is)
    (case lT13 => k_is)
    (case oTd13 => exact rfl)
    (case rT13_0 => exact ⟨_, rfl⟩)
    (case a14 => k_is)
    (case l14 => k_is)
    (case c14 => k_is)
    (case k14 => k_is)
    (case a15 => k_is)
    (case l15 => k_is)
    (case c15 => k_is)
    (case k15 => k_is)
    (case a16 => k_is)
    (case l16 => k_is)
    (case c16 => k_is)
    (case k16 => k_is)
    (case a17 => k_is)
    (case l17 => k_is)
    (case c17 => k_is)
    (case k17 => k_is)
    (case a18 => k_is)
    (case l18 => k_is)
    (case c18 => k_is)
    (case k18 => k_is)
    (case a19 => k_is)
    (case l19 => k_is)
    (case c19 => k_is)
    (case k19 => k_is)
    (case a20 => k_is)
    (case l20 => k_is)
    (case c20 => k_is)
    (case k20 => k_is)
    (case a21 => k_is)
    (case l21 => k_is)
    (case c21 => k_is)
    (case k21 => k_is)
    (case a22 => k_is)
    (case l22 => k_is)
    (case c22 => k_is)
    (case k22 => k_is)
    (case a23 => k_is)
    (case l23 => k_is)
    (case c23 => k_is)
    (case k23 => k_is)
    (case a24 => k_is)
    (case l24 => k_is)
    (case c24 => k_is)
    (case k24 => k_is)
    (case a25 => k_is)
    (case l25 => k_is)
    (case c25 => k_is)
    (case k25 => k_is)
    (case a26 => k_is)
    (case l26 => k_is)
    (case c26 => k_is)
    (case k26 => k_is)
    (case a27 => k_is)
    (case l27 => k_is)
    (case c27 => k_is)
    (case k27 => k_is)
    (case a28 => k_is)
    (case l28 => k_is)
    (case c28 => k_is)
    (case k28 => k_is)
    (case a29 => k_is)
    (case l29 => k_is)
    (case c29 => k_is)
    (case k29 => k_is)
    (case a30 => k_is)
    (case l30 => k_is)
    (case c30 => k_is)
    (case k30 => k_is)
    (case z0 => k_is)
    (case z1 => k_is)
    (case z2 => k_is)
    (case z3 => k_is)
    (case z4 => k_is)
    (case z5 => k_is)
    (case z6 => k_is)
    (case z7 => k_is)
    (case z8 => k_is)
    (case z9 => k_is)
    (case z10 => k_is)
    (case z11 => k_is)
    (case z12 => k_is)
    (case z13 => k_is)
    (case z14 => k_is)
    (case ax_BadRatio => k_is)
    (case ax_BadShares => k_is)
    (case ax_DivisionError => k_is)
    (case ax_Mismatch => k_is)
    (case ax_NotDivision => k_is)
    (case zsup => k_is)
    (case zq => k_is)
    (case lx_BadRatio => k_is)
    (case rx_BadRatio => first | exact rfl | decide +kernel)
    (case sx_BadRatio => k_is)
    (case bx_BadRatio => k_is)
    (case tx_BadRatio => k_is)
    (case kx_BadRatio => k_is)
    (case ix_BadRatio => k_is)
    (case ux_BadRatio => k_is)
    (case fx_BadRatio => k_is)
    (case cx_BadRatio => k_is)
    (case dx_BadRatio => k_is)
    (case d2_BadRatio => exact rfl)
    (case d3_BadRatio => first | exact rfl | decide +kernel)
    (case ex_BadRatio => k_is)
    (case px_BadRatio => first | k_is | kernel_rfl | exact rfl)
    (case mx_BadRatio => first | k_is | kernel_rfl | exact rfl)
    (case vx_BadRatio => k_is)
    (case ox_BadRatio => first | k_is | kernel_rfl | exact rfl)
    (case nx_BadRatio => k_is)
    (case lx_BadShares => k_is)
    (case rx_BadShares => first | exact rfl | decide +kernel)
    (case sx_BadShares => k_is)
    (case bx_BadShares => k_is)
    (case tx_BadShares => k_is)
    (case kx_BadShares => k_is)
    (case ix_BadShares => k_is)
    (case ux_BadShares => k_is)
    (case fx_BadShares => k_is)
    (case cx_BadShares => k_is)
    (case dx_BadShares => k_is)
    (case d2_BadShares => exact rfl)
    (case d3_BadShares => first | exact rfl | decide +kernel)
    (case ex_BadShares => k_is)
    (case px_BadShares => first | k_is | kernel_rfl | exact rfl)
    (case mx_BadShares => first | k_is | kernel_rfl | exact rfl)
    (case vx_BadShares => k_is)
    (case ox_BadShares => first | k_is | kernel_rfl | exact rfl)
    (case lx_Mismatch => k_is)
    (case rx_Mismatch => first | exact rfl | decide +kernel)
    (case sx_Mismatch => k_is)
    (case bx_Mismatch => k_is)
    (case tx_Mismatch => k_is)
    (case kx_Mismatch => k_is)
    (case ix_Mismatch => k_is)
    (case ux_Mismatch => k_is)
    (case fx_Mismatch => k_is)
    (case cx_Mismatch => k_is)
    (case dx_Mismatch => k_is)
    (case d2_Mismatch => exact rfl)
    (case d3_Mismatch => first | exact rfl | decide +kernel)
    (case ex_Mismatch => k_is)
    (case px_Mismatch => first | k_is | kernel_rfl | exact rfl)
    (case mx_Mismatch => first | k_is | kernel_rfl | exact rfl)
    (case vx_Mismatch => k_is)
    (case ox_Mismatch => first | k_is | kernel_rfl | exact rfl)
    (case lx_NotDivision => k_is)
    (case rx_NotDivision => first | exact rfl | decide +kernel)
    (case sx_NotDivision => k_is)
    (case bx_NotDivision => k_is)
    (case tx_NotDivision => k_is)
    (case kx_NotDivision => k_is)
    (case ix_NotDivision => k_is)
    (case ux_NotDivision => k_is)
    (case fx_NotDivision => k_is)
    (case cx_NotDivision => k_is)
    (case dx_NotDivision => k_is)
    (case d2_NotDivision => exact rfl)
    (case d3_NotDivision => first | exact rfl | decide +kernel)
    (case ex_NotDivision => k_is)
    (case px_NotDivision => first | k_is | kernel_rfl | exact rfl)
    (case mx_NotDivision => first | k_is | kernel_rfl | exact rfl)
    (case vx_NotDivision => k_is)
    (case ox_NotDivision => first | k_is | kernel_rfl | exact rfl)
    (case em_BadShares_BadRatio => first | k_is | kernel_rfl | exact rfl)
    (case em_BadShares_BadShares => first | k_is | kernel_rfl | exact rfl)
    (case em_BadShares_DivisionError => first | k_is | kernel_rfl | exact rfl)
    (case em_BadShares_Mismatch => first | k_is | kernel_rfl | exact rfl)
    (case em_BadShares_NotDivision => first | k_is | kernel_rfl | exact rfl)
    (case em_Mismatch_BadRatio => first | k_is | kernel_rfl | exact rfl)
    (case em_Mismatch_BadShares => first | k_is | kernel_rfl | exact rfl)
    (case em_Mismatch_DivisionError => first | k_is | kernel_rfl | exact rfl)
    (case em_Mismatch_Mismatch => first | k_is | kernel_rfl | exact rfl)
    (case em_Mismatch_NotDivision => first | k_is | kernel_rfl | exact rfl)
    (case em_NotDivision_BadRatio => first | k_is | kernel_rfl | exact rfl)
    (case em_NotDivision_BadShares => first | k_is | kernel_rfl | exact rfl)
    (case em_NotDivision_DivisionError => first | k_is | kernel_rfl | exact rfl)
    (case em_NotDivision_Mismatch => first | k_is | kernel_rfl | exact rfl)
    (case em_NotDivision_NotDivision => first | k_is | kernel_rfl | exact rfl)
    (case hg_MOST_PLAYERS => k_is)
    (case rg_MOST_PLAYERS => exact ⟨_, rfl⟩)
    (case hg_NOTHING => k_is)
    (case lg_NOTHING => k_is)
    (case cg_NOTHING => exact rfl)
    (case dg_NOTHING => exact rfl)
    (case rg_NOTHING_0 => exact ⟨_, rfl⟩)
    (case rg_NOTHING_1 => exact ⟨_, rfl⟩)


