import PyProof.Rows.All
import Wide.All
import OpenK.AllK
import Wide.FinOn
import HandS.ForMost
import HandS.ForExc
import HandS.Walk
import HandS.Zip
import HandS.Wide
import HandS.IsInst
import HandS.Flow
import KE.DataEq
import PySem.Challenge.RW_leastcomplaint_k34_lists_in_order
set_option Elab.async false
set_option linter.all false
set_option maxRecDepth 100000
set_option maxHeartbeats 4000000
namespace DL
open PySem PySem.Spec PyProof.Rows L2

/-- data: what a value stands for -/
inductive D where
  | non | bl (b : Bool) | int (i : Int) | str (x : Str) | ty (n : String)
  | lst (xs : List D) | tup (xs : List D) | lsk (xs : List D)
  | dT (ks : List (List Key)) (vs : List D) | dK (ks : List Key) (vs : List D)
  | obj (C : Addr) (ns : List Str) (vs : List D)
  | ref (a : Addr)

abbrev Frag := PySem.W.Frag

mutual
inductive Den (K : Frag) (F : Hp) : V → D → Prop
  | non : Den K F .non .non
  | bl (b : Bool) : Den K F (.bl b) (.bl b)
  | int (i : Int) : Den K F (.int i) (.int i)
  | str (x : Str) : Den K F (.str x) (.str x)
  | ty (n : String) : Den K F (.ty n) (.ty n)
  | lst {a : Addr} {xs : List V} {ds : List D} : Rd F a (.lst xs) → Dens K F xs ds → Den K F (.ref a) (.lst ds)
  | tup {a : Addr} {xs : List V} {ds : List D} : SqT K F a xs → Dens K F xs ds → Den K F (.ref a) (.tup ds)
  | lsk {a : Addr} {xs : List V} {ds : List D} : SqL K F a xs → Dens K F xs ds → Den K F (.ref a) (.lsk ds)
  | dT {a : Addr} {o : Obj} {kvs : List (List Key × V)} {ks : List (List Key)} {ds : List D} : F a = some (.frz o (.dT kvs)) → kvs.map (·.1) = ks → Dens K F (kvs.map (·.2)) ds → Den K F (.ref a) (.dT ks ds)
  | dK {a : Addr} {o : Obj} {kvs : List (Key × V)} {ks : List Key} {ds : List D} : F a = some (.frz o (.dK kvs)) → kvs.map (·.1) = ks → Dens K F (kvs.map (·.2)) ds → Den K F (.ref a) (.dK ks ds)
  | obj {a C dx : Addr} {fs : List (Str × V)} {ns : List Str} {ds : List D} : F a = some (.ins C dx fs) → fs.map (·.1) = ns → Dens K F (fs.map (·.2)) ds → Den K F (.ref a) (.obj C ns ds)
  | ref (a : Addr) : Den K F (.ref a) (.ref a)
inductive Dens (K : Frag) (F : Hp) : List V → List D → Prop
  | nil : Dens K F [] []
  | cons {v : V} {vs : List V} {d : D} {ds : List D} : Den K F v d → Dens K F vs ds → Dens K F (v :: vs) (d :: ds)
end

def Ex (H H' : Hp) : Prop := ∀ a o, H a = some o → H' a = some o
theorem Ex.refl (H : Hp) : Ex H H := fun _ _ h => h
theorem Ex.trans {H H1 H2 : Hp} (a : Ex H H1) (b : Ex H1 H2) : Ex H H2 := fun x o h => b x o (a x o h)
theorem Ex.new {H : Hp} {p : Addr} {o : HO} (h : H p = none) : Ex H (upd H p o) := fun a u e => by
  rw [upd_ne (ne_of_none e h)]
  exact e
theorem Ex.rd {H H' : Hp} {a : Addr} {u : HO} (e : Ex H H') (h : Rd H a u) : Rd H' a u := by
  rcases h with h | ⟨o, h⟩
  · exact .inl (e a _ h)
  · exact .inr ⟨o, e a _ h⟩
theorem Ex.sqL {K : Frag} {H H' : Hp} {a : Addr} {xs : List V} (e : Ex H H') (h : SqL K H a xs) : SqL K H' a xs := by
  rcases h with h | h
  · exact .inl (e.rd h)
  · exact .inr h
theorem Ex.sqT {K : Frag} {H H' : Hp} {a : Addr} {xs : List V} (e : Ex H H') (h : SqT K H a xs) : SqT K H' a xs := by
  rcases h with h | h
  · exact .inl (e.rd h)
  · exact .inr h
theorem Ex.free {H H' : Hp} {p : Addr} (e : Ex H H') (h : H' p = none) : H p = none := by
  cases h1 : H p with
  | none => rfl
  | some o => rw [e p o h1] at h; cases h

mutual
theorem Den.mono {K : Frag} {F F' : Hp} (e : Ex F F') : ∀ {v : V} {d : D}, Den K F v d → Den K F' v d
  | _, _, .non => .non
  | _, _, .bl b => .bl b
  | _, _, .int i => .int i
  | _, _, .str x => .str x
  | _, _, .ty n => .ty n
  | _, _, .lst h hs => .lst (e.rd h) (Dens.mono e hs)
  | _, _, .tup h hs => .tup (e.sqT h) (Dens.mono e hs)
  | _, _, .lsk h hs => .lsk (e.sqL h) (Dens.mono e hs)
  | _, _, .dT h hk hs => .dT (e _ _ h) hk (Dens.mono e hs)
  | _, _, .dK h hk hs => .dK (e _ _ h) hk (Dens.mono e hs)
  | _, _, .obj h hk hs => .obj (e _ _ h) hk (Dens.mono e hs)
  | _, _, .ref a => .ref a
theorem Dens.mono {K : Frag} {F F' : Hp} (e : Ex F F') : ∀ {vs : List V} {ds : List D}, Dens K F vs ds → Dens K F' vs ds
  | _, _, .nil => .nil
  | _, _, .cons h hs => .cons (Den.mono e h) (Dens.mono e hs)
end
section
variable {K : Frag} {F : Hp}
theorem Dens.length : ∀ {vs : List V} {ds : List D}, Dens K F vs ds → vs.length = ds.length
  | _, _, .nil => rfl
  | _, _, .cons _ hs => by rw [List.length_cons, List.length_cons, Dens.length hs]
theorem Dens.get : ∀ {vs : List V} {ds : List D} {i : Nat} {d : D}, Dens K F vs ds → ds[i]? = some d → ∃ v, vs[i]? = some v ∧ Den K F v d
  | _, _, _, _, .nil, e => by simp at e
  | _, _, 0, _, .cons h _, e => by simp at e; subst e; exact ⟨_, rfl, h⟩
  | _, _, i + 1, d, .cons _ hs, e => by
    obtain ⟨v, h1, h2⟩ := Dens.get (i := i) (d := d) hs (by simpa using e)
    exact ⟨v, by simpa using h1, h2⟩
theorem Dens.getV : ∀ {vs : List V} {ds : List D} {i : Nat} {v : V}, Dens K F vs ds → vs[i]? = some v → ∃ d, ds[i]? = some d ∧ Den K F v d
  | _, _, _, _, .nil, e => by simp at e
  | _, _, 0, _, .cons h _, e => by simp at e; subst e; exact ⟨_, rfl, h⟩
  | _, _, i + 1, v, .cons _ hs, e => by
    obtain ⟨d, h1, h2⟩ := Dens.getV (i := i) (v := v) hs (by simpa using e)
    exact ⟨d, by simpa using h1, h2⟩
theorem Dens.append : ∀ {vs ws : List V} {ds es : List D}, Dens K F vs ds → Dens K F ws es → Dens K F (vs ++ ws) (ds ++ es)
  | _, _, _, _, .nil, s => s
  | _, _, _, _, .cons h t, s => .cons h (Dens.append t s)
theorem Dens.snoc {vs : List V} {ds : List D} {v : V} {d : D} (h : Dens K F vs ds) (h1 : Den K F v d) : Dens K F (vs ++ [v]) (ds ++ [d]) := h.append (.cons h1 .nil)
theorem Dens.set : ∀ {vs : List V} {ds : List D} {v : V} {d : D} (i : Nat), Dens K F vs ds → Den K F v d → Dens K F (vs.set i v) (ds.set i d)
  | _, _, _, _, _, .nil, _ => .nil
  | _, _, _, _, 0, .cons _ t, h => .cons h t
  | _, _, _, _, i + 1, .cons q t, h => .cons q (Dens.set i t h)
theorem Dens.take : ∀ {vs : List V} {ds : List D} (n : Nat), Dens K F vs ds → Dens K F (vs.take n) (ds.take n)
  | _, _, 0, _ => .nil
  | _, _, _ + 1, .nil => .nil
  | _, _, n + 1, .cons r t => .cons r (Dens.take n t)
theorem Dens.drop : ∀ {vs : List V} {ds : List D} (n : Nat), Dens K F vs ds → Dens K F (vs.drop n) (ds.drop n)
  | _, _, 0, r => r
  | _, _, _ + 1, .nil => .nil
  | _, _, n + 1, .cons _ t => Dens.drop n t
theorem Dens.ints : ∀ {ns : List Int} {vs : List V}, Dens K F vs (ns.map D.int) → vs = ns.map V.int
  | [], _, .nil => rfl
  | n :: ns, _, .cons (.int _) t => by rw [Dens.ints t]; rfl
theorem Dens.of_ints : ∀ {ns : List Int}, Dens K F (ns.map V.int) (ns.map D.int)
  | [] => .nil
  | n :: ns => .cons (.int n) Dens.of_ints
theorem Dens.bls : ∀ {bs : List Bool} {vs : List V}, Dens K F vs (bs.map D.bl) → vs = bs.map V.bl
  | [], _, .nil => rfl
  | b :: bs, _, .cons (.bl _) t => by rw [Dens.bls t]; rfl
theorem Dens.strs : ∀ {bs : List Str} {vs : List V}, Dens K F vs (bs.map D.str) → vs = bs.map V.str
  | [], _, .nil => rfl
  | b :: bs, _, .cons (.str _) t => by rw [Dens.strs t]; rfl
theorem Dens.of_strs : ∀ {ns : List Str}, Dens K F (ns.map V.str) (ns.map D.str)
  | [] => .nil
  | n :: ns => .cons (.str n) Dens.of_strs
end

/-! ### the ledger: objects that may change -/
inductive MO where
  | lst (ds : List D)
  | ins (C dx : Addr) (ns : List Str) (ds : List D)
  | own (x : Addr)
  | dT (ks : List (List Key)) (ds : List D)
  | dK (ks : List Key) (ds : List D)
abbrev Led := List (Addr × MO)
def MDen (K : Frag) (F : Hp) : MO → HO → Prop
  | .lst ds, h => ∃ xs, h = .lst xs ∧ Dens K F xs ds
  | .ins C dx ns ds, h => ∃ fs : List (Str × V), h = .ins C dx fs ∧ fs.map (·.1) = ns ∧ Dens K F (fs.map (·.2)) ds
  | .own x, h => h = .own x
  | .dT ks ds, h => ∃ kvs : List (List Key × V), h = .dT kvs ∧ kvs.map (·.1) = ks ∧ Dens K F (kvs.map (·.2)) ds
  | .dK ks ds, h => ∃ kvs : List (Key × V), h = .dK kvs ∧ kvs.map (·.1) = ks ∧ Dens K F (kvs.map (·.2)) ds
theorem MDen.mono {K : Frag} {F F' : Hp} (e : Ex F F') : ∀ {o : MO} {h : HO}, MDen K F o h → MDen K F' o h
  | .lst _, _, ⟨xs, q, hs⟩ => ⟨xs, q, hs.mono e⟩
  | .ins .., _, ⟨fs, q, k, hs⟩ => ⟨fs, q, k, hs.mono e⟩
  | .own _, _, q => q
  | .dT .., _, ⟨fs, q, k, hs⟩ => ⟨fs, q, k, hs.mono e⟩
  | .dK .., _, ⟨fs, q, k, hs⟩ => ⟨fs, q, k, hs.mono e⟩

abbrev keys (m : Led) : List Addr := m.map (·.1)
structure At (K : Frag) (F : Hp) (m : Led) (H : Hp) : Prop where
  sub : Ex F H
  led : ∀ p ∈ m, ∃ h, MDen K F p.2 h ∧ H p.1 = some h
  dis : ∀ p ∈ m, F p.1 = none
  nod : (keys m).Nodup
structure Step (K : Frag) (F : Hp) (m : Led) (H : Hp) (F2 : Hp) (m2 : Led) (H2 : Hp) : Prop where
  at2 : At K F2 m2 H2
  ex : Ex F F2
  keep : ∀ a o, H a = some o → a ∉ keys m → H2 a = some o
  frF : ∀ a o, F2 a = some o → F a = none → H a = none ∨ a ∈ keys m
  frM : ∀ a ∈ keys m2, a ∈ keys m ∨ H a = none
section
variable {K : Frag} {F F1 F2 H H1 H2 : Hp} {m m1 m2 : Led}
theorem Step.refl (a : At K F m H) : Step K F m H F m H := ⟨a, Ex.refl _, fun _ _ h _ => h, fun a o h n => (by rw [n] at h; cases h), fun _ h => .inl h⟩
theorem Step.trans (a : Step K F m H F1 m1 H1) (b : Step K F1 m1 H1 F2 m2 H2) : Step K F m H F2 m2 H2 := by
  have nk : ∀ x o, H x = some o → x ∉ keys m → x ∉ keys m1 := fun x o h n z => by
    rcases a.frM x z with q | q
    · exact n q
    · rw [h] at q; cases q
  have nn : ∀ x, H1 x = none → H x = none ∨ x ∈ keys m := fun x h => by
    by_cases n : x ∈ keys m
    · exact .inr n
    · left
      cases q : H x with
      | none => rfl
      | some o => rw [a.keep x o q n] at h; cases h
  refine ⟨b.at2, a.ex.trans b.ex, fun x o h n => b.keep x o (a.keep x o h n) (nk x o h n), fun x o h n => ?_, fun x h => ?_⟩
  · cases q : F1 x with
    | some o1 => exact a.frF x o1 q n
    | none =>
      rcases b.frF x o h q with z | z
      · exact nn x z
      · exact (a.frM x z).symm
  · rcases b.frM x h with z | z
    · exact a.frM x z
    · exact (nn x z).symm
/-- a new frozen object -/
theorem Step.new {p : Addr} {o : HO} (a : At K F m H) (h : H p = none) : Step K F m H (upd F p o) m (upd H p o) := by
  have hF : F p = none := a.sub.free h
  have np : p ∉ keys m := fun z => by
    obtain ⟨q, hq, e⟩ := List.mem_map.mp z
    obtain ⟨hh, _, e2⟩ := a.led q hq
    rw [e, h] at e2; cases e2
  refine ⟨⟨fun x u e => ?_, fun q hq => ?_, fun q hq => ?_, a.nod⟩, Ex.new hF, fun x u e _ => by rw [upd_ne (ne_of_none e h)]; exact e, fun x u e n => ?_, fun x h => .inl h⟩
  · by_cases hx : x = p
    · subst hx; rw [upd_same] at e ⊢; exact e
    · rw [upd_ne hx] at e ⊢; exact a.sub x u e
  · obtain ⟨hh, e1, e2⟩ := a.led q hq
    exact ⟨hh, e1.mono (Ex.new hF), by rw [upd_ne (ne_of_none e2 h)]; exact e2⟩
  · have : q.1 ≠ p := fun z => np (z ▸ List.mem_map.mpr ⟨q, hq, rfl⟩)
    rw [upd_ne this]; exact a.dis q hq
  · by_cases hx : x = p
    · subst hx; exact .inl h
    · rw [upd_ne hx, n] at e; cases e
/-- a new object in the ledger -/
theorem Step.newM {p : Addr} {o : HO} {mo : MO} (a : At K F m H) (h : H p = none) (hm : MDen K F mo o) : Step K F m H F (m ++ [(p, mo)]) (upd H p o) := by
  have hF : F p = none := a.sub.free h
  have np : p ∉ keys m := fun z => by
    obtain ⟨q, hq, e⟩ := List.mem_map.mp z
    obtain ⟨hh, _, e2⟩ := a.led q hq
    rw [e, h] at e2; cases e2
  refine ⟨⟨fun x u e => ?_, fun q hq => ?_, fun q hq => ?_, ?_⟩, Ex.refl _, fun x u e _ => by rw [upd_ne (ne_of_none e h)]; exact e, fun x u e n => (by rw [n] at e; cases e), fun x hx => ?_⟩
  · rw [upd_ne (ne_of_none e hF)]; exact a.sub x u e
  · rcases List.mem_append.mp hq with hq | hq
    · obtain ⟨hh, e1, e2⟩ := a.led q hq
      exact ⟨hh, e1, by rw [upd_ne (ne_of_none e2 h)]; exact e2⟩
    · obtain rfl : q = (p, mo) := by simpa using hq
      exact ⟨o, hm, upd_same⟩
  · rcases List.mem_append.mp hq with hq | hq
    · exact a.dis q hq
    · obtain rfl : q = (p, mo) := by simpa using hq
      exact hF
  · show (List.map (·.1) (m ++ [(p, mo)])).Nodup
    rw [List.map_append]
    refine List.nodup_append.mpr ⟨a.nod, by simp, fun x hx y hy => ?_⟩
    obtain rfl : y = p := by simpa using hy
    exact fun z => np (z ▸ hx)
  · have hx' : x ∈ List.map (·.1) (m ++ [(p, mo)]) := hx
    rw [List.map_append] at hx'
    rcases List.mem_append.mp hx' with q | q
    · exact .inl q
    · obtain rfl : x = p := by simpa using q
      exact .inr h
theorem At.get {i : Nat} {p : Addr} {o : MO} (a : At K F m H) (h : m[i]? = some (p, o)) : ∃ hh, MDen K F o hh ∧ H p = some hh := a.led (p, o) (List.mem_of_getElem? h)
theorem keys_set {i : Nat} {p : Addr} {o o' : MO} (h : m[i]? = some (p, o)) : keys (m.set i (p, o')) = keys m := by
  show List.map (·.1) (m.set i (p, o')) = _
  rw [List.map_set]
  apply List.ext_getElem?
  intro j
  by_cases hj : i = j
  · subst hj
    have hl : i < m.length := (List.getElem?_eq_some_iff.mp h).1
    rw [List.getElem?_set_self (by simpa using hl), List.getElem?_map, h]; rfl
  · rw [List.getElem?_set_ne hj]
/-- an object of the ledger written -/
theorem Step.write {i : Nat} {p : Addr} {o o' : MO} {u : HO} (a : At K F m H) (h : m[i]? = some (p, o)) (hm : MDen K F o' u) : Step K F m H F (m.set i (p, o')) (upd H p u) := by
  have hin : (p, o) ∈ m := List.mem_of_getElem? h
  have hF : F p = none := a.dis _ hin
  have pk : p ∈ keys m := List.mem_map.mpr ⟨_, hin, rfl⟩
  have hl : i < m.length := (List.getElem?_eq_some_iff.mp h).1
  have ek := keys_set (o' := o') h
  refine ⟨⟨fun x u e => ?_, fun q hq => ?_, fun q hq => ?_, by rw [ek]; exact a.nod⟩, Ex.refl _, fun x u e n => ?_, fun x u e n => (by rw [n] at e; cases e), fun x hx => .inl (ek ▸ hx)⟩
  · rw [upd_ne (ne_of_none e hF)]; exact a.sub x u e
  · obtain ⟨j, hj⟩ := List.mem_iff_getElem?.mp hq
    by_cases hij : i = j
    · subst hij
      rw [List.getElem?_set_self hl] at hj
      cases hj
      exact ⟨u, hm, upd_same⟩
    · rw [List.getElem?_set_ne hij] at hj
      obtain ⟨hh, e1, e2⟩ := a.led q (List.mem_of_getElem? hj)
      have : q.1 ≠ p := fun z => by
        have k1 : (keys m)[j]? = some p := by rw [List.getElem?_map, hj]; exact congrArg some z
        have k2 : (keys m)[i]? = some p := by rw [List.getElem?_map, h]; rfl
        exact hij (nd_ix a.nod k2 k1)
      exact ⟨hh, e1, by rw [upd_ne this]; exact e2⟩
  · obtain ⟨j, hj⟩ := List.mem_iff_getElem?.mp hq
    by_cases hij : i = j
    · subst hij
      rw [List.getElem?_set_self hl] at hj
      cases hj
      exact hF
    · rw [List.getElem?_set_ne hij] at hj
      exact a.dis q (List.mem_of_getElem? hj)
  · have : x ≠ p := fun z => n (z ▸ pk)
    rw [upd_ne this]; exact e
/-- part of the ledger forgotten -/
theorem Step.drop (a : At K F m H) (h : m2.Sublist m) : Step K F m H F m2 H :=
  ⟨⟨a.sub, fun p hp => a.led p (h.subset hp), fun p hp => a.dis p (h.subset hp), a.nod.sublist (h.map _)⟩, Ex.refl _, fun _ _ e _ => e, fun x u e n => (by rw [n] at e; cases e),
    fun x hx => .inl ((h.map _).subset hx)⟩
/-- a list of the ledger frozen -/
theorem Step.freeze {i : Nat} {p : Addr} {ds : List D} (a : At K F m H) (h : m[i]? = some (p, .lst ds)) : ∃ F2, Step K F m H F2 (m.eraseIdx i) H ∧ Den K F2 (.ref p) (.lst ds) := by
  obtain ⟨hh, ⟨xs, rfl, hs⟩, e⟩ := a.get h
  have hin : (p, MO.lst ds) ∈ m := List.mem_of_getElem? h
  have hF : F p = none := a.dis _ hin
  have sl : (m.eraseIdx i).Sublist m := List.eraseIdx_sublist ..
  refine ⟨upd F p (.lst xs), ⟨⟨fun x u q => ?_, fun q hq => ?_, fun q hq => ?_, a.nod.sublist (sl.map _)⟩, Ex.new hF, fun _ _ e _ => e, fun x u q n => ?_, fun x hx => .inl ((sl.map _).subset hx)⟩, .lst (.inl upd_same) (hs.mono (Ex.new hF))⟩
  · by_cases hx : x = p
    · subst hx; rw [upd_same] at q; cases q; exact e
    · rw [upd_ne hx] at q; exact a.sub x u q
  · obtain ⟨hh, e1, e2⟩ := a.led q (sl.subset hq)
    exact ⟨hh, e1.mono (Ex.new hF), e2⟩
  · have : q.1 ≠ p := fun z => by
      obtain ⟨j, hj⟩ := List.mem_iff_getElem?.mp hq
      rw [List.getElem?_eraseIdx] at hj
      split at hj
      · have k1 : (keys m)[j]? = some p := by rw [List.getElem?_map, hj]; exact congrArg some z
        have k2 : (keys m)[i]? = some p := by rw [List.getElem?_map, h]; rfl
        have := nd_ix a.nod k2 k1
        omega
      · have k1 : (keys m)[j + 1]? = some p := by rw [List.getElem?_map, hj]; exact congrArg some z
        have k2 : (keys m)[i]? = some p := by rw [List.getElem?_map, h]; rfl
        have := nd_ix a.nod k2 k1
        omega
    rw [upd_ne this]; exact a.dis q (sl.subset hq)
  · by_cases hx : x = p
    · subst hx; exact .inr (List.mem_map.mpr ⟨_, hin, rfl⟩)
    · rw [upd_ne hx, n] at q; cases q
end
/-- a list that may be read: frozen or of the ledger -/
def LstV (m : Led) (d : D) (ds : List D) : Prop := d = .lst ds ∨ ∃ (i : Nat) (a : Addr), d = .ref a ∧ m[i]? = some (a, .lst ds)
theorem LstV.read {K : Frag} {F H : Hp} {m : Led} {d : D} {ds : List D} {v : V} (h : LstV m d ds) (a : At K F m H) (q : Den K F v d) : ∃ p xs, v = .ref p ∧ Rd H p (.lst xs) ∧ Dens K F xs ds := by
  rcases h with rfl | ⟨i, p, rfl, hi⟩
  · cases q with
    | lst h hs => exact ⟨_, _, rfl, a.sub.rd h, hs⟩
  · cases q
    obtain ⟨hh, ⟨xs, rfl, hs⟩, e⟩ := a.get hi
    exact ⟨p, xs, rfl, .inl e, hs⟩
theorem tup_read {K : Frag} {F H : Hp} {m : Led} {ds : List D} {v : V} (a : At K F m H) (q : Den K F v (.tup ds)) : ∃ p xs, v = .ref p ∧ SqT K H p xs ∧ Dens K F xs ds := by
  cases q with
  | tup h hs => exact ⟨_, _, rfl, a.sub.sqT h, hs⟩

/-! ### slots -/
abbrev Rho := List (Option D)
structure Envs (K : Frag) (F : Hp) (σ : L2.St) (ρ : Rho) : Prop where
  len : σ.length = ρ.length
  get : ∀ (i : Nat) (d : D), ρ[i]? = some (some d) → ∃ v, σ[i]? = some (some v) ∧ Den K F v d
theorem Envs.mono {K : Frag} {F F' : Hp} {σ : L2.St} {ρ : Rho} (h : Envs K F σ ρ) (e : Ex F F') : Envs K F' σ ρ := ⟨h.len, fun i d q => let ⟨v, a, b⟩ := h.get i d q; ⟨v, a, b.mono e⟩⟩
theorem Envs.set {K : Frag} {F : Hp} {σ : L2.St} {ρ : Rho} {v : V} {d : D} (h : Envs K F σ ρ) (q : Den K F v d) (i : Nat) : Envs K F (σ.set i (some v)) (ρ.set i (some d)) := by
  refine ⟨by simpa using h.len, fun j e hj => ?_⟩
  by_cases hij : i = j
  · subst hij
    by_cases hl : i < ρ.length
    · rw [List.getElem?_set_self hl] at hj
      cases hj
      exact ⟨v, by rw [List.getElem?_set_self (by rw [h.len]; exact hl)], q⟩
    · rw [List.getElem?_eq_none (by simpa using hl)] at hj; cases hj
  · rw [List.getElem?_set_ne hij] at hj ⊢
    exact h.get j e hj
def wipeD (ρ : Rho) : List Nat → Rho
  | [] => ρ
  | v :: vs => (wipeD ρ vs).set v none
theorem Envs.unset {K : Frag} {F : Hp} {σ : L2.St} {ρ : Rho} (h : Envs K F σ ρ) (i : Nat) : Envs K F (σ.set i none) (ρ.set i none) := by
  refine ⟨by simpa using h.len, fun j e hj => ?_⟩
  by_cases hij : i = j
  · subst hij
    by_cases hl : i < ρ.length
    · rw [List.getElem?_set_self hl] at hj; cases hj
    · rw [List.getElem?_eq_none (by simpa using hl)] at hj; cases hj
  · rw [List.getElem?_set_ne hij] at hj ⊢
    exact h.get j e hj
theorem Envs.wipe {K : Frag} {F : Hp} {σ : L2.St} {ρ : Rho} (h : Envs K F σ ρ) : ∀ vs : List Nat, Envs K F (L2.wipe σ vs) (wipeD ρ vs)
  | [] => h
  | v :: vs => (h.wipe vs).unset v
theorem wipe_set_none {σ : L2.St} {j : Nat} : ∀ {vs : List Nat}, j ∈ vs → (L2.wipe σ vs).set j none = L2.wipe σ vs
  | v :: vs, h => by
    show ((L2.wipe σ vs).set v none).set j none = (L2.wipe σ vs).set v none
    by_cases e : v = j
    · subst e; rw [List.set_set]
    · rw [List.set_comm _ _ e]
      have : j ∈ vs := by
        rcases List.mem_cons.mp h with z | z
        · exact absurd z.symm e
        · exact z
      rw [wipe_set_none this]
theorem wipe_wipe {σ : L2.St} : ∀ (ws vs : List Nat), (∀ j ∈ ws, j ∈ vs) → L2.wipe (L2.wipe σ vs) ws = L2.wipe σ vs
  | [], _, _ => rfl
  | w :: ws, vs, h => by
    show (L2.wipe (L2.wipe σ vs) ws).set w none = _
    rw [wipe_wipe ws vs fun j hj => h j (List.mem_cons_of_mem _ hj)]
    exact wipe_set_none (h w List.mem_cons_self)
theorem wipe_set {y : Option V} {j : Nat} : ∀ {σ : L2.St} {vs : List Nat}, j ∈ vs → L2.wipe (σ.set j y) vs = L2.wipe σ vs
  | σ, v :: vs, h => by
    show (L2.wipe (σ.set j y) vs).set v none = (L2.wipe σ vs).set v none
    by_cases e : j ∈ vs
    · rw [wipe_set e]
    · have ej : v = j := by
        rcases List.mem_cons.mp h with z | z
        · exact z.symm
        · exact absurd z e
      subst ej
      have key : ∀ (ws : List Nat) (τ : L2.St), v ∉ ws → L2.wipe (τ.set v y) ws = (L2.wipe τ ws).set v y := by
        intro ws
        induction ws with
        | nil => intro τ _; rfl
        | cons w ws ih =>
          intro τ hn
          show (L2.wipe (τ.set v y) ws).set w none = ((L2.wipe τ ws).set w none).set v y
          rw [ih τ fun z => hn (List.mem_cons_of_mem _ z), List.set_comm]
          exact fun z => hn (z ▸ List.mem_cons_self)
      rw [key vs σ e, List.set_set]
theorem wipe_back {y : Option V} {j : Nat} {σ : L2.St} {vs : List Nat} (h : j ∈ vs) : L2.wipe ((L2.wipe σ vs).set j y) vs = L2.wipe σ vs := by
  rw [wipe_set h, wipe_wipe vs vs fun _ q => q]
end DL

namespace DL
open PySem PySem.Spec PyProof.Rows L2

/-! ### slots by name -/
abbrev Rn := List (Str × Option D)
/-- the slots: names and what they hold -/
structure Env (X : Cx) (F : Hp) (σ : L2.St) (ρ : Rn) : Prop where
  nd : X.N.Nodup
  nm : ρ.map (·.1) = X.N
  ev : Envs X.K F σ (ρ.map (·.2))
inductive LookAt : Rn → Nat → Str → D → Prop
  | here {x : Str} {d : D} {r : Rn} : LookAt ((x, some d) :: r) 0 x d
  | there {x : Str} {d : D} {r : Rn} {q : Str × Option D} {i : Nat} : LookAt r i x d → LookAt (q :: r) (i + 1) x d
inductive SetAt : Rn → Nat → Str → D → Rn → Prop
  | here {x : Str} {d : D} {o : Option D} {r : Rn} : SetAt ((x, o) :: r) 0 x d ((x, some d) :: r)
  | there {x : Str} {d : D} {r r' : Rn} {q : Str × Option D} {i : Nat} : SetAt r i x d r' → SetAt (q :: r) (i + 1) x d (q :: r')
theorem LookAt.get : ∀ {ρ : Rn} {i : Nat} {x : Str} {d : D}, LookAt ρ i x d → ρ[i]? = some (x, some d)
  | _, _, _, _, .here => rfl
  | _, _, _, _, .there h => by rw [List.getElem?_cons_succ]; exact h.get
theorem SetAt.eq : ∀ {ρ ρ' : Rn} {i : Nat} {x : Str} {d : D}, SetAt ρ i x d ρ' → ρ' = ρ.set i (x, some d) ∧ (ρ.map (·.1))[i]? = some x
  | _, _, _, _, _, .here => ⟨rfl, rfl⟩
  | _, _, _, _, _, .there h => by
    obtain ⟨h1, h2⟩ := h.eq
    exact ⟨by rw [List.set_cons_succ, h1], by rw [List.map_cons, List.getElem?_cons_succ]; exact h2⟩
section
variable {X : Cx} {F F' : Hp} {σ : L2.St} {ρ ρ' : Rn} {i : Nat} {x : Str} {d : D}
theorem Env.look (e : Env X F σ ρ) (h : LookAt ρ i x d) : X.N[i]? = some x ∧ ∃ v, σ[i]? = some (some v) ∧ Den X.K F v d := by
  have g := h.get
  refine ⟨by rw [← e.nm, List.getElem?_map, g]; rfl, e.ev.get i d (by rw [List.getElem?_map, g]; rfl)⟩
theorem Env.mono (e : Env X F σ ρ) (h : Ex F F') : Env X F' σ ρ := ⟨e.nd, e.nm, e.ev.mono h⟩
theorem Env.set {v : V} (e : Env X F σ ρ) (h : SetAt ρ i x d ρ') (q : Den X.K F v d) : Env X F (σ.set i (some v)) ρ' := by
  obtain ⟨rfl, hx⟩ := h.eq
  refine ⟨e.nd, ?_, by rw [List.map_set]; exact e.ev.set q i⟩
  rw [List.map_set, ← e.nm]
  apply List.ext_getElem?
  intro j
  by_cases hj : i = j
  · subst hj
    rw [hx, List.getElem?_set_self (List.getElem?_eq_some_iff.mp hx).1]
  · rw [List.getElem?_set_ne hj]
theorem Env.ix (e : Env X F σ ρ) (h : SetAt ρ i x d ρ') : X.N[i]? = some x := by rw [← e.nm]; exact h.eq.2
end

/-! ### what is wanted of code, in the model's own terms -/
def SE (X : Cx) (e : Expr) (σ : L2.St) (H : Hp) (Q : VK) : Prop := ∀ pins s, Inv X pins σ H s → wpAny (model X.prog X.w) X.A (eval e X.env) (EP X pins σ Q) X.xe s
def ST (X : Cx) (e : Expr) (σ : L2.St) (H : Hp) (Q : Bool → Hp → Prop) : Prop := ∀ pins s, Inv X pins σ H s → wpAny (model X.prog X.w) X.A (isTrue e X.env (eval e X.env)) (TP X pins σ Q) X.xe s
def SW (X : Cx) (e : Expr) (σ : L2.St) (H : Hp) (Q : Bool → Hp → Prop) : Prop := ∀ whole pins s, Inv X pins σ H s → wpAny (model X.prog X.w) X.A (isTrue e X.env whole) (TP X pins σ Q) X.xe s
def SA (X : Cx) (es : List Expr) (σ : L2.St) (H : Hp) (Q : List V → Hp → Prop) : Prop := ∀ pos pins s, Inv X pins σ H s → wpAny (model X.prog X.w) X.A (spliced (backTo pos (starEach es X.env))) (AP X pins σ Q) X.xe s
def SS (X : Cx) (st : Stmt) (D : Ends) (σ : L2.St) (H : Hp) : Prop := ∀ pins s, Inv X pins σ H s → wpAny (model X.prog X.w) X.A (exec st X.env) (SP X pins D) X.xe s
def SSs (X : Cx) (st : List Stmt) (D : Ends) (σ : L2.St) (H : Hp) : Prop := ∀ pins s, Inv X pins σ H s → wpAny (model X.prog X.w) X.A (execs st X.env) (SP X pins D) X.xe s
def SI (X : Cx) (tg it : Expr) (σ : L2.St) (H : Hp) (R : It → Hp → Prop) : Prop := ∀ pins s, Inv X pins σ H s →
  wpAny (model X.prog X.w) X.A (eval it X.env) (fun v s1 => wpAny (model X.prog X.w) X.A (pyIter v) (PIE X pins σ tg R) X.xe s1) X.xe s
def SG (X : Cx) (tg : Expr) (v : V) (σ : L2.St) (H : Hp) (Q : L2.St → Hp → Prop) : Prop := ∀ pins s u, Inv X pins σ H s → RelV v u →
  wpAny (model X.prog X.w) X.A (assign tg X.env u) (fun _ s' => ∃ σ' H', Inv X pins σ' H' s' ∧ Q σ' H') X.xe s
section
variable {X : Cx} {e : Expr} {es : List Expr} {st : Stmt} {sts : List Stmt} {σ : L2.St} {H : Hp}
theorem pe_SE : PE X e (SE X e) := ⟨fun pins s σ H Q I h => h pins s I⟩
theorem pt_ST : PT X e (ST X e) := ⟨fun pins s σ H Q I h => h pins s I⟩
theorem pw_SW : PW X e (SW X e) := ⟨fun wh pins s σ H Q I h => h wh pins s I⟩
theorem pa_SA : PA X es (SA X es) := ⟨fun pos pins s σ H Q I h => h pos pins s I⟩
theorem ps_SS : PS X st (SS X st) := ⟨fun pins s σ H D I h => h pins s I⟩
theorem pss_SS : PSs X sts (SSs X sts) := ⟨fun pins s σ H D I h => h pins s I⟩
theorem pi_SI {tg it : Expr} : PI X tg it (SI X tg it) := ⟨fun pins s σ H R I h => h pins s I⟩
theorem pg_SG {tg : Expr} : PG X tg (SG X tg) := ⟨fun pins s σ H v u Q I r h => h pins s u I r⟩
theorem SE.of {t : TE} {Q : VK} (h : PE X e t) (q : t σ H Q) : SE X e σ H Q := fun pins s I => h.run pins s σ H Q I q
theorem ST.of {t : TT} {Q : Bool → Hp → Prop} (h : PT X e t) (q : t σ H Q) : ST X e σ H Q := fun pins s I => h.run pins s σ H Q I q
theorem SW.of {t : TT} {Q : Bool → Hp → Prop} (h : PW X e t) (q : t σ H Q) : SW X e σ H Q := fun wh pins s I => h.run wh pins s σ H Q I q
theorem SA.of {t : TA} {Q : List V → Hp → Prop} (h : PA X es t) (q : t σ H Q) : SA X es σ H Q := fun pos pins s I => h.run pos pins s σ H Q I q
theorem SS.of {t : TS} {D : Ends} (h : PS X st t) (q : t D σ H) : SS X st D σ H := fun pins s I => h.run pins s σ H D I q
theorem SSs.of {t : TS} {D : Ends} (h : PSs X sts t) (q : t D σ H) : SSs X sts D σ H := fun pins s I => h.run pins s σ H D I q
theorem SI.of {tg it : Expr} {t : TI} {R : It → Hp → Prop} (h : PI X tg it t) (q : t σ H R) : SI X tg it σ H R := fun pins s I => h.run pins s σ H R I q
theorem SG.of {tg : Expr} {t : TG} {v : V} {Q : L2.St → Hp → Prop} (h : PG X tg t) (q : t v σ H Q) : SG X tg v σ H Q := fun pins s u I r => h.run pins s σ H v u Q I r q
theorem SE.mono {Q Q' : VK} (h : SE X e σ H Q) (q : ∀ v H', Q v H' → Q' v H') : SE X e σ H Q' := fun pins s I => thn (h pins s I) fun u s' ⟨v, H', I', r, k⟩ => ⟨v, H', I', r, q v H' k⟩
theorem ST.mono {Q Q' : Bool → Hp → Prop} (h : ST X e σ H Q) (q : ∀ v H', Q v H' → Q' v H') : ST X e σ H Q' := fun pins s I => thn (h pins s I) fun u s' ⟨H', I', k⟩ => ⟨H', I', q _ H' k⟩
theorem SW.mono {Q Q' : Bool → Hp → Prop} (h : SW X e σ H Q) (q : ∀ v H', Q v H' → Q' v H') : SW X e σ H Q' := fun wh pins s I => thn (h wh pins s I) fun u s' ⟨H', I', k⟩ => ⟨H', I', q _ H' k⟩
theorem SA.mono {Q Q' : List V → Hp → Prop} (h : SA X es σ H Q) (q : ∀ v H', Q v H' → Q' v H') : SA X es σ H Q' := fun pos pins s I => thn (h pos pins s I) fun u s' ⟨v, H', I', r, k⟩ => ⟨v, H', I', r, q v H' k⟩
theorem SI.mono {tg it : Expr} {Q Q' : It → Hp → Prop} (h : SI X tg it σ H Q) (q : ∀ v H', Q v H' → Q' v H') : SI X tg it σ H Q' := fun pins s I => thn (h pins s I) fun u s' k => thn k fun w s2 ⟨a, fp, tn, J, H', e1, I', T, t0, f, r⟩ => ⟨a, fp, tn, J, H', e1, I', T, t0, f, q J H' r⟩
theorem SG.mono {tg : Expr} {v : V} {Q Q' : L2.St → Hp → Prop} (h : SG X tg v σ H Q) (q : ∀ v H', Q v H' → Q' v H') : SG X tg v σ H Q' := fun pins s u I r => thn (h pins s u I r) fun _ s' ⟨σ', H', I', k⟩ => ⟨σ', H', I', q σ' H' k⟩
theorem SP.imp {pins : List (Addr × Obj)} {E E' : Ends} {f : Flow} {s : Shared} (h : SP X pins E f s) (h1 : ∀ σ H, E.nx σ H → E'.nx σ H) (h2 : ∀ v H, E.rt v H → E'.rt v H) (h3 : ∀ σ H, E.bk σ H → E'.bk σ H) (h4 : ∀ σ H, E.ct σ H → E'.ct σ H) : SP X pins E' f s := by
  cases f with
  | next => obtain ⟨σ, H, I, q⟩ := h; exact ⟨σ, H, I, h1 _ _ q⟩
  | brk => obtain ⟨σ, H, I, q⟩ := h; exact ⟨σ, H, I, h3 _ _ q⟩
  | cont => obtain ⟨σ, H, I, q⟩ := h; exact ⟨σ, H, I, h4 _ _ q⟩
  | ret u => obtain ⟨v, σ, H, I, r, q⟩ := h; exact ⟨v, σ, H, I, r, h2 _ _ q⟩
theorem SS.mono {E E' : Ends} (h : SS X st E σ H) (h1 : ∀ σ H, E.nx σ H → E'.nx σ H) (h2 : ∀ v H, E.rt v H → E'.rt v H) (h3 : ∀ σ H, E.bk σ H → E'.bk σ H) (h4 : ∀ σ H, E.ct σ H → E'.ct σ H) : SS X st E' σ H := fun pins s I => thn (h pins s I) fun f s' q => SP.imp q h1 h2 h3 h4
theorem SSs.mono {E E' : Ends} (h : SSs X sts E σ H) (h1 : ∀ σ H, E.nx σ H → E'.nx σ H) (h2 : ∀ v H, E.rt v H → E'.rt v H) (h3 : ∀ σ H, E.bk σ H → E'.bk σ H) (h4 : ∀ σ H, E.ct σ H → E'.ct σ H) : SSs X sts E' σ H := fun pins s I => thn (h pins s I) fun f s' q => SP.imp q h1 h2 h3 h4
end

/-! ### the judgements over data -/
section
variable (K : Frag) (F : Hp) (m : Led) (H : Hp)
def PQ (R : D → Led → Prop) : VK := fun v H2 => ∃ d F2 m2, Step K F m H F2 m2 H2 ∧ Den K F2 v d ∧ R d m2
def PB (R : Bool → Led → Prop) : Bool → Hp → Prop := fun b H2 => ∃ F2 m2, Step K F m H F2 m2 H2 ∧ R b m2
def PL (R : List D → Led → Prop) : List V → Hp → Prop := fun vs H2 => ∃ ds F2 m2, Step K F m H F2 m2 H2 ∧ Dens K F2 vs ds ∧ R ds m2
end
structure EndsD where
  nx : Rn → Led → Prop
  rt : D → Led → Prop
  bk : Rn → Led → Prop := fun _ _ => False
  ct : Rn → Led → Prop := fun _ _ => False
def PN (X : Cx) (F : Hp) (m : Led) (H : Hp) (R : Rn → Led → Prop) : L2.St → Hp → Prop := fun σ2 H2 => ∃ ρ2 F2 m2, Step X.K F m H F2 m2 H2 ∧ Env X F2 σ2 ρ2 ∧ R ρ2 m2
def ED (X : Cx) (F : Hp) (m : Led) (H : Hp) (E : EndsD) : Ends := { nx := PN X F m H E.nx, rt := PQ X.K F m H E.rt, bk := PN X F m H E.bk, ct := PN X F m H E.ct }
structure EX (X : Cx) (e : Expr) (ρ : Rn) (m : Led) (R : D → Led → Prop) : Prop where
  run : ∀ F σ H, Env X F σ ρ → At X.K F m H → SE X e σ H (PQ X.K F m H R)
structure TX (X : Cx) (e : Expr) (ρ : Rn) (m : Led) (R : Bool → Led → Prop) : Prop where
  run : ∀ F σ H, Env X F σ ρ → At X.K F m H → ST X e σ H (PB X.K F m H R)
structure WX (X : Cx) (e : Expr) (ρ : Rn) (m : Led) (R : Bool → Led → Prop) : Prop where
  run : ∀ F σ H, Env X F σ ρ → At X.K F m H → SW X e σ H (PB X.K F m H R)
structure AX (X : Cx) (es : List Expr) (ρ : Rn) (m : Led) (R : List D → Led → Prop) : Prop where
  run : ∀ F σ H, Env X F σ ρ → At X.K F m H → SA X es σ H (PL X.K F m H R)
structure S1 (X : Cx) (st : Stmt) (ρ : Rn) (m : Led) (E : EndsD) : Prop where
  run : ∀ F σ H, Env X F σ ρ → At X.K F m H → SS X st (ED X F m H E) σ H
structure SX (X : Cx) (st : List Stmt) (ρ : Rn) (m : Led) (E : EndsD) : Prop where
  run : ∀ F σ H, Env X F σ ρ → At X.K F m H → SSs X st (ED X F m H E) σ H
structure GX (X : Cx) (tg : Expr) (d : D) (ρ : Rn) (m : Led) (R : Rn → Led → Prop) : Prop where
  run : ∀ F σ H v, Env X F σ ρ → At X.K F m H → Den X.K F v d → SG X tg v σ H (PN X F m H R)
/-- what an iterator gives: the items ds, one by one -/
def YD (K : Frag) (F1 : Hp) (ds : List D) (i : Nat) (H2 : Hp) (x : V) (H3 : Hp) : Prop := ∀ F2 m2, Ex F1 F2 → At K F2 m2 H2 → ∃ F3 d, ds[i]? = some d ∧ Step K F2 m2 H2 F3 m2 H3 ∧ Den K F3 x d
structure IX (X : Cx) (tg it : Expr) (ρ : Rn) (m : Led) (R : List D → Led → Prop) : Prop where
  run : ∀ F σ H, Env X F σ ρ → At X.K F m H →
  SI X tg it σ H fun J H1 => ∃ ds F1 m1, Step X.K F m H F1 m1 H1 ∧ R ds m1 ∧ Walk J ds.length (fun H2 => Ex F1 H2) (YD X.K F1 ds)
/-- an operation on data -/
structure OX (X : Cx) (f : Value → Value → Sem Value) (d1 d2 : D) (m : Led) (R : D → Led → Prop) : Prop where
  run : ∀ F σ H x y pins s v u, Den X.K F x d1 → Den X.K F y d2 → At X.K F m H → Inv X pins σ H s → RelV x v → RelV y u →
  wpAny (model X.prog X.w) X.A (f v u) (EP X pins σ (PQ X.K F m H R)) X.xe s
structure UX (X : Cx) (f : Value → Sem Value) (d1 : D) (m : Led) (R : D → Led → Prop) : Prop where
  run : ∀ F σ H x pins s v, Den X.K F x d1 → At X.K F m H → Inv X pins σ H s → RelV x v →
  wpAny (model X.prog X.w) X.A (f v) (EP X pins σ (PQ X.K F m H R)) X.xe s
structure BX (X : Cx) (f : Value) (ds : List D) (m : Led) (R : D → Led → Prop) : Prop where
  run : ∀ F σ H xs pins s us, Dens X.K F xs ds → At X.K F m H → Inv X pins σ H s → Vals xs us →
  wpAny (model X.prog X.w) X.A (call f us) (EP X pins σ (PQ X.K F m H R)) X.xe s
section
variable {X : Cx} {K : Frag} {F F1 F2 H H1 H2 : Hp} {m m1 m2 : Led} {σ : L2.St} {ρ : Rn}
theorem PQ.step {R : D → Led → Prop} {v : V} (a : Step K F m H F1 m1 H1) (h : PQ K F1 m1 H1 R v H2) : PQ K F m H R v H2 := let ⟨d, F2, m2, s, q, r⟩ := h; ⟨d, F2, m2, a.trans s, q, r⟩
theorem PB.step {R : Bool → Led → Prop} {v : Bool} (a : Step K F m H F1 m1 H1) (h : PB K F1 m1 H1 R v H2) : PB K F m H R v H2 := let ⟨F2, m2, s, r⟩ := h; ⟨F2, m2, a.trans s, r⟩
theorem PL.step {R : List D → Led → Prop} {v : List V} (a : Step K F m H F1 m1 H1) (h : PL K F1 m1 H1 R v H2) : PL K F m H R v H2 := let ⟨d, F2, m2, s, q, r⟩ := h; ⟨d, F2, m2, a.trans s, q, r⟩
theorem PN.step {R : Rn → Led → Prop} (a : Step X.K F m H F1 m1 H1) (h : PN X F1 m1 H1 R σ H2) : PN X F m H R σ H2 := let ⟨d, F2, m2, s, q, r⟩ := h; ⟨d, F2, m2, a.trans s, q, r⟩
theorem PQ.now {R : D → Led → Prop} {v : V} {d : D} (a : At K F m H) (q : Den K F v d) (r : R d m) : PQ K F m H R v H := ⟨d, F, m, Step.refl a, q, r⟩
theorem SS.step {st : Stmt} {E : EndsD} (a : Step X.K F m H F1 m1 H1) (h : SS X st (ED X F1 m1 H1 E) σ H2) : SS X st (ED X F m H E) σ H2 := h.mono (fun _ _ q => PN.step a q) (fun _ _ q => PQ.step a q) (fun _ _ q => PN.step a q) fun _ _ q => PN.step a q
theorem SSs.step {st : List Stmt} {E : EndsD} (a : Step X.K F m H F1 m1 H1) (h : SSs X st (ED X F1 m1 H1 E) σ H2) : SSs X st (ED X F m H E) σ H2 := h.mono (fun _ _ q => PN.step a q) (fun _ _ q => PQ.step a q) (fun _ _ q => PN.step a q) fun _ _ q => PN.step a q
/-- going on from a judgement -/
theorem EX.go {e : Expr} {R : D → Led → Prop} {Q : VK} (h : EX X e ρ m R) (en : Env X F σ ρ) (a : At X.K F m H) (k : ∀ v d F1 m1 H1, Step X.K F m H F1 m1 H1 → Env X F1 σ ρ → Den X.K F1 v d → R d m1 → Q v H1) : SE X e σ H Q :=
  (h.run F σ H en a).mono fun v H1 ⟨d, F1, m1, s, q, r⟩ => k v d F1 m1 H1 s (en.mono s.ex) q r
theorem AX.go {es : List Expr} {R : List D → Led → Prop} {Q : List V → Hp → Prop} (h : AX X es ρ m R) (en : Env X F σ ρ) (a : At X.K F m H) (k : ∀ v d F1 m1 H1, Step X.K F m H F1 m1 H1 → Env X F1 σ ρ → Dens X.K F1 v d → R d m1 → Q v H1) : SA X es σ H Q :=
  (h.run F σ H en a).mono fun v H1 ⟨d, F1, m1, s, q, r⟩ => k v d F1 m1 H1 s (en.mono s.ex) q r
theorem TX.go {e : Expr} {R : Bool → Led → Prop} {Q : Bool → Hp → Prop} (h : TX X e ρ m R) (en : Env X F σ ρ) (a : At X.K F m H) (k : ∀ b F1 m1 H1, Step X.K F m H F1 m1 H1 → Env X F1 σ ρ → R b m1 → Q b H1) : ST X e σ H Q :=
  (h.run F σ H en a).mono fun b H1 ⟨F1, m1, s, r⟩ => k b F1 m1 H1 s (en.mono s.ex) r
theorem EX.mono {e : Expr} {R R' : D → Led → Prop} (h : EX X e ρ m R) (q : ∀ d m', R d m' → R' d m') : EX X e ρ m R' := .mk fun F σ H en a => (h.run F σ H en a).mono fun v H1 ⟨d, F1, m1, s, k, r⟩ => ⟨d, F1, m1, s, k, q d m1 r⟩
theorem TX.mono {e : Expr} {R R' : Bool → Led → Prop} (h : TX X e ρ m R) (q : ∀ d m', R d m' → R' d m') : TX X e ρ m R' := .mk fun F σ H en a => (h.run F σ H en a).mono fun v H1 ⟨F1, m1, s, r⟩ => ⟨F1, m1, s, q v m1 r⟩
theorem SX.mono {sts : List Stmt} {E E' : EndsD} (h : SX X sts ρ m E) (h1 : ∀ ρ m, E.nx ρ m → E'.nx ρ m) (h2 : ∀ d m, E.rt d m → E'.rt d m) (h3 : ∀ ρ m, E.bk ρ m → E'.bk ρ m) (h4 : ∀ ρ m, E.ct ρ m → E'.ct ρ m) : SX X sts ρ m E' := .mk fun F σ H en a =>
  (h.run F σ H en a).mono (fun σ H ⟨ρ, F2, m2, s, e, r⟩ => ⟨ρ, F2, m2, s, e, h1 _ _ r⟩) (fun v H ⟨d, F2, m2, s, e, r⟩ => ⟨d, F2, m2, s, e, h2 _ _ r⟩) (fun σ H ⟨ρ, F2, m2, s, e, r⟩ => ⟨ρ, F2, m2, s, e, h3 _ _ r⟩) (fun σ H ⟨ρ, F2, m2, s, e, r⟩ => ⟨ρ, F2, m2, s, e, h4 _ _ r⟩)
end

/-! ### rules for expressions -/
section
variable {X : Cx} {e a b c : Expr} {es : List Expr} {ρ : Rn} {m : Led} {R : D → Led → Prop} {pos : Pos}
theorem x_var {i : Nat} {x : Str} {d : D} (h : LookAt ρ i x d) (k : R d m) (hv : Vis X.env.scope x := by first | exact Or.inl rfl | exact Or.inr (Or.inl rfl) | exact Or.inr (Or.inr rfl)) (hd : (x == ("__debug__" : Str)) = false := by decide)
    (hcd : (x == ("__classdict__" : Str)) = false := by decide) : EX X (.Name x pos) ρ m R := .mk fun F σ H en at_ => by
  obtain ⟨hN, v, hs, q⟩ := en.look h
  exact SE.of (pe_var hN hv hd hcd) ⟨v, hs, PQ.now at_ q k⟩
theorem x_int {i : Int} {j : Nat} (k : R (.int i) m) : EX X (.Constant (.int i) j pos) ρ m R := .mk fun F σ H en at_ => SE.of pe_int (PQ.now at_ (.int i) k)
theorem x_bl {i : Bool} {j : Nat} (k : R (.bl i) m) : EX X (.Constant (.bool i) j pos) ρ m R := .mk fun F σ H en at_ => SE.of pe_bl (PQ.now at_ (.bl i) k)
theorem x_non {j : Nat} (k : R .non m) : EX X (.Constant .none j pos) ρ m R := .mk fun F σ H en at_ => SE.of pe_non (PQ.now at_ .non k)
theorem x_str {x : Str} {j : Nat} (k : R (.str x) m) : EX X (.Constant (.str x) j pos) ρ m R := .mk fun F σ H en at_ => SE.of pe_str (PQ.now at_ (.str x) k)
/-- a constant of the module -/
def GC (K : Frag) (mg : Str → Option Value) (x : Str) (d : D) : Prop := ∃ v u, mg x = some u ∧ RelV v u ∧ ∀ F, Den K F v d
theorem x_glob {x : Str} {d : D} (hg : GC X.K X.mg x d) (k : R d m) (h : Gl X x := by rfl) (hd : (x == ("__debug__" : Str)) = false := by decide) : EX X (.Name x pos) ρ m R := .mk fun F σ H en at_ => by
  obtain ⟨v, u, hm, r, q⟩ := hg
  exact SE.of (pe_glob h hm r hd) (PQ.now at_ (q F) k)
/-- a built-in class as a value -/
theorem x_ty {x : Str} {n : String} (k : R (.ty n) m) (hm : X.mg x = none) (hv : bootBuiltins x = some (.type n) := by decide +kernel) (h : Gl X x := by rfl) (hn : x ≠ "__name__" := by decide) (hd : (x == ("__debug__" : Str)) = false := by decide) : EX X (.Name x pos) ρ m R := .mk fun F σ H en at_ =>
  SE.of (pe_bltn (v := .ty n) h hm hv rfl hn hd) (PQ.now at_ (.ty n) k)
theorem x_bin {op : Operator} (h : EX X a ρ m fun d1 m1 => EX X b ρ m1 fun d2 m2 => OX X (binaryOp op) d1 d2 m2 R) : EX X (.BinOp a op b pos) ρ m R := .mk fun F σ H en at_ => by
  intro pins s I
  refine wpAny_BinOp (binT (R := fun x y H2 => ∃ d1 d2 F2 m2, Step X.K F m H F2 m2 H2 ∧ Den X.K F2 x d1 ∧ Den X.K F2 y d2 ∧ OX X (binaryOp op) d1 d2 m2 R) (pe_SE (e := a)) (pe_SE (e := b)) I ?_ ?_)
  · exact h.go en at_ fun v d F1 m1 H1 s1 en1 q1 r1 => r1.go en1 s1.at2 fun v2 d2 F2 m2 H2 s2 en2 q2 r2 => ⟨d, d2, F2, m2, s1.trans s2, q1.mono s2.ex, q2, r2⟩
  · intro v u s2 x y H2 I2 rx ry ⟨d1, d2, F2, m2, st, q1, q2, r⟩
    exact thn (r.run F2 σ H2 x y pins s2 v u q1 q2 st.at2 I2 rx ry) fun w s3 ⟨v3, H3, I3, r3, k⟩ => ⟨v3, H3, I3, r3, PQ.step st k⟩
theorem x_un {op : UnaryOp} (h : EX X a ρ m fun d1 m1 => UX X (unaryOp op) d1 m1 R) : EX X (.UnaryOp op a pos) ρ m R := .mk fun F σ H en at_ => by
  intro pins s I
  refine UnaryOp_ (thn (h.run F σ H en at_ pins s I) fun v s1 ⟨x, H1, I1, r1, d, F1, m1, st, q, k⟩ => ?_)
  exact thn (UX.run k F1 σ H1 x pins s1 v q st.at2 I1 r1) fun w s3 ⟨v3, H3, I3, r3, k⟩ => ⟨v3, H3, I3, r3, PQ.step st k⟩
theorem x_cmp {op : CmpOp} (h : EX X a ρ m fun d1 m1 => EX X b ρ m1 fun d2 m2 => OX X (compareOp op) d1 d2 m2 R) (hm : behindInMarks op b = false := by first | exact nobehind _ (by decide) (by decide) | rfl | with_unfolding_all rfl) : EX X (.Compare a [op] [b] pos) ρ m R := .mk fun F σ H en at_ => by
  intro pins s I
  refine wpAny_Compare1 (binT (R := fun x y H2 => ∃ d1 d2 F2 m2, Step X.K F m H F2 m2 H2 ∧ Den X.K F2 x d1 ∧ Den X.K F2 y d2 ∧ OX X (compareOp op) d1 d2 m2 R) (pe_SE (e := a)) (pe_SE (e := b)) I ?_ ?_) hm
  · exact h.go en at_ fun v d F1 m1 H1 s1 en1 q1 r1 => r1.go en1 s1.at2 fun v2 d2 F2 m2 H2 s2 en2 q2 r2 => ⟨d, d2, F2, m2, s1.trans s2, q1.mono s2.ex, q2, r2⟩
  · intro v u s2 x y H2 I2 rx ry ⟨d1, d2, F2, m2, st, q1, q2, r⟩
    exact thn (r.run F2 σ H2 x y pins s2 v u q1 q2 st.at2 I2 rx ry) fun w s3 ⟨v3, H3, I3, r3, k⟩ => ⟨v3, H3, I3, r3, PQ.step st k⟩
/-- a comparison as a test -/
theorem t_cmp {op : CmpOp} {R : Bool → Led → Prop} (h : EX X a ρ m fun d1 m1 => EX X b ρ m1 fun d2 m2 => OX X (compareOp op) d1 d2 m2 fun d m3 => ∃ k, d = .bl k ∧ R k m3) (hm : behindInMarks op b = false := by first | exact nobehind _ (by decide) (by decide) | rfl | with_unfolding_all rfl) : TX X (.Compare a [op] [b] pos) ρ m R := .mk fun F σ H en at_ => by
  intro pins s I
  refine wpAny_isTrue_Compare1 ?_ hm
  refine binT (R := fun x y H2 => ∃ d1 d2 F2 m2, Step X.K F m H F2 m2 H2 ∧ Den X.K F2 x d1 ∧ Den X.K F2 y d2 ∧ OX X (compareOp op) d1 d2 m2 fun d m3 => ∃ k, d = .bl k ∧ R k m3) (f := fun v u => compareOp op v u) (Q := fun c s3 => wpAny (model X.prog X.w) X.A (truthy c) (TP X pins σ (PB X.K F m H R)) X.xe s3) (pe_SE (e := a)) (pe_SE (e := b)) I ?_ ?_
  · exact h.go en at_ fun v d F1 m1 H1 s1 en1 q1 r1 => r1.go en1 s1.at2 fun v2 d2 F2 m2 H2 s2 en2 q2 r2 => ⟨d, d2, F2, m2, s1.trans s2, q1.mono s2.ex, q2, r2⟩
  · intro v u s2 x y H2 I2 rx ry ⟨d1, d2, F2, m2, st, q1, q2, r⟩
    refine thn (r.run F2 σ H2 x y pins s2 v u q1 q2 st.at2 I2 rx ry) fun w s3 ⟨v3, H3, I3, r3, d, F3, m3, st3, q3, kk, ek, k⟩ => ?_
    subst ek
    cases q3
    cases r3
    exact wpAny_truthy_bool ⟨H3, I3, F3, m3, st.trans st3, k⟩
/-- a value that is a bool as a test -/
theorem t_val {R : Bool → Led → Prop} (h : EX X a ρ m fun d m1 => ∃ k, d = .bl k ∧ R k m1) (he : ∀ whole, isTrue a X.env whole = (do let v ← whole; standAt a.pos; holding [v] (truthy v)) := by intro _; rfl) : TX X a ρ m R := .mk fun F σ H en at_ =>
  ST.of (pt_val (pe_SE (e := a)) he) (h.go en at_ fun v d F1 m1 H1 s1 en1 q1 ⟨k, ek, r⟩ => by
    subst ek
    cases q1
    exact ⟨k, rfl, F1, m1, s1, r⟩)
/-- truth of data -/
def TruD (m : Led) (d : D) (k : Bool) : Prop := match d with
  | .non => k = false
  | .bl b => k = b
  | .int i => k = (i != 0)
  | .str y => y.length ≤ sizeLine ∧ k = ((y.length : Int) != 0)
  | .lst xs => k = !xs.isEmpty
  | .tup xs => k = !xs.isEmpty
  | .ref a => ∃ (i : Nat) (ds : List D), m[i]? = some (a, .lst ds) ∧ k = !ds.isEmpty
  | _ => False
theorem Dens.empty {K : Frag} {F : Hp} {xs : List V} {ds : List D} (h : Dens K F xs ds) : xs.isEmpty = ds.isEmpty := by cases h <;> rfl
theorem TruD.v {K : Frag} {F H : Hp} {d : D} {k : Bool} {v : V} (h : TruD m d k) (q : Den K F v d) (at_ : At K F m H) : TruV K v H k := by
  cases q with
  | non => exact h
  | bl b => exact h
  | int i => exact h
  | str x => exact h
  | ty n => exact h
  | lst h1 hs => exact .inl ⟨_, .inl (at_.sub.rd h1), by rw [hs.empty]; exact h⟩
  | tup h1 hs => exact .inr (.inl ⟨_, at_.sub.sqT h1, by rw [hs.empty]; exact h⟩)
  | lsk => exact h.elim
  | dT => exact h.elim
  | dK => exact h.elim
  | obj => exact h.elim
  | ref a =>
    obtain ⟨i, ds, hi, e⟩ := h
    obtain ⟨hh, ⟨xs, rfl, hs⟩, e2⟩ := at_.get hi
    exact .inl ⟨xs, .inl (.inl e2), by rw [hs.empty]; exact e⟩
theorem t_tru {R : Bool → Led → Prop} (h : EX X a ρ m fun d m1 => ∃ k, TruD m1 d k ∧ R k m1) (he : ∀ whole, isTrue a X.env whole = (do let v ← whole; standAt a.pos; holding [v] (truthy v)) := by intro _; rfl) : TX X a ρ m R := .mk fun F σ H en at_ =>
  ST.of (pt_truth (pe_SE (e := a)) he) (h.go en at_ fun v d F1 m1 H1 s1 en1 q1 ⟨k, tk, r⟩ => ⟨k, tk.v q1 s1.at2, F1, m1, s1, r⟩)
theorem t_not {R : Bool → Led → Prop} (h : TX X a ρ m fun k m1 => R (!k) m1) : TX X (.UnaryOp .Not a pos) ρ m R := .mk fun F σ H en at_ =>
  ST.of (pt_not (pt_ST (e := a))) (h.run F σ H en at_)
theorem w_and1 {R : Bool → Led → Prop} (h : TX X a ρ m R) : WX X (.BoolOp .And [a] pos) ρ m R := .mk fun F σ H en at_ => SW.of (pw_and1 (pt_ST (e := a))) (h.run F σ H en at_)
theorem w_or1 {R : Bool → Led → Prop} (h : TX X a ρ m R) : WX X (.BoolOp .Or [a] pos) ρ m R := .mk fun F σ H en at_ => SW.of (pw_or1 (pt_ST (e := a))) (h.run F σ H en at_)
theorem w_and {R : Bool → Led → Prop} {rest : List Expr} (h : TX X a ρ m fun k m1 => (k = true → WX X (.BoolOp .And (b :: rest) pos) ρ m1 R) ∧ (k = false → R false m1)) : WX X (.BoolOp .And (a :: b :: rest) pos) ρ m R := .mk fun F σ H en at_ =>
  SW.of (pw_and (pt_ST (e := a)) (pw_SW (e := .BoolOp .And (b :: rest) pos))) (h.go en at_ fun k F1 m1 H1 s1 en1 r => by
    cases k with
    | true => exact ((r.1 rfl).run F1 σ H1 en1 s1.at2).mono fun v H' q => PB.step s1 q
    | false => exact ⟨F1, m1, s1, r.2 rfl⟩)
theorem w_or {R : Bool → Led → Prop} {rest : List Expr} (h : TX X a ρ m fun k m1 => (k = true → R true m1) ∧ (k = false → WX X (.BoolOp .Or (b :: rest) pos) ρ m1 R)) : WX X (.BoolOp .Or (a :: b :: rest) pos) ρ m R := .mk fun F σ H en at_ =>
  SW.of (pw_or (pt_ST (e := a)) (pw_SW (e := .BoolOp .Or (b :: rest) pos))) (h.go en at_ fun k F1 m1 H1 s1 en1 r => by
    cases k with
    | true => exact ⟨F1, m1, s1, r.1 rfl⟩
    | false => exact ((r.2 rfl).run F1 σ H1 en1 s1.at2).mono fun v H' q => PB.step s1 q)
theorem t_w {R : Bool → Led → Prop} (h : WX X a ρ m R) : TX X a ρ m R := .mk fun F σ H en at_ pins s I => h.run F σ H en at_ _ pins s I
/-- and, or as values: bools ahead of the last -/
theorem x_one {op : BoolOp} (h : EX X a ρ m R) : EX X (.BoolOp op [a] pos) ρ m R := .mk fun F σ H en at_ => SE.of (pe_one (pe_SE (e := a))) (h.run F σ H en at_)
theorem x_and {rest : List Expr} (h : EX X a ρ m fun d m1 => ∃ k, d = .bl k ∧ (k = true → EX X (.BoolOp .And (b :: rest) pos) ρ m1 R) ∧ (k = false → R (.bl false) m1)) : EX X (.BoolOp .And (a :: b :: rest) pos) ρ m R := .mk fun F σ H en at_ =>
  SE.of (pe_and (pe_SE (e := a)) (pe_SE (e := .BoolOp .And (b :: rest) pos))) (h.go en at_ fun v d F1 m1 H1 s1 en1 q ⟨k, ek, r⟩ => by
    subst ek
    cases q
    refine ⟨k, rfl, ?_⟩
    cases k with
    | true => exact ((r.1 rfl).run F1 σ H1 en1 s1.at2).mono fun v H' q => PQ.step s1 q
    | false => exact ⟨_, F1, m1, s1, .bl false, r.2 rfl⟩)
theorem x_or {rest : List Expr} (h : EX X a ρ m fun d m1 => ∃ k, d = .bl k ∧ (k = true → R (.bl true) m1) ∧ (k = false → EX X (.BoolOp .Or (b :: rest) pos) ρ m1 R)) : EX X (.BoolOp .Or (a :: b :: rest) pos) ρ m R := .mk fun F σ H en at_ =>
  SE.of (pe_or (pe_SE (e := a)) (pe_SE (e := .BoolOp .Or (b :: rest) pos))) (h.go en at_ fun v d F1 m1 H1 s1 en1 q ⟨k, ek, r⟩ => by
    subst ek
    cases q
    refine ⟨k, rfl, ?_⟩
    cases k with
    | true => exact ⟨_, F1, m1, s1, .bl true, r.1 rfl⟩
    | false => exact ((r.2 rfl).run F1 σ H1 en1 s1.at2).mono fun v H' q => PQ.step s1 q)
theorem x_not (h : EX X a ρ m fun d m1 => ∃ k, d = .bl k ∧ R (.bl (!k)) m1) : EX X (.UnaryOp .Not a pos) ρ m R := .mk fun F σ H en at_ =>
  SE.of (pe_not (pe_SE (e := a))) (h.go en at_ fun v d F1 m1 H1 s1 en1 q ⟨k, ek, r⟩ => by
    subst ek
    cases q
    exact ⟨k, rfl, _, F1, m1, s1, .bl _, r⟩)
theorem x_if (h : TX X c ρ m fun k m1 => (k = true → EX X a ρ m1 R) ∧ (k = false → EX X b ρ m1 R)) : EX X (.IfExp c a b pos) ρ m R := .mk fun F σ H en at_ =>
  SE.of (pe_ifExp (pt_ST (e := c)) (pe_SE (e := a)) (pe_SE (e := b))) (h.go en at_ fun k F1 m1 H1 s1 en1 r => by
    cases k with
    | true => exact ((r.1 rfl).run F1 σ H1 en1 s1.at2).mono fun v H' q => PQ.step s1 q
    | false => exact ((r.2 rfl).run F1 σ H1 en1 s1.at2).mono fun v H' q => PQ.step s1 q)
theorem a_nil {R : List D → Led → Prop} (k : R [] m) : AX X [] ρ m R := .mk fun F σ H en at_ => SA.of pa_nil ⟨[], F, m, Step.refl at_, .nil, k⟩
theorem a_cons {R : List D → Led → Prop} (h : EX X e ρ m fun d m1 => AX X es ρ m1 fun ds m2 => R (d :: ds) m2) (hs : starEach (e :: es) X.env = (false, eval e X.env) :: starEach es X.env := by rfl) : AX X (e :: es) ρ m R := .mk fun F σ H en at_ =>
  SA.of (pa_cons (pe_SE (e := e)) (pa_SA (es := es)) hs) (h.go en at_ fun v d F1 m1 H1 s1 en1 q r => r.go en1 s1.at2 fun vs ds F2 m2 H2 s2 en2 q2 r2 => ⟨d :: ds, F2, m2, s1.trans s2, .cons (q.mono s2.ex) q2, r2⟩)
theorem x_tup {x1 : Nat} (h : AX X es ρ m fun ds m1 => ds.length ≤ 100000 ∧ R (.tup ds) m1) : EX X (.Tuple es x1 pos) ρ m R := .mk fun F σ H en at_ =>
  SE.of (pe_tup (pa_SA (es := es))) (h.go en at_ fun vs ds F1 m1 H1 s1 en1 q r => ⟨by rw [q.length]; exact Nat.le_trans r.1 (by decide), fun p hp =>
    have nw := Step.new (o := .tup vs) s1.at2 hp
    ⟨.tup ds, _, _, s1.trans nw, .tup (.inl (.inl upd_same)) (q.mono nw.ex), r.2⟩⟩)
theorem x_lst (h : AX X es ρ m fun ds m1 => ds.length ≤ 100000 ∧ R (.lst ds) m1) : EX X (.List es pos) ρ m R := .mk fun F σ H en at_ =>
  SE.of (pe_lst (pa_SA (es := es))) (h.go en at_ fun vs ds F1 m1 H1 s1 en1 q r => ⟨by rw [q.length]; exact Nat.le_trans r.1 (by decide), fun p hp =>
    have nw := Step.new (o := .lst vs) s1.at2 hp
    ⟨.lst ds, _, _, s1.trans nw, .lst (.inl upd_same) (q.mono nw.ex), r.2⟩⟩)
/-- a list that is to be changed -/
theorem x_lstM (h : AX X es ρ m fun ds m1 => ds.length ≤ 100000 ∧ ∀ p, R (.ref p) (m1 ++ [(p, .lst ds)])) : EX X (.List es pos) ρ m R := .mk fun F σ H en at_ =>
  SE.of (pe_lst (pa_SA (es := es))) (h.go en at_ fun vs ds F1 m1 H1 s1 en1 q r => ⟨by rw [q.length]; exact Nat.le_trans r.1 (by decide), fun p hp =>
    have nw := Step.newM (o := .lst vs) (mo := .lst ds) s1.at2 hp ⟨vs, rfl, q⟩
    ⟨.ref p, _, _, s1.trans nw, .ref p, r.2 p⟩⟩)
/-- a list of the ledger read as it stands, from then on frozen -/
theorem x_freeze (h : EX X e ρ m fun d m2 => ∃ (i : Nat) (p : Addr) (ds : List D), d = .ref p ∧ m2[i]? = some (p, .lst ds) ∧ R (.lst ds) (m2.eraseIdx i)) : EX X e ρ m R := .mk fun F σ H en at_ =>
  h.go en at_ fun v d F1 m1 H1 s1 en1 q ⟨i, p, ds, ed, hi, r⟩ => by
    subst ed
    cases q
    obtain ⟨F2, s2, q2⟩ := Step.freeze s1.at2 hi
    exact ⟨_, F2, _, s1.trans s2, q2, r⟩
end
end DL

namespace DL
open PySem PySem.Spec PyProof.Rows L2

/-! ### operations on ints -/
section
variable {X : Cx} {f : Value → Value → Sem Value} {d1 d2 : D} {m : Led} {R : D → Led → Prop} {i j : Int}
theorem OX.of {r : R2} (ho : OpR X f r) (h : ∀ F H x y, Den X.K F x d1 → Den X.K F y d2 → At X.K F m H → r x y H (PQ X.K F m H R)) : OX X f d1 d2 m R := .mk fun F σ H x y pins s v u q1 q2 at_ I rx ry => ho pins s σ H x y v u _ I rx ry (h F H x y q1 q2 at_)
theorem UX.of {f : Value → Sem Value} {r : V → Hp → VK → Prop} (ho : UnR X f r) (h : ∀ F H x, Den X.K F x d1 → At X.K F m H → r x H (PQ X.K F m H R)) : UX X f d1 m R := .mk fun F σ H x pins s v q1 at_ I rx => ho pins s σ H x v _ I rx (h F H x q1 at_)
theorem BX.of {f : Value} {ds : List D} {r : List V → Hp → VK → Prop} (ho : CallR X f r) (h : ∀ F H xs, Dens X.K F xs ds → At X.K F m H → r xs H (PQ X.K F m H R)) : BX X f ds m R := .mk fun F σ H xs pins s us q at_ I rs => ho pins s σ H xs us _ I rs (h F H xs q at_)
theorem Den.int_inv {K : Frag} {F : Hp} {v : V} (h : Den K F v (.int i)) : v = .int i := by cases h; rfl
theorem Den.str_inv {K : Frag} {F : Hp} {v : V} {x : Str} (h : Den K F v (.str x)) : v = .str x := by cases h; rfl
theorem Den.bl_inv {K : Frag} {F : Hp} {v : V} {x : Bool} (h : Den K F v (.bl x)) : v = .bl x := by cases h; rfl
theorem OX.i0 {g : Int → Int → V} {d : D} (ho : OpR X f (rI0 g)) (hd : ∀ F, Den X.K F (g i j) d) (k : R d m) : OX X f (.int i) (.int j) m R := OX.of ho fun F H x y q1 q2 at_ => ⟨i, j, q1.int_inv, q2.int_inv, PQ.now at_ (hd F) k⟩
theorem OX.ic {C : Int → Int → Prop} {g : Int → Int → V} {d : D} (ho : OpR X f (rI C g)) (hc : C i j) (hd : ∀ F, Den X.K F (g i j) d) (k : R d m) : OX X f (.int i) (.int j) m R := OX.of ho fun F H x y q1 q2 at_ => ⟨i, j, q1.int_inv, q2.int_inv, hc, PQ.now at_ (hd F) k⟩
theorem o_add (k : R (.int (i + j)) m) : OX X (binaryOp .Add) (.int i) (.int j) m R := OX.i0 op_add (fun _ => .int _) k
theorem o_sub (k : R (.int (i - j)) m) : OX X (binaryOp .Sub) (.int i) (.int j) m R := OX.i0 op_sub (fun _ => .int _) k
theorem op_mulG : OpR X (binaryOp .Mult) (rI IntMulOk fun i j => .int (i * j)) := opI fun _ _ _ _ _ _ _ hc q => mul_int q hc
theorem o_mul (h : IntMulOk i j) (k : R (.int (i * j)) m) : OX X (binaryOp .Mult) (.int i) (.int j) m R := OX.ic op_mulG h (fun _ => .int _) k
theorem o_fdiv (h : CDivW i j) (k : R (.int (i / j)) m) : OX X (binaryOp .FloorDiv) (.int i) (.int j) m R := OX.ic op_fdivW h (fun _ => .int _) k
def CDivG (_ j : Int) : Prop := j ≠ 0 ∧ j.natAbs.log2 < 9000
theorem op_fdivG : OpR X (binaryOp .FloorDiv) (rI CDivG fun i j => .int (i.fdiv j)) := opI fun _ _ _ _ _ _ _ hc q => floordiv_int hc.1 q (.inl (PyProof.noPylong_of_log2 hc.2))
theorem o_fdivN (h : CDivG i j) (k : R (.int (i.fdiv j)) m) : OX X (binaryOp .FloorDiv) (.int i) (.int j) m R := OX.ic op_fdivG h (fun _ => .int _) k
theorem o_mod (h : 0 < j) (k : R (.int (i % j)) m) : OX X (binaryOp .Mod) (.int i) (.int j) m R := OX.ic op_mod h (fun _ => .int _) k
theorem o_modN (h : j ≠ 0) (k : R (.int (i.fmod j)) m) : OX X (binaryOp .Mod) (.int i) (.int j) m R := OX.ic op_modN h (fun _ => .int _) k
theorem o_pow (h : CPow i j) (k : R (.int (i ^ j.toNat)) m) : OX X (binaryOp .Pow) (.int i) (.int j) m R := OX.ic op_pow h (fun _ => .int _) k
theorem o_lt (k : R (.bl (decide (i < j))) m) : OX X (compareOp .Lt) (.int i) (.int j) m R := OX.i0 op_lt (fun _ => .bl _) k
theorem o_le (k : R (.bl (decide (i ≤ j))) m) : OX X (compareOp .LtE) (.int i) (.int j) m R := OX.i0 op_le (fun _ => .bl _) k
theorem o_gt (k : R (.bl (decide (j < i))) m) : OX X (compareOp .Gt) (.int i) (.int j) m R := OX.i0 op_gt (fun _ => .bl _) k
theorem o_ge (k : R (.bl (decide (j ≤ i))) m) : OX X (compareOp .GtE) (.int i) (.int j) m R := OX.i0 op_ge (fun _ => .bl _) k
theorem u_neg (k : R (.int (-i)) m) : UX X (unaryOp .USub) (.int i) m R := UX.of un_neg fun F H x q at_ => ⟨i, q.int_inv, PQ.now at_ (.int _) k⟩
theorem o_eqI (k : R (.bl (decide (i = j))) m) : OX X (compareOp .Eq) (.int i) (.int j) m R := OX.of op_eq fun F H x y q1 q2 at_ => by
  rw [q1.int_inv, q2.int_inv]
  refine ⟨rfl, ?_⟩
  have e : decide (V.int i = V.int j) = decide (i = j) := by simp
  rw [e]
  exact PQ.now at_ (.bl _) k
theorem o_neI (k : R (.bl (!decide (i = j))) m) : OX X (compareOp .NotEq) (.int i) (.int j) m R := OX.of op_ne fun F H x y q1 q2 at_ => by
  rw [q1.int_inv, q2.int_inv]
  refine ⟨rfl, ?_⟩
  have e : decide (V.int i = V.int j) = decide (i = j) := by simp
  rw [e]
  exact PQ.now at_ (.bl _) k
theorem o_eqS {x y : Str} (k : R (.bl (decide (x = y))) m) : OX X (compareOp .Eq) (.str x) (.str y) m R := OX.of op_eq fun F H a b q1 q2 at_ => by
  rw [q1.str_inv, q2.str_inv]
  refine ⟨rfl, ?_⟩
  have e : decide (V.str x = V.str y) = decide (x = y) := by simp
  rw [e]
  exact PQ.now at_ (.bl _) k
theorem o_neS {x y : Str} (k : R (.bl (!decide (x = y))) m) : OX X (compareOp .NotEq) (.str x) (.str y) m R := OX.of op_ne fun F H a b q1 q2 at_ => by
  rw [q1.str_inv, q2.str_inv]
  refine ⟨rfl, ?_⟩
  have e : decide (V.str x = V.str y) = decide (x = y) := by simp
  rw [e]
  exact PQ.now at_ (.bl _) k
theorem o_eqB {x y : Bool} (k : R (.bl (decide (x = y))) m) : OX X (compareOp .Eq) (.bl x) (.bl y) m R := OX.of op_eq fun F H a b q1 q2 at_ => by
  rw [q1.bl_inv, q2.bl_inv]
  refine ⟨rfl, ?_⟩
  have e : decide (V.bl x = V.bl y) = decide (x = y) := by simp
  rw [e]
  exact PQ.now at_ (.bl _) k
/-- is None -/
def isN : D → Bool
  | .non => true
  | _ => false
theorem Den.isN {K : Frag} {F : Hp} {v : V} {d : D} (h : Den K F v d) : decide (v = .non) = isN d := by cases h <;> rfl
theorem Den.non_inv {K : Frag} {F : Hp} {v : V} (h : Den K F v .non) : v = .non := by cases h; rfl
theorem o_isN (k : R (.bl (isN d1)) m) : OX X (compareOp .Is) d1 .non m R := OX.of op_isN fun F H a b q1 q2 at_ => ⟨q2.non_inv, by rw [q1.isN]; exact PQ.now at_ (.bl _) k⟩
theorem o_notN (k : R (.bl (!isN d1)) m) : OX X (compareOp .IsNot) d1 .non m R := OX.of op_notN fun F H a b q1 q2 at_ => ⟨q2.non_inv, by rw [q1.isN]; exact PQ.now at_ (.bl _) k⟩

/-! ### lists -/
theorem op_catG : OpR X (binaryOp .Add) (fun x y H Q => ∃ l b xs zs, x = .ref l ∧ y = .ref b ∧ Rd H l (.lst xs) ∧ Rd H b (.lst zs) ∧ xs.length + zs.length ≤ sizeLine ∧ ∀ p, H p = none → Q (.ref p) (upd H p (.lst (xs ++ zs)))) := by
  intro pins s σ H x y v u Q I rx ry h
  obtain ⟨l, b, xs, zs, rfl, rfl, hH, hB, hz, q⟩ := h
  cases rx
  cases ry
  obtain ⟨z, its, n, r, e⟩ := hH.ok I.hok
  obtain ⟨z2, its2, n2, r2, e2⟩ := hB.ok I.hok
  have hl := r.length
  have hl2 := r2.length
  refine PySem.P.add_list e e2 ?_ (by rw [List.size_toArray, List.size_toArray]; omega)
  have ea : its.toArray ++ its2.toArray = (its ++ its2).toArray := by simp
  rw [ea]
  exact ⟨.ref _, _, I.lnew (t' := s.toks) (r.append r2) (by rw [List.length_append]; omega), rfl, q _ I.fresh⟩
theorem new_lst {K : Frag} {F H : Hp} {m : Led} {p : Addr} {xs : List V} {ds : List D} {R : D → Led → Prop} (at_ : At K F m H) (hp : H p = none) (hs : Dens K F xs ds) (k : R (.lst ds) m) : PQ K F m H R (.ref p) (upd H p (.lst xs)) :=
  have nw := Step.new (o := .lst xs) at_ hp
  ⟨.lst ds, _, _, nw, .lst (.inl upd_same) (hs.mono nw.ex), k⟩
theorem new_tup {K : Frag} {F H : Hp} {m : Led} {p : Addr} {xs : List V} {ds : List D} {R : D → Led → Prop} (at_ : At K F m H) (hp : H p = none) (hs : Dens K F xs ds) (k : R (.tup ds) m) : PQ K F m H R (.ref p) (upd H p (.tup xs)) :=
  have nw := Step.new (o := .tup xs) at_ hp
  ⟨.tup ds, _, _, nw, .tup (.inl (.inl upd_same)) (hs.mono nw.ex), k⟩
theorem new_lstM {K : Frag} {F H : Hp} {m : Led} {p : Addr} {xs : List V} {ds : List D} {R : D → Led → Prop} (at_ : At K F m H) (hp : H p = none) (hs : Dens K F xs ds) (k : ∀ p, R (.ref p) (m ++ [(p, .lst ds)])) : PQ K F m H R (.ref p) (upd H p (.lst xs)) :=
  have nw := Step.newM (o := .lst xs) (mo := .lst ds) at_ hp ⟨xs, rfl, hs⟩
  ⟨.ref p, _, _, nw, .ref p, k p⟩
theorem lenOk {n : Nat} (h : n ≤ 100000) : n ≤ sizeLine := Nat.le_trans h (by decide)
theorem lenLt {n : Nat} (h : n < 100000) : n < sizeLine := Nat.lt_of_lt_of_le h (by decide)
theorem o_cat {as bs : List D} (h1 : LstV m d1 as) (h2 : LstV m d2 bs) (hl : as.length + bs.length ≤ 100000) (k : R (.lst (as ++ bs)) m) : OX X (binaryOp .Add) d1 d2 m R := OX.of op_catG fun F H x y q1 q2 at_ => by
  obtain ⟨p, xs, rfl, e1, s1⟩ := h1.read at_ q1
  obtain ⟨q, ys, rfl, e2, s2⟩ := h2.read at_ q2
  exact ⟨p, q, xs, ys, rfl, rfl, e1, e2, lenOk (by rw [s1.length, s2.length]; exact hl), fun l hl => new_lst at_ hl (s1.append s2) k⟩
theorem o_catM {as bs : List D} (h1 : LstV m d1 as) (h2 : LstV m d2 bs) (hl : as.length + bs.length ≤ 100000) (k : ∀ p, R (.ref p) (m ++ [(p, .lst (as ++ bs))])) : OX X (binaryOp .Add) d1 d2 m R := OX.of op_catG fun F H x y q1 q2 at_ => by
  obtain ⟨p, xs, rfl, e1, s1⟩ := h1.read at_ q1
  obtain ⟨q, ys, rfl, e2, s2⟩ := h2.read at_ q2
  exact ⟨p, q, xs, ys, rfl, rfl, e1, e2, lenOk (by rw [s1.length, s2.length]; exact hl), fun l hl => new_lstM at_ hl (s1.append s2) k⟩
theorem Dens.atI {K : Frag} {F : Hp} {xs : List V} {ds : List D} {i : Int} {d : D} (h : Dens K F xs ds) (e : L2.atI ds i = some d) : ∃ v, L2.atI xs i = some v ∧ Den K F v d := by
  unfold L2.atI at e ⊢
  rw [h.length]
  cases q : ixN ds.length i with
  | none => rw [q] at e; cases e
  | some j =>
    rw [q] at e
    exact h.get e

/-! ### subscripts -/
structure IxX (X : Cx) (d1 d2 : D) (m : Led) (R : D → Led → Prop) : Prop where
  run : ∀ value slice F σ H x y pins s v u, Den X.K F x d1 → Den X.K F y d2 → At X.K F m H → Inv X pins σ H s → RelV x v → RelV y u →
  subscripted slice false v u = operate [v, u] (getItem v u) → wpAny (model X.prog X.w) X.A (subscriptTail value slice v u) (EP X pins σ (PQ X.K F m H R)) X.xe s
theorem IxX.of {r : R2} (ho : IxR X r) (h : ∀ F H x y, Den X.K F x d1 → Den X.K F y d2 → At X.K F m H → r x y H (PQ X.K F m H R)) : IxX X d1 d2 m R := .mk fun value slice F σ H x y pins s v u q1 q2 at_ I rx ry hs => ho value slice pins s σ H x y v u _ I rx ry (h F H x y q1 q2 at_) hs
theorem x_ix {a b : Expr} {ρ : Rn} {pos : Pos} (h : EX X a ρ m fun d1 m1 => EX X b ρ m1 fun d2 m2 => IxX X d1 d2 m2 R) (hs : PlainIx b := by intro _ _; rfl) : EX X (.Subscript a b pos) ρ m R := .mk fun F σ H en at_ => by
  intro pins s I
  refine Subscript_ (binT (R := fun x y H2 => ∃ d1 d2 F2 m2, Step X.K F m H F2 m2 H2 ∧ Den X.K F2 x d1 ∧ Den X.K F2 y d2 ∧ IxX X d1 d2 m2 R) (pe_SE (e := a)) (pe_SE (e := b)) I ?_ ?_)
  · exact h.go en at_ fun v d F1 m1 H1 s1 en1 q1 r1 => r1.go en1 s1.at2 fun v2 d2 F2 m2 H2 s2 en2 q2 r2 => ⟨d, d2, F2, m2, s1.trans s2, q1.mono s2.ex, q2, r2⟩
  · intro v u s2 x y H2 I2 rx ry ⟨d1, d2, F2, m2, st, q1, q2, r⟩
    exact thn (r.run a b F2 σ H2 x y pins s2 v u q1 q2 st.at2 I2 rx ry (hs _ _)) fun w s3 ⟨v3, H3, I3, r3, k⟩ => ⟨v3, H3, I3, r3, PQ.step st k⟩
theorem i_lst {ds : List D} {x : D} (h : LstV m d1 ds) (hx : atI ds i = some x) (k : R x m) : IxX X d1 (.int i) m R := IxX.of ix_list fun F H a b q1 q2 at_ => by
  obtain ⟨p, xs, rfl, e1, s1⟩ := h.read at_ q1
  obtain ⟨v, hv, q⟩ := s1.atI hx
  exact ⟨p, xs, i, v, rfl, q2.int_inv, .inl e1, hv, PQ.now at_ q k⟩
theorem i_tup {ds : List D} {x : D} (hx : atI ds i = some x) (k : R x m) : IxX X (.tup ds) (.int i) m R := IxX.of ix_tup fun F H a b q1 q2 at_ => by
  obtain ⟨p, xs, rfl, e1, s1⟩ := tup_read at_ q1
  obtain ⟨v, hv, q⟩ := s1.atI hx
  exact ⟨p, xs, i, v, rfl, q2.int_inv, e1, hv, PQ.now at_ q k⟩
theorem i_str {z : Str} {c : Nat} (hz : z.length ≤ 100000) (hx : atI z.cps.toList i = some c) (k : R (.str ⟨#[c]⟩) m) : IxX X (.str z) (.int i) m R := IxX.of ix_str fun F H a b q1 q2 at_ =>
  ⟨z, i, c, q1.str_inv, q2.int_inv, lenOk hz, hx, PQ.now at_ (.str _) k⟩
/-! slices -/
def PX (X : Cx) (o : Option Expr) (ρ : Rn) (m : Led) (R : Option Int → Led → Prop) : Prop := match o with
  | none => R none m
  | some e => EX X e ρ m fun d m1 => ∃ i, d = .int i ∧ R (some i) m1
structure SlX (X : Cx) (d : D) (lo hi : Option Int) (m : Led) (R : D → Led → Prop) : Prop where
  ex : ∃ r, SlR X r ∧ ∀ F H x, Den X.K F x d → At X.K F m H → r x lo hi H (PQ X.K F m H R)
theorem SlR.any {ι : Type} {r : ι → V → Option Int → Option Int → Hp → VK → Prop} {ok : ι → Prop} (h : ∀ i, ok i → SlR X (r i)) : SlR X (fun x lo hi H Q => ∃ i, ok i ∧ r i x lo hi H Q) := by
  intro pins s σ H x v vl vu lo hi sl Q I rx hs pl pu ⟨j, hj, q⟩
  exact h j hj pins s σ H x v vl vu lo hi sl Q I rx hs pl pu q
theorem x_slice {e : Expr} {lo hi : Option Expr} {ρ : Rn} {p2 pos : Pos} (h : EX X e ρ m fun d m1 => PX X lo ρ m1 fun l m2 => PX X hi ρ m2 fun u m3 => SlX X d l u m3 R) : EX X (.Subscript e (.Slice lo hi none p2) pos) ρ m R := .mk fun F σ H en at_ => by
  have po : ∀ o : Option Expr, ∃ t : TO, PO X o t ∧ ∀ {R' : Option Int → Led → Prop} {F σ H m}, PX X o ρ m R' → Env X F σ ρ → At X.K F m H → ∀ Q : Option Int → Hp → Prop, (∀ i F1 m1 H1, Step X.K F m H F1 m1 H1 → Env X F1 σ ρ → R' i m1 → Q i H1) → t σ H Q := by
    intro o
    cases o with
    | none => exact ⟨_, po_none, fun h en at_ Q k => k none _ _ _ (Step.refl at_) en h⟩
    | some e => exact ⟨_, po_some pe_SE, fun {R' F σ H m} h en at_ Q k => EX.go (Q := fun x H1 => ∃ i, x = .int i ∧ Q (some i) H1) h en at_ fun v d F1 m1 H1 s1 en1 q ⟨i, ed, r⟩ => by
        subst ed
        exact ⟨i, q.int_inv, k (some i) F1 m1 H1 s1 en1 r⟩⟩
  obtain ⟨tl, pl, kl⟩ := po lo
  obtain ⟨th, ph, kh⟩ := po hi
  refine SE.of (pe_slice (SlR.any (ι := V → Option Int → Option Int → Hp → VK → Prop) (r := fun r => r) (ok := fun r => SlR X r) fun r hr => hr) (pe_SE (e := e)) pl ph) ?_
  refine h.go en at_ fun v d F1 m1 H1 s1 en1 q r => ?_
  refine kl r en1 s1.at2 _ fun l F2 m2 H2 s2 en2 r2 => ?_
  refine kh r2 en2 s2.at2 _ fun u F3 m3 H3 s3 en3 ⟨⟨rr, hr, r3⟩⟩ => ?_
  refine ⟨fun x lo hi H Q => ∃ Q', rr x lo hi H Q' ∧ ∀ v H', Q' v H' → Q v H', ?_, _, r3 F3 H3 v (q.mono (s2.ex.trans s3.ex)) s3.at2, fun v H' k => PQ.step ((s1.trans s2).trans s3) k⟩
  intro pins s σ H x v vl vu lo hi sl Q I rx hs pl pu ⟨Q', q1, q2⟩
  obtain ⟨ty, tid, h1, h2, h3⟩ := hr pins s σ H x v vl vu lo hi sl Q' I rx hs pl pu q1
  exact ⟨ty, tid, h1, h2, thn h3 fun w s3 ⟨v3, H3, I3, r3, k⟩ => ⟨v3, H3, I3, r3, q2 v3 H3 k⟩⟩
def cutD (xs : List D) (lo hi : Option Int) : List D := (xs.drop (HT.sIx xs.length 0 lo)).take (HT.sIx xs.length xs.length hi - HT.sIx xs.length 0 lo)
theorem Dens.cut {K : Frag} {F : Hp} {xs : List V} {ds : List D} (h : Dens K F xs ds) (lo hi : Option Int) : Dens K F (cutV xs lo hi) (cutD ds lo hi) := by
  unfold cutV cutD
  rw [h.length]
  exact (h.drop _).take _
theorem sl_lst {lo hi : Option Int} {ds : List D} (h : LstV m d1 ds) (k : R (.lst (cutD ds lo hi)) m) : SlX X d1 lo hi m R := .mk ⟨_, sl_list, fun F H x q at_ => by
  obtain ⟨p, xs, rfl, e1, s1⟩ := h.read at_ q
  exact ⟨p, xs, rfl, .inl e1, fun l hl => new_lst at_ hl (s1.cut lo hi) k⟩⟩
theorem sl_tupD {lo hi : Option Int} {ds : List D} (hw : ¬ (HT.sIx ds.length 0 lo = 0 ∧ HT.sIx ds.length ds.length hi = ds.length)) (k : R (.tup (cutD ds lo hi)) m) : SlX X (.tup ds) lo hi m R := .mk ⟨_, sl_tup, fun F H x q at_ => by
  obtain ⟨p, xs, rfl, e1, s1⟩ := tup_read at_ q
  exact ⟨p, xs, rfl, e1, by rw [s1.length]; exact hw, fun l hl => new_tup at_ hl (s1.cut lo hi) k⟩⟩
end
end DL

namespace DL
open PySem PySem.Spec PyProof.Rows L2

/-! ### data as the library's data, == -/
mutual
def py : D → PyData
  | .non => .none | .bl b => .bool b | .int i => .int i | .str x => .str x
  | .lst xs => .list (pys xs) | .tup xs => .tuple (pys xs)
  | .ty _ => .none | .lsk _ => .none | .dT _ _ => .none | .dK _ _ => .none | .obj _ _ _ => .none | .ref _ => .none
def pys : List D → List PyData
  | [] => []
  | x :: xs => py x :: pys xs
end
/-- plain data of depth at most n; no bools in NB -/
def Sh : Nat → D → Prop
  | _, .non => True
  | _, .bl _ => True
  | _, .int _ => True
  | _, .str _ => True
  | n + 1, .lst xs => ∀ x ∈ xs, Sh n x
  | n + 1, .tup xs => ∀ x ∈ xs, Sh n x
  | _, _ => False
def NB : Nat → D → Prop
  | _, .non => True
  | _, .int _ => True
  | _, .str _ => True
  | n + 1, .lst xs => ∀ x ∈ xs, NB n x
  | n + 1, .tup xs => ∀ x ∈ xs, NB n x
  | _, _ => False
theorem NB.sh : ∀ {n : Nat} {d : D}, NB n d → Sh n d
  | n, .non, _ => by cases n <;> trivial
  | n, .int _, _ => by cases n <;> trivial
  | n, .str _, _ => by cases n <;> trivial
  | n + 1, .lst xs, h => fun x hx => NB.sh (h x hx)
  | n + 1, .tup xs, h => fun x hx => NB.sh (h x hx)
  | 0, .lst _, h => h.elim
  | 0, .tup _, h => h.elim
  | n, .bl _, h => by cases n <;> exact h.elim
  | n, .ty _, h => by cases n <;> exact h.elim
  | n, .dT _ _, h => by cases n <;> exact h.elim
  | n, .lsk _, h => by cases n <;> exact h.elim
  | n, .dK _ _, h => by cases n <;> exact h.elim
  | n, .obj _ _ _, h => by cases n <;> exact h.elim
  | n, .ref _, h => by cases n <;> exact h.elim
theorem pys_ok {n : Nat} (ih : ∀ d, Sh n d → (py d).plain = true ∧ (py d).depth ≤ n) : ∀ xs : List D, (∀ x ∈ xs, Sh n x) → PyData.plainAll (pys xs) = true ∧ PyData.depthAll (pys xs) ≤ n
  | [], _ => ⟨rfl, Nat.zero_le _⟩
  | x :: xs, h => by
    obtain ⟨a, b⟩ := ih x (h x List.mem_cons_self)
    obtain ⟨c, e⟩ := pys_ok ih xs fun y hy => h y (List.mem_cons_of_mem _ hy)
    exact ⟨by simp only [pys, PyData.plainAll, a, c, Bool.and_self], by simp only [pys, PyData.depthAll]; omega⟩
theorem Sh.ok : ∀ (n : Nat) (d : D), Sh n d → (py d).plain = true ∧ (py d).depth ≤ n
  | n, .non, _ => ⟨rfl, by simp [py, PyData.depth]⟩
  | n, .bl _, _ => ⟨rfl, by simp [py, PyData.depth]⟩
  | n, .int _, _ => ⟨rfl, by simp [py, PyData.depth]⟩
  | n, .str _, _ => ⟨rfl, by simp [py, PyData.depth]⟩
  | n + 1, .lst xs, h => by
    obtain ⟨a, b⟩ := pys_ok (Sh.ok n) xs h
    exact ⟨by simp only [py, PyData.plain, a], by simp only [py, PyData.depth]; omega⟩
  | n + 1, .tup xs, h => by
    obtain ⟨a, b⟩ := pys_ok (Sh.ok n) xs h
    exact ⟨by simp only [py, PyData.plain, a], by simp only [py, PyData.depth]; omega⟩
  | 0, .lst _, h => h.elim
  | 0, .tup _, h => h.elim
  | n, .ty _, h => by cases n <;> exact h.elim
  | n, .dT _ _, h => by cases n <;> exact h.elim
  | n, .lsk _, h => by cases n <;> exact h.elim
  | n, .dK _ _, h => by cases n <;> exact h.elim
  | n, .obj _ _ _, h => by cases n <;> exact h.elim
  | n, .ref _, h => by cases n <;> exact h.elim
theorem pys_eqv {n k : Nat} (ih : ∀ a b, NB n a → NB k b → (PyData.eqv (py a) (py b) = true ↔ a = b)) : ∀ xs ys : List D, (∀ x ∈ xs, NB n x) → (∀ x ∈ ys, NB k x) → (PyData.eqvAll (pys xs) (pys ys) = true ↔ xs = ys)
  | [], [], _, _ => by simp [pys, PyData.eqvAll]
  | [], _ :: _, _, _ => by simp [pys, PyData.eqvAll]
  | _ :: _, [], _, _ => by simp [pys, PyData.eqvAll]
  | x :: xs, y :: ys, h, h' => by
    have a := ih x y (h x List.mem_cons_self) (h' y List.mem_cons_self)
    have b := pys_eqv ih xs ys (fun z hz => h z (List.mem_cons_of_mem _ hz)) fun z hz => h' z (List.mem_cons_of_mem _ hz)
    simp only [pys, PyData.eqvAll, Bool.and_eq_true, a, b, List.cons.injEq]
theorem eqv_iff : ∀ (n k : Nat) (a b : D), NB n a → NB k b → (PyData.eqv (py a) (py b) = true ↔ a = b) := by
  intro n
  induction n with
  | zero =>
    intro k a b ha hb
    cases a <;> first | exact ha.elim | (cases b <;> first | (cases k <;> exact hb.elim) | simp [py, PyData.eqv])
  | succ n ih =>
    intro k a b ha hb
    cases a with
    | lst xs =>
      cases b with
      | lst ys =>
        cases k with
        | zero => exact hb.elim
        | succ k =>
          have := pys_eqv (fun a b => ih k a b) xs ys ha hb
          simp only [py, PyData.eqv, this, D.lst.injEq]
      | _ => first | (cases k <;> exact hb.elim) | simp [py, PyData.eqv]
    | tup xs =>
      cases b with
      | tup ys =>
        cases k with
        | zero => exact hb.elim
        | succ k =>
          have := pys_eqv (fun a b => ih k a b) xs ys ha hb
          simp only [py, PyData.eqv, this, D.tup.injEq]
      | _ => first | (cases k <;> exact hb.elim) | simp [py, PyData.eqv]
    | _ => first | exact ha.elim | (cases b <;> first | (cases k <;> exact hb.elim) | simp [py, PyData.eqv])
/-- True, False in lists -/
theorem eqv_bls : ∀ (xs ys : List Bool), (PyData.eqvAll (pys (xs.map D.bl)) (pys (ys.map D.bl)) = true ↔ xs = ys)
  | [], [] => by simp [pys, PyData.eqvAll]
  | [], _ :: _ => by simp [pys, PyData.eqvAll]
  | _ :: _, [] => by simp [pys, PyData.eqvAll]
  | x :: xs, y :: ys => by
    have b := eqv_bls xs ys
    simp only [List.map_cons, pys, py, PyData.eqvAll, PyData.eqv, Bool.and_eq_true, b, List.cons.injEq, beq_iff_eq]
theorem dp_all {K : Frag} {F : Hp} {n : Nat} (ih : ∀ d v, Sh n d → Den K F v d → Dp K F v (py d)) : ∀ (ds : List D) (vs : List V), (∀ x ∈ ds, Sh n x) → Dens K F vs ds → DpAll K F vs (pys ds)
  | [], _, _, .nil => .nil
  | d :: ds, _, h, .cons q qs => .cons (ih d _ (h d List.mem_cons_self) q) (dp_all ih ds _ (fun x hx => h x (List.mem_cons_of_mem _ hx)) qs)
theorem Den.dp {K : Frag} {F : Hp} : ∀ (n : Nat) (d : D) (v : V), Sh n d → Den K F v d → Dp K F v (py d)
  | n, .non, _, _, .non => .non
  | n, .bl _, _, _, .bl b => .bl b
  | n, .int _, _, _, .int i => .int i
  | n, .str _, _, _, .str x => .str x
  | n + 1, .lst ds, _, h, .lst q qs => .lst (.inl q) (dp_all (fun d v => Den.dp n d v) ds _ h qs)
  | n + 1, .tup ds, _, h, .tup q qs => .tup q (dp_all (fun d v => Den.dp n d v) ds _ h qs)
  | 0, .lst _, _, h, _ => h.elim
  | 0, .tup _, _, h, _ => h.elim
  | n, .ty _, _, h, _ => by cases n <;> exact h.elim
  | n, .dT _ _, _, h, _ => by cases n <;> exact h.elim
  | n, .lsk _, _, h, _ => by cases n <;> exact h.elim
  | n, .dK _ _, _, h, _ => by cases n <;> exact h.elim
  | n, .obj _ _ _, _, h, _ => by cases n <;> exact h.elim
  | n, .ref _, _, h, _ => by cases n <;> exact h.elim
mutual
theorem Dp.up {K : Frag} {F H : Hp} (e : Ex F H) : ∀ {v : V} {d : PyData}, Dp K F v d → Dp K H v d
  | _, _, .non => .non
  | _, _, .bl b => .bl b
  | _, _, .int i => .int i
  | _, _, .str x => .str x
  | _, _, .lst h hs => .lst (e.sqL h) (DpAll.up e hs)
  | _, _, .tup h hs => .tup (e.sqT h) (DpAll.up e hs)
theorem DpAll.up {K : Frag} {F H : Hp} (e : Ex F H) : ∀ {v : List V} {d : List PyData}, DpAll K F v d → DpAll K H v d
  | _, _, .nil => .nil
  | _, _, .cons h hs => .cons (Dp.up e h) (DpAll.up e hs)
end
/-- data seen through the ledger -/
def DV (m : Led) (d d' : D) : Prop := d = d' ∨ ∃ (i : Nat) (a : Addr) (ds : List D), d = .ref a ∧ m[i]? = some (a, .lst ds) ∧ d' = .lst ds
theorem DV.dp {K : Frag} {F H : Hp} {m : Led} {d d' : D} {v : V} {n : Nat} (h : DV m d d') (hs : Sh n d') (at_ : At K F m H) (q : Den K F v d) : Dp K H v (py d') := by
  rcases h with rfl | ⟨i, a, ds, rfl, hi, rfl⟩
  · exact Dp.up at_.sub (q.dp n _ _ hs)
  · cases q
    obtain ⟨hh, ⟨xs, rfl, qs⟩, e⟩ := at_.get hi
    cases n with
    | zero => exact hs.elim
    | succ n => exact .lst (.inl (.inl e)) (DpAll.up at_.sub (dp_all (fun d v => Den.dp n d v) ds _ hs qs))
section
variable {X : Cx} {d1 d2 e1 e2 : D} {m : Led} {R : D → Led → Prop}
def rEqP (K : Frag) : R2 := fun x y H Q => ∃ d e, Dp K H x d ∧ Dp K H y e ∧ d.plain = true ∧ e.plain = true ∧ d.depth ≤ 64 ∧ Q (.bl (PyData.eqv d e)) H
def rNeP (K : Frag) : R2 := fun x y H Q => ∃ d e, Dp K H x d ∧ Dp K H y e ∧ d.plain = true ∧ e.plain = true ∧ d.depth ≤ 64 ∧ Q (.bl (!PyData.eqv d e)) H
theorem op_eqP (hu : X.A.units + 64 < cLine) : OpR X (compareOp .Eq) (rEqP X.K) := by
  intro pins s σ H x y v u Q I rx ry h
  obtain ⟨d, e, hd, he, pd, pe, hz, q⟩ := h
  obtain ⟨as, r1⟩ := Dp.reads I d x v hd rx
  obtain ⟨bs, r2⟩ := Dp.reads I e y u he ry
  have : min d.depth e.depth ≤ d.depth := Nat.min_le_left _ _
  exact SeqAt.eq_plain r1 r2 pd pe (by omega) ⟨.bl _, H, I, rfl, q⟩
theorem op_neP (hu : X.A.units + 64 < cLine) : OpR X (compareOp .NotEq) (rNeP X.K) := by
  intro pins s σ H x y v u Q I rx ry h
  obtain ⟨d, e, hd, he, pd, pe, hz, q⟩ := h
  obtain ⟨as, r1⟩ := Dp.reads I d x v hd rx
  obtain ⟨bs, r2⟩ := Dp.reads I e y u he ry
  have : min d.depth e.depth ≤ d.depth := Nat.min_le_left _ _
  exact SeqAt.ne_plain r1 r2 pd pe (by omega) ⟨.bl _, H, I, rfl, q⟩
theorem o_eqP (hu : X.A.units + 64 < cLine) (h1 : DV m d1 e1) (h2 : DV m d2 e2) (s1 : Sh 20 e1) (s2 : Sh 20 e2) (k : R (.bl (PyData.eqv (py e1) (py e2))) m) : OX X (compareOp .Eq) d1 d2 m R := OX.of (op_eqP hu) fun F H x y q1 q2 at_ =>
  ⟨_, _, h1.dp s1 at_ q1, h2.dp s2 at_ q2, (s1.ok).1, (s2.ok).1, Nat.le_trans (s1.ok).2 (by decide), PQ.now at_ (.bl _) k⟩
theorem o_neP (hu : X.A.units + 64 < cLine) (h1 : DV m d1 e1) (h2 : DV m d2 e2) (s1 : Sh 20 e1) (s2 : Sh 20 e2) (k : R (.bl (!PyData.eqv (py e1) (py e2))) m) : OX X (compareOp .NotEq) d1 d2 m R := OX.of (op_neP hu) fun F H x y q1 q2 at_ =>
  ⟨_, _, h1.dp s1 at_ q1, h2.dp s2 at_ q2, (s1.ok).1, (s2.ok).1, Nat.le_trans (s1.ok).2 (by decide), PQ.now at_ (.bl _) k⟩
/-- without bools: the answer is whether the data are the same -/
theorem o_eqD (hu : X.A.units + 64 < cLine) (h1 : DV m d1 e1) (h2 : DV m d2 e2) (s1 : NB 20 e1) (s2 : NB 20 e2) (k : ∀ b : Bool, (b = true ↔ e1 = e2) → R (.bl b) m) : OX X (compareOp .Eq) d1 d2 m R :=
  o_eqP hu h1 h2 s1.sh s2.sh (k _ (eqv_iff 20 20 _ _ s1 s2))
theorem o_neD (hu : X.A.units + 64 < cLine) (h1 : DV m d1 e1) (h2 : DV m d2 e2) (s1 : NB 20 e1) (s2 : NB 20 e2) (k : ∀ b : Bool, (b = true ↔ e1 = e2) → R (.bl (!b)) m) : OX X (compareOp .NotEq) d1 d2 m R :=
  o_neP hu h1 h2 s1.sh s2.sh (k _ (eqv_iff 20 20 _ _ s1 s2))
end

/-! ### built-in calls -/
section
variable {X : Cx} {a b e : Expr} {es : List Expr} {ρ : Rn} {m : Led} {R : D → Led → Prop} {x : Str} {p pos : Pos} {d d1 d2 : D} {i j : Int}
theorem x_cb {id : String} (h : AX X (e :: es) ρ m fun ds m1 => BX X (.builtin id) ds m1 R) (hm : X.mg x = none) (hv : bootBuiltins x = some (.builtin id) := by decide +kernel) (hg : Gl X x := by rfl) (hn : x ≠ "__name__" := by decide) (hdb : (x == ("__debug__" : Str)) = false := by decide)
    (he : starEach (e :: es) X.env = (false, eval e X.env) :: starEach es X.env := by rfl) (hpl : (backTo pos (starEach es X.env)).any (·.1) = false := by rfl) : EX X (.Call (.Name x p) (e :: es) [] pos) ρ m R := .mk fun F σ H en at_ => by
  intro pins s I
  refine wpAny_Call_Name_kw (ld_blt I hg hm hv ?_ hn hdb)
  refine PyProof.Rows.callWith_builtin1 (thn (h.run F σ H en at_ pos pins s I) fun us s1 ⟨vs, H1, I1, r1, ds, F1, m1, st, q, k⟩ => ?_) he hpl
  exact thn (BX.run k F1 σ H1 vs pins s1 us q st.at2 I1 r1) fun w s3 ⟨v3, H3, I3, r3, k⟩ => ⟨v3, H3, I3, r3, PQ.step st k⟩
theorem x_ct {T : String} (h : AX X (e :: es) ρ m fun ds m1 => BX X (.type T) ds m1 R) (hm : X.mg x = none) (hv : bootBuiltins x = some (.type T) := by decide +kernel) (hg : Gl X x := by rfl) (hn : x ≠ "__name__" := by decide) (hdb : (x == ("__debug__" : Str)) = false := by decide)
    (he : starEach (e :: es) X.env = (false, eval e X.env) :: starEach es X.env := by rfl) (hpl : (backTo pos (starEach es X.env)).any (·.1) = false := by rfl) : EX X (.Call (.Name x p) (e :: es) [] pos) ρ m R := .mk fun F σ H en at_ => by
  intro pins s I
  refine wpAny_Call_Name_kw (ld_blt I hg hm hv ?_ hn hdb)
  refine PyProof.Rows.callWith_type1 (thn (h.run F σ H en at_ pos pins s I) fun us s1 ⟨vs, H1, I1, r1, ds, F1, m1, st, q, k⟩ => ?_) he hpl
  exact thn (BX.run k F1 σ H1 vs pins s1 us q st.at2 I1 r1) fun w s3 ⟨v3, H3, I3, r3, k⟩ => ⟨v3, H3, I3, r3, PQ.step st k⟩
theorem Dens.one {K : Frag} {F : Hp} {xs : List V} (h : Dens K F xs [d]) : ∃ v, xs = [v] ∧ Den K F v d := by cases h with | cons a b => cases b; exact ⟨_, rfl, a⟩
theorem Dens.two {K : Frag} {F : Hp} {xs : List V} (h : Dens K F xs [d1, d2]) : ∃ v w, xs = [v, w] ∧ Den K F v d1 ∧ Den K F w d2 := by
  cases h with
  | cons a b => cases b with | cons c e => cases e; exact ⟨_, _, rfl, a, c⟩
theorem b_len {ds : List D} (h : LstV m d ds) (k : R (.int ds.length) m) : BX X (.builtin "len") [d] m R := BX.of call_len_seq fun F H xs qs at_ => by
  obtain ⟨v, rfl, q⟩ := qs.one
  obtain ⟨p, ys, rfl, e1, s1⟩ := h.read at_ q
  exact ⟨p, ys, rfl, .inl (.inl e1), by rw [s1.length]; exact PQ.now at_ (.int _) k⟩
theorem b_lenT {ds : List D} (k : R (.int ds.length) m) : BX X (.builtin "len") [.tup ds] m R := BX.of call_len_seq fun F H xs qs at_ => by
  obtain ⟨v, rfl, q⟩ := qs.one
  obtain ⟨p, ys, rfl, e1, s1⟩ := tup_read at_ q
  exact ⟨p, ys, rfl, .inr e1, by rw [s1.length]; exact PQ.now at_ (.int _) k⟩
theorem b_lenS {z : Str} (hz : z.length ≤ 100000) (k : R (.int z.length) m) : BX X (.builtin "len") [.str z] m R := BX.of call_len_str fun F H xs qs at_ => by
  obtain ⟨v, rfl, q⟩ := qs.one
  exact ⟨z, by rw [q.str_inv], lenOk hz, PQ.now at_ (.int _) k⟩
theorem b_abs (k : R (.int (i.natAbs : Int)) m) : BX X (.builtin "abs") [.int i] m R := BX.of call_abs fun F H xs qs at_ => by
  obtain ⟨v, rfl, q⟩ := qs.one
  refine ⟨i, by rw [q.int_inv], ?_⟩
  have e : (if i < 0 then -i else i) = (i.natAbs : Int) := by split <;> omega
  rw [e]
  exact PQ.now at_ (.int _) k
theorem b_max2 (k : R (.int (max i j)) m) (hc : X.calm = true := by rfl) : BX X (.builtin "max") [.int i, .int j] m R := BX.of (call_max2 hc) fun F H xs qs at_ => by
  obtain ⟨v, w, rfl, q1, q2⟩ := qs.two
  refine ⟨i, j, by rw [q1.int_inv, q2.int_inv], ?_⟩
  have e : (if j > i then j else i) = max i j := by split <;> omega
  rw [e]
  exact PQ.now at_ (.int _) k
theorem b_min2 (k : R (.int (min i j)) m) (hc : X.calm = true := by rfl) : BX X (.builtin "min") [.int i, .int j] m R := BX.of (call_min2 hc) fun F H xs qs at_ => by
  obtain ⟨v, w, rfl, q1, q2⟩ := qs.two
  refine ⟨i, j, by rw [q1.int_inv, q2.int_inv], ?_⟩
  have e : (if j < i then j else i) = min i j := by split <;> omega
  rw [e]
  exact PQ.now at_ (.int _) k
theorem b_int (k : R (.int i) m) : BX X (.type "int") [.int i] m R := BX.of call_int1 fun F H xs qs at_ => by
  obtain ⟨v, rfl, q⟩ := qs.one
  exact .inl ⟨i, by rw [q.int_inv], PQ.now at_ (.int _) k⟩
theorem b_intB {c : Bool} (k : R (.int (if c then 1 else 0)) m) : BX X (.type "int") [.bl c] m R := BX.of call_int1 fun F H xs qs at_ => by
  obtain ⟨v, rfl, q⟩ := qs.one
  exact .inr ⟨c, by rw [q.bl_inv], PQ.now at_ (.int _) k⟩
theorem b_list {ds : List D} (h : LstV m d ds) (k : R (.lst ds) m) : BX X (.type "list") [d] m R := BX.of call_list_of fun F H xs qs at_ => by
  obtain ⟨v, rfl, q⟩ := qs.one
  obtain ⟨p, ys, rfl, e1, s1⟩ := h.read at_ q
  exact ⟨p, ys, rfl, .inl (.inl e1), fun l hl => new_lst at_ hl s1 k⟩
theorem b_listM {ds : List D} (h : LstV m d ds) (k : ∀ p, R (.ref p) (m ++ [(p, .lst ds)])) : BX X (.type "list") [d] m R := BX.of call_list_of fun F H xs qs at_ => by
  obtain ⟨v, rfl, q⟩ := qs.one
  obtain ⟨p, ys, rfl, e1, s1⟩ := h.read at_ q
  exact ⟨p, ys, rfl, .inl (.inl e1), fun l hl => new_lstM at_ hl s1 k⟩
theorem b_listK {ds : List D} (k : R (.lst ds) m) : BX X (.type "list") [.lsk ds] m R := BX.of call_list_of fun F H xs qs at_ => by
  obtain ⟨v, rfl, q⟩ := qs.one
  cases q with
  | lsk h hs => exact ⟨_, _, rfl, .inl (at_.sub.sqL h), fun l hl => new_lst at_ hl hs k⟩
theorem b_listT {ds : List D} (k : R (.lst ds) m) : BX X (.type "list") [.tup ds] m R := BX.of call_list_of fun F H xs qs at_ => by
  obtain ⟨v, rfl, q⟩ := qs.one
  obtain ⟨p, ys, rfl, e1, s1⟩ := tup_read at_ q
  exact ⟨p, ys, rfl, .inr e1, fun l hl => new_lst at_ hl s1 k⟩
theorem b_tuple {ds : List D} (h : LstV m d ds) (k : R (.tup ds) m) : BX X (.type "tuple") [d] m R := BX.of call_tuple_of fun F H xs qs at_ => by
  obtain ⟨v, rfl, q⟩ := qs.one
  obtain ⟨p, ys, rfl, e1, s1⟩ := h.read at_ q
  exact ⟨p, ys, rfl, .inl ⟨.inl e1, fun l hl => new_tup at_ hl s1 k⟩⟩
theorem b_tupleT {ds : List D} (k : R (.tup ds) m) : BX X (.type "tuple") [.tup ds] m R := BX.of call_tuple_of fun F H xs qs at_ => by
  obtain ⟨v, rfl, q⟩ := qs.one
  obtain ⟨p, ys, rfl, e1, s1⟩ := tup_read at_ q
  exact ⟨p, ys, rfl, .inr ⟨e1, PQ.now at_ q k⟩⟩
theorem b_sum {ns : List Int} (h : LstV m d (ns.map D.int)) (k : R (.int ns.sum) m) (hc : X.calm = true := by rfl) : BX X (.builtin "sum") [d] m R := BX.of (cr_sum hc) fun F H xs qs at_ => by
  obtain ⟨v, rfl, q⟩ := qs.one
  obtain ⟨p, ys, rfl, e1, s1⟩ := h.read at_ q
  exact ⟨p, ns, rfl, by rw [← s1.ints]; exact .inl e1, PQ.now at_ (.int _) k⟩
theorem b_all {bs : List Bool} (h : LstV m d (bs.map D.bl)) (k : R (.bl (bs.all id)) m) (hc : X.calm = true := by rfl) : BX X (.builtin "all") [d] m R := BX.of (cr_all hc) fun F H xs qs at_ => by
  obtain ⟨v, rfl, q⟩ := qs.one
  obtain ⟨p, ys, rfl, e1, s1⟩ := h.read at_ q
  exact ⟨p, bs, rfl, by rw [← s1.bls]; exact .inl e1, PQ.now at_ (.bl _) k⟩
theorem b_any {bs : List Bool} (h : LstV m d (bs.map D.bl)) (k : R (.bl (bs.any id)) m) (hc : X.calm = true := by rfl) : BX X (.builtin "any") [d] m R := BX.of (cr_any hc) fun F H xs qs at_ => by
  obtain ⟨v, rfl, q⟩ := qs.one
  obtain ⟨p, ys, rfl, e1, s1⟩ := h.read at_ q
  exact ⟨p, bs, rfl, by rw [← s1.bls]; exact .inl e1, PQ.now at_ (.bl _) k⟩
/-! isinstance -/
def tyD : D → Option String
  | .non => some "NoneType" | .bl _ => some "bool" | .int _ => some "int" | .str _ => some "str" | .lst _ => some "list" | .tup _ => some "tuple" | _ => none
theorem Den.tyx {K : Frag} {F H : Hp} {m : Led} {v : V} {d : D} {t : String} (at_ : At K F m H) (q : Den K F v d) (h : tyD d = some t) : TyX K H v (.type t) := by
  cases q <;> simp only [tyD, Option.some.injEq, reduceCtorEq] at h <;> subst h
  · exact .base .non
  · exact .base (.bl _)
  · exact .base (.int _)
  · exact .base (.str _)
  · rename_i h1 _
    rcases at_.sub.rd h1 with h1 | ⟨o, h1⟩
    · exact .base (.lst h1)
    · exact .base (.frz h1)
  · rename_i h1 _
    rcases at_.sub.sqT h1 with (h1 | ⟨o, h1⟩) | ⟨o, its, n, e, c, _⟩
    · exact .base (.tup h1)
    · exact .fTuple h1
    · exact .kTuple e c
theorem b_isi {t n : String} {c : Bool} (ht : tyD d = some t) (hk : kitB t n = some c) (k : R (.bl c) m) : BX X (.builtin "isinstance") [d, .ty n] m R := BX.of call_isi fun F H xs qs at_ => by
  obtain ⟨v, w, rfl, q1, q2⟩ := qs.two
  cases q2
  exact ⟨v, .ty n, _, _, c, rfl, .ty n, q1.tyx at_ ht, kit_ty hk, PQ.now at_ (.bl _) k⟩
end
end DL

namespace DL
open PySem PySem.Spec PyProof.Rows L2

/-! ### steps about an object that is neither frozen nor in the ledger -/
section
variable {K : Frag} {F F2 H H2 : Hp} {m m2 : Led} {p : Addr} {o : HO}
theorem At.notkey (a : At K F m H) (h : H p = none) : p ∉ keys m := fun z => by
  obtain ⟨q, hq, e⟩ := List.mem_map.mp z
  obtain ⟨hh, _, e2⟩ := a.led q hq
  rw [e, h] at e2; cases e2
theorem At.poke (a : At K F m H) (hF : F p = none) (hk : p ∉ keys m) : At K F m (upd H p o) :=
  ⟨fun x u e => by rw [upd_ne (ne_of_none e hF)]; exact a.sub x u e, fun q hq => by
    obtain ⟨hh, e1, e2⟩ := a.led q hq
    exact ⟨hh, e1, by rw [upd_ne (fun z : q.1 = p => hk (z ▸ List.mem_map.mpr ⟨q, hq, rfl⟩))]; exact e2⟩, a.dis, a.nod⟩
theorem Step.poke (s : Step K F m H F2 m2 H2) (hp : H p = none) (hF : F2 p = none) (hk : p ∉ keys m2) : Step K F m H F2 m2 (upd H2 p o) :=
  ⟨s.at2.poke hF hk, s.ex, fun a u e n => by rw [upd_ne (ne_of_none e hp)]; exact s.keep a u e n, s.frF, s.frM⟩
theorem Step.take (s : Step K F m H F2 m2 H2) (hp : H p = none) (hF : F2 p = none) (hk : p ∉ keys m2) (ho : H2 p = some o) : Step K F m H (upd F2 p o) m2 H2 := by
  refine ⟨⟨fun x u e => ?_, fun q hq => ?_, fun q hq => ?_, s.at2.nod⟩, s.ex.trans (Ex.new hF), s.keep, fun x u e n => ?_, s.frM⟩
  · by_cases hx : x = p
    · subst hx; rw [upd_same] at e; cases e; exact ho
    · rw [upd_ne hx] at e; exact s.at2.sub x u e
  · obtain ⟨hh, e1, e2⟩ := s.at2.led q hq
    exact ⟨hh, e1.mono (Ex.new hF), e2⟩
  · rw [upd_ne (fun z : q.1 = p => hk (z ▸ List.mem_map.mpr ⟨q, hq, rfl⟩))]; exact s.at2.dis q hq
  · by_cases hx : x = p
    · subst hx; exact .inl hp
    · rw [upd_ne hx] at e; exact s.frF x u e n
/-- what stays of such an object through a step -/
theorem Step.stay (s : Step K F m H F2 m2 H2) (hF : F p = none) (hk : p ∉ keys m) (ho : H p = some o) : H2 p = some o ∧ F2 p = none ∧ p ∉ keys m2 := by
  refine ⟨s.keep p o ho hk, ?_, fun z => ?_⟩
  · cases e : F2 p with
    | none => rfl
    | some u =>
      rcases s.frF p u e hF with z | z
      · rw [ho] at z; cases z
      · exact absurd z hk
  · rcases s.frM p z with q | q
    · exact hk q
    · rw [ho] at q; cases q
theorem Step.keepM (s : Step K F m H F2 m2 H2) (h : m2.Sublist m2) : True := trivial
end

/-! ### calls of defs -/
abbrev SpD := List D → Led → (D → Led → Prop) → Prop
def lift (K : Frag) (sp : SpD) : Sp := fun vs H Q _ => ∃ F m ds R, Dens K F vs ds ∧ At K F m H ∧ sp ds m R ∧ ∀ d m2 v F2 H2, R d m2 → Step K F m H F2 m2 H2 → Den K F2 v d → Q v H2
/-- a def that stands in the module, by its promise -/
structure Knows (P : Program) (w : World) (K : Frag) (mg : Str → Option Value) (base : Heap) (k : Nat) (x : Str) (n : Nat) (sp : SpD) : Prop where
  fn : ∃ f fd ps, FnOk P w K mg base CX0 k f fd ps (lift K sp) ∧ mg x = some (.ref f) ∧ PySem.W.keepIn K (.ref f) = true ∧ Binds K fd ps [] ∧ ps.length = n
section
variable {X : Cx} {e : Expr} {es : List Expr} {ρ : Rn} {m : Led} {R : D → Led → Prop} {x : Str} {p pos : Pos} {k n : Nat} {sp : SpD}
theorem x_call (G : Knows X.prog X.w X.K X.mg X.base k x n sp) (hr : Room k X.A) (h : AX X (e :: es) ρ m fun ds m1 => sp ds m1 R) (hg : Gl X x := by rfl)
    (hdb : (x == ("__debug__" : Str)) = false := by decide) (he : starEach (e :: es) X.env = (false, eval e X.env) :: starEach es X.env := by rfl) (hpl : (backTo pos (starEach es X.env)).any (·.1) = false := by rfl) :
    EX X (.Call (.Name x p) (e :: es) [] pos) ρ m R := .mk fun F σ H en at_ => by
  obtain ⟨f, fd, ps, FO, hm, hk, hb, hl⟩ := G.fn
  refine SE.of (pe_call FO hr hg hm hk hb .nil (E := E0) pass0 (pa_SA (es := e :: es)) hdb he hpl) ?_
  refine h.go en at_ fun vs ds F1 m1 H1 s1 en1 q r => ?_
  show lift X.K sp (vs ++ []) H1 _ _
  rw [List.append_nil]
  exact ⟨F1, m1, ds, R, q, s1.at2, r, fun d m2 v F2 H2 rd st qd => ⟨d, F2, m2, s1.trans st, qd, rd⟩⟩
theorem x_call0 (G : Knows X.prog X.w X.K X.mg X.base k x n sp) (hr : Room k X.A) (h : sp [] m R) (hg : Gl X x := by rfl)
    (hdb : (x == ("__debug__" : Str)) = false := by decide) : EX X (.Call (.Name x p) [] [] pos) ρ m R := .mk fun F σ H en at_ => by
  obtain ⟨f, fd, ps, FO, hm, hk, hb, hl⟩ := G.fn
  refine SE.of (pe_call0 FO hr hg hm hk hb .nil (E := E0) pass0 hdb) ?_
  exact ⟨F, m, [], R, .nil, at_, h, fun d m2 v F2 H2 rd st qd => ⟨d, F2, m2, st, qd, rd⟩⟩
end

/-! ### statements -/
section
variable {X : Cx} {e c tg it : Expr} {es : List Expr} {st : Stmt} {sts a b body : List Stmt} {ρ : Rn} {m : Led} {E : EndsD} {x : Str} {pos pos' p : Pos} {i : Nat}
theorem s_nil (h : E.nx ρ m) : SX X [] ρ m E := .mk fun F σ H en at_ => SSs.of pss_nil ⟨ρ, F, m, Step.refl at_, en, h⟩
theorem s_cons (h : S1 X st ρ m { E with nx := fun ρ' m' => SX X sts ρ' m' E }) : SX X (st :: sts) ρ m E := .mk fun F σ H en at_ => by
  refine SSs.of (pss_cons ps_SS pss_SS) ?_
  refine (h.run F σ H en at_).mono (fun σ2 H2 ⟨ρ2, F2, m2, s2, en2, k⟩ => ?_) (fun _ _ q => q) (fun _ _ q => q) fun _ _ q => q
  exact SSs.step s2 (SX.run k F2 σ2 H2 en2 s2.at2)
theorem s_expr (h : EX X e ρ m fun _ m1 => E.nx ρ m1) (hs : swapsWith e none pos.line X.env = pure false := by rfl) : S1 X (.Expr e pos) ρ m E := .mk fun F σ H en at_ =>
  SS.of (ps_expr (pe_SE (e := e)) hs) (h.go en at_ fun v d F1 m1 H1 s1 en1 q r => ⟨ρ, F1, m1, s1, en1, r⟩)
theorem s_ret (h : EX X e ρ m E.rt) : S1 X (.Return (some e) pos) ρ m E := .mk fun F σ H en at_ => SS.of (ps_ret (pe_SE (e := e))) (h.run F σ H en at_)
theorem s_retN (h : E.rt .non m) : S1 X (.Return none pos) ρ m E := .mk fun F σ H en at_ => SS.of ps_retN (PQ.now at_ .non h)
theorem s_pass (h : E.nx ρ m) : S1 X (.Pass pos) ρ m E := .mk fun F σ H en at_ => SS.of ps_pass ⟨ρ, F, m, Step.refl at_, en, h⟩
theorem s_break (h : E.bk ρ m) : S1 X (.Break pos) ρ m E := .mk fun F σ H en at_ => SS.of ps_break ⟨ρ, F, m, Step.refl at_, en, h⟩
theorem s_continue (h : E.ct ρ m) : S1 X (.Continue pos) ρ m E := .mk fun F σ H en at_ => SS.of ps_continue ⟨ρ, F, m, Step.refl at_, en, h⟩
theorem s_if (h : TX X c ρ m fun k m1 => (k = true → SX X a ρ m1 E) ∧ (k = false → SX X b ρ m1 E)) : S1 X (.If c a b pos) ρ m E := .mk fun F σ H en at_ =>
  SS.of (ps_if (pt_ST (e := c)) (pss_SS (sts := a)) (pss_SS (sts := b))) (h.go en at_ fun k F1 m1 H1 s1 en1 r => by
    cases k with
    | true => exact SSs.step s1 ((r.1 rfl).run F1 σ H1 en1 s1.at2)
    | false => exact SSs.step s1 ((r.2 rfl).run F1 σ H1 en1 s1.at2))
theorem s_set (h : EX X e ρ m fun d m1 => ∃ i ρ', SetAt ρ i x d ρ' ∧ E.nx ρ' m1) (hx : Loc X.env.scope x := by first | exact Or.inl rfl | exact Or.inr rfl) (hs : swapsWith e (some (.Name x pos')) pos.line X.env = pure false := by rfl)
    (hf : X.fn x = true ∨ X.env.scope.names.lookup x = some .local := by first | exact .inl rfl | exact .inr rfl | assumption) : S1 X (.Assign [.Name x pos'] e pos) ρ m E := .mk fun F σ H en at_ => by
  intro pins s I
  refine wpAny_Assign_Name (thn (h.run F σ H en at_ pins s I) fun v s1 ⟨y, H1, I1, r1, d, F1, m1, st, q, i, ρ', hset, k⟩ => ?_) hs
  exact store_ok I1 en.nd (en.ix hset) hx r1 (fun s2 I2 => ⟨_, H1, I2, ρ', F1, m1, st, (en.mono st.ex).set hset q, k⟩) hf
/-- name = [..] by a comprehension on one line -/
theorem g_name {R : Rn → Led → Prop} {d : D} {ρ' : Rn} (hset : SetAt ρ i x d ρ') (k : R ρ' m) (hx : Loc X.env.scope x := by first | exact Or.inl rfl | exact Or.inr rfl) (hf : X.fn x = true ∨ X.env.scope.names.lookup x = some .local := by first | exact .inl rfl | exact .inr rfl | assumption) : GX X (.Name x pos) d ρ m R := .mk fun F σ H v en at_ q =>
  SG.of (pg_name en.nd (en.ix hset) hx hf) ⟨ρ', F, m, Step.refl at_, en.set hset q, k⟩
structure GsX (X : Cx) (ts : List Expr) (ds : List D) (ρ : Rn) (m : Led) (R : Rn → Led → Prop) : Prop where
  ex : ∃ t, PGs X ts t ∧ ∀ F σ H vs, Env X F σ ρ → At X.K F m H → Dens X.K F vs ds → t vs σ H (PN X F m H R)
theorem gs_nil {R : Rn → Led → Prop} (k : R ρ m) : GsX X [] [] ρ m R := .mk ⟨_, pgs_nil, fun F σ H vs en at_ q => by cases q; exact ⟨rfl, ρ, F, m, Step.refl at_, en, k⟩⟩
theorem PGs.mono {ts : List Expr} {t : TGs} (h : PGs X ts t) : PGs X ts fun vs σ H Q => ∃ Q', t vs σ H Q' ∧ ∀ σ H, Q' σ H → Q σ H := ⟨fun pins s σ H vs us Q I r ⟨Q', q1, q2⟩ => thn (h.run pins s σ H vs us Q' I r q1) fun _ s' ⟨σ', H', I', k⟩ => ⟨σ', H', I', q2 _ _ k⟩⟩
theorem PGs.any {ts : List Expr} : PGs X ts fun vs σ H Q => ∃ t, PGs X ts t ∧ t vs σ H Q := ⟨fun pins s σ H vs us Q I r ⟨t, q1, q2⟩ => q1.run pins s σ H vs us Q I r q2⟩
theorem gs_cons {R : Rn → Led → Prop} {tg : Expr} {ts : List Expr} {d : D} {ds : List D} (h : GX X tg d ρ m fun ρ' m' => GsX X ts ds ρ' m' R) (hs : (assignEach (tg :: ts) X.env).map (·.2) = assign tg X.env :: (assignEach ts X.env).map (·.2) := by rfl) : GsX X (tg :: ts) (d :: ds) ρ m R :=
  .mk ⟨_, pgs_cons (pg_SG (tg := tg)) (PGs.mono PGs.any) hs, fun F σ H vs en at_ q => by
    cases q with
    | cons q1 q2 =>
      refine ⟨_, _, rfl, ?_⟩
      refine (h.run F σ H _ en at_ q1).mono fun σ2 H2 ⟨ρ2, F2, m2, s2, en2, ⟨t, pt, k⟩⟩ => ?_
      exact ⟨_, ⟨t, pt, k F2 σ2 H2 _ en2 s2.at2 (q2.mono s2.ex)⟩, fun _ _ z => PN.step s2 z⟩⟩
theorem g_tup {R : Rn → Led → Prop} {ts : List Expr} {ds : List D} {k : Nat} (h : GsX X ts ds ρ m R) (hc : X.calm = true := by rfl) (hn : (assignEach ts X.env).length = ds.length := by rfl) (hst : (assignEach ts X.env).findIdx? (·.1) = none := by rfl) : GX X (.Tuple ts k pos) (.tup ds) ρ m R := .mk fun F σ H v en at_ q => by
  obtain ⟨⟨t, pt, kk⟩⟩ := h
  obtain ⟨p, xs, rfl, e1, s1⟩ := tup_read at_ q
  exact SG.of (pg_tup hc pt (n := ds.length) hn hst) ⟨p, xs, rfl, e1, s1.length, kk F σ H xs en at_ s1⟩
/-- target = value -/
theorem s_asg (h : EX X e ρ m fun d m1 => GX X tg d ρ m1 E.nx) (hs : swapsWithSole [tg] e pos.line X.env = pure false := by rfl) (hw : swappedStores [tg] e X.env = pure none := by rfl)
    (h1 : (assignEach [tg] X.env).map (·.2) = [assign tg X.env] := by rfl) : S1 X (.Assign [tg] e pos) ρ m E := .mk fun F σ H en at_ =>
  SS.of (ps_asg (pe_SE (e := e)) (pg_SG (tg := tg)) hs hw h1) (h.go en at_ fun v d F1 m1 H1 s1 en1 q r => (GX.run r F1 σ H1 v en1 s1.at2 q).mono fun _ _ k => PN.step s1 k)
/-- a, b = x, y -/
theorem s_par {y : Str} {a b : Expr} {px py pt pt2 : Pos} {kt k2 : Nat} (h : AX X [a, b] ρ m fun ds m1 => ∃ d1 d2 i j ρ1 ρ2, ds = [d1, d2] ∧ SetAt ρ i x d1 ρ1 ∧ SetAt ρ1 j y d2 ρ2 ∧ i ≠ j ∧ E.nx ρ2 m1)
    (hw : swappedStores [.Tuple [.Name x px, .Name y py] kt pt] (.Tuple [a, b] k2 pt2) X.env = pure (some [x, y]) := by rfl) (hx : X.env.scope.names.lookup x = some .local := by rfl) (hy : X.env.scope.names.lookup y = some .local := by rfl) (hc : X.calm = true := by rfl)
    (hs : swapsWithSole [.Tuple [.Name x px, .Name y py] kt pt] (.Tuple [a, b] k2 pt2) pos.line X.env = pure false := by rfl) :
    S1 X (.Assign [.Tuple [.Name x px, .Name y py] kt pt] (.Tuple [a, b] k2 pt2) pos) ρ m E := .mk fun F σ H en at_ => by
  intro pins s I
  rw [exec_Assign_arm]
  refine wpAny_bind (wpAny_standAt ?_)
  rw [hs]
  refine wpAny_bind (wpAny_pure ?_)
  rw [if_neg (by decide)]
  refine wpAny_bind (Tuple_ (thn (h.run F σ H en at_ _ pins s I) fun us s1 ⟨vs, H1, I1, r1, ds, F1, m1, st, qd, d1, d2, i, j, ρ1, ρ2, ed, hi, hj, hij, k⟩ => ?_))
  subst ed
  obtain ⟨v, w, rfl, q1, q2⟩ := qd.two
  obtain ⟨u1, u2, rfl, rv, rw'⟩ := vals2 r1
  refine wpAny_newObj_type ?_ (by show 2 ≤ sizeLine; decide)
  have I2 : Inv X pins σ H1 { s1 with heap := s1.heap.push { cls := .type "tuple", data := .seq [u1, u2].toArray } } := I1.kept (t' := s1.toks) fun b o e => Heap.get?_push_of_some _ e
  rw [hw]
  refine wpAny_bind (wpAny_pure ?_)
  show wpAny (model X.prog X.w) X.A (do rule "assign.swapped-stores"; let items ← unpackItems (.ref s1.heap.objs.size) 2 none; assignInOrder [fun v => bindName X.env y v, fun v => bindName X.env x v] items.reverse; pure Flow.next) _ _ _
  refine wpAny_bind (wpAny_rule (wpAny_bind (unpackItems_tuple (items := #[u1, u2]) (I.ok.hd hc) (IsTup.new s1.heap _) fun h' hx' => ?_)))
  have I3 := I2.kept (h' := h') (t' := s1.toks) fun b o e => hx' b o (Nat.ne_of_lt (Heap.lt_size e)) e
  show wpAny _ _ (assignInOrder [fun v => bindName X.env y v, fun v => bindName X.env x v] [u2, u1] >>= fun _ => pure Flow.next) _ _ _
  have en1 := en.mono st.ex
  have en2 := en1.set hi q1
  have en3 := en2.set hj q2
  refine wpAny_bind (assignInOrder_cons (wpAny_bindName (store_ok I3 en.nd (en2.ix hj) (.inl hy) rw' (fun s2 I4 => ?_) (.inr hy))))
  refine assignInOrder_cons (wpAny_bindName (store_ok I4 en.nd (en.ix hi) (.inl hx) rv (fun s3 I5 => assignInOrder_nil (wpAny_pure ?_)) (.inr hx)))
  rw [List.set_comm _ _ (Ne.symm hij)] at I5
  exact ⟨_, H1, I5, ρ2, F1, m1, st, en3, k⟩
/-- name op= e, of a name that holds an int -/
def IpX (X : Cx) (op : Operator) (d1 d2 : D) (m : Led) (R : D → Led → Prop) : Prop := OX X (inplaceOp op) d1 d2 m R
theorem s_aug {op : Operator} {d0 : D} (hl : LookAt ρ i x d0) (h : EX X e ρ m fun d m1 => OX X (inplaceOp op) d0 d m1 fun z m2 => ∃ i ρ', SetAt ρ i x z ρ' ∧ E.nx ρ' m2) (hx : Loc X.env.scope x := by first | exact Or.inl rfl | exact Or.inr rfl) (hf : X.fn x = true ∨ X.env.scope.names.lookup x = some .local := by first | exact .inl rfl | exact .inr rfl | assumption) :
    S1 X (.AugAssign (.Name x pos') op e pos) ρ m E := .mk fun F σ H en at_ => by
  intro pins s I
  obtain ⟨hi, v, e1, q0⟩ := en.look hl
  obtain ⟨mm, hn, hlk⟩ := I.loc
  have vis : Vis X.env.scope x := by rcases hx with k | k; exact .inl k; exact .inr (.inl k)
  obtain ⟨u, r, l⟩ := hlk i x v hi e1 vis
  refine wpAny_AugAssign_Name ?_
  have go : wpAny (model X.prog X.w) X.A (eval e X.env) (fun w s₂ => wpAny (model X.prog X.w) X.A (inplaceOp op u w) (fun r s₃ => wpAny (model X.prog X.w) X.A (storeName X.env x r) (fun _ => SP X pins (ED X F m H E) .next) X.xe s₃) X.xe s₂) X.xe s := by
    refine thn (h.run F σ H en at_ pins s I) fun w s1 ⟨y, H1, I1, r1, d, F1, m1, st, q, k⟩ => ?_
    refine thn (OX.run k F1 σ H1 v y pins s1 u w (q0.mono st.ex) q st.at2 I1 r r1) fun z s2 ⟨zv, H2, I2, r2, dz, F2, m2, st2, q2, j, ρ', hset, kk⟩ => ?_
    exact store_ok I2 en.nd (en.ix hset) hx r2 (fun s3 I3 => ⟨_, H2, I3, ρ', F2, m2, st.trans st2, (en.mono (st.ex.trans st2.ex)).set hset q2, kk⟩) hf
  rcases l with ⟨hk, hm⟩ | ⟨hk, c, hc, hcell⟩
  · exact wpAny_loadName_local I.ok.kind hk hn hm go
  · rcases hk with hk | hk
    · exact wpAny_loadName_cell I.ok.kind hk hc hcell go
    · rcases hx with k | k
      · have : X.env.scope.names.lookup x = some .free := hk
        rw [k] at this; cases this
      · have : X.env.scope.names.lookup x = some .free := hk
        rw [k] at this; cases this
theorem o_iadd {R : D → Led → Prop} {i j : Int} (k : R (.int (i + j)) m) : OX X (inplaceOp .Add) (.int i) (.int j) m R := OX.i0 iop_add (fun _ => .int _) k
theorem o_isub {R : D → Led → Prop} {i j : Int} (k : R (.int (i - j)) m) : OX X (inplaceOp .Sub) (.int i) (.int j) m R := OX.i0 iop_sub (fun _ => .int _) k
/-- o[i] = v -/
structure StX (X : Cx) (d1 d2 d3 : D) (m : Led) (R : Led → Prop) : Prop where
  ex : ∃ t : TSet, PSet X t ∧ ∀ F H o i v, Den X.K F o d1 → Den X.K F i d2 → Den X.K F v d3 → At X.K F m H → t o i v H fun H2 => ∃ F2 m2, Step X.K F m H F2 m2 H2 ∧ R m2
theorem PSet.any : PSet X fun o i v H Q => ∃ (t : TSet) (Q' : Hp → Prop), PSet X t ∧ t o i v H Q' ∧ ∀ H', Q' H' → Q H' := fun pins s σ H o i v ov iv u Q I r1 r2 r3 ⟨t, Q', pt, q, k⟩ => thn (pt pins s σ H o i v ov iv u Q' I r1 r2 r3 q) fun _ s' ⟨H', I', z⟩ => ⟨H', I', k H' z⟩
theorem g_sub {o ix : Expr} {d : D} {R : Rn → Led → Prop} (h : EX X o ρ m fun d1 m1 => EX X ix ρ m1 fun d2 m2 => StX X d1 d2 d m2 fun m3 => R ρ m3)
    (ha : ∀ v, assign (.Subscript o ix pos) X.env v = (do
      let ov ← holding [v] (eval o X.env)
      let iv ← holding [v, ov] (eval ix X.env)
      standAt pos
      holding [v, ov, iv] (setItem ov iv v)
      release [v, ov, iv] []) := by intro _; rfl) : GX X (.Subscript o ix pos) d ρ m R := .mk fun F σ H v en at_ q => by
  refine SG.of (pg_sub (pe_SE (e := o)) (pe_SE (e := ix)) PSet.any ha) ?_
  refine h.go en at_ fun v1 d1 F1 m1 H1 s1 en1 q1 r1 => r1.go en1 s1.at2 fun v2 d2 F2 m2 H2 s2 en2 q2 ⟨⟨t, pt, r2⟩⟩ => ?_
  have st := s1.trans s2
  exact ⟨t, _, pt, r2 F2 H2 v1 v2 v (q1.mono s2.ex) q2 (q.mono st.ex) s2.at2, fun H' ⟨F3, m3, s3, k⟩ => ⟨ρ, F3, m3, st.trans s3, en2.mono s3.ex, k⟩⟩
theorem st_lst {j n : Nat} {a : Addr} {i : Int} {d : D} {ds : List D} {R : Led → Prop} (hm : m[n]? = some (a, .lst ds)) (hj : ixN ds.length i = some j) (k : R (m.set n (a, .lst (ds.set j d)))) : StX X (.ref a) (.int i) d m R := .mk ⟨_, set_list, fun F H o ix v q1 q2 q3 at_ => by
  cases q1
  obtain ⟨hh, ⟨xs, rfl, hs⟩, e⟩ := at_.get hm
  refine ⟨a, xs, i, j, rfl, q2.int_inv, e, by rw [hs.length]; exact hj, ?_⟩
  exact ⟨F, _, Step.write (o' := .lst (ds.set j d)) at_ hm ⟨_, rfl, hs.set j q3⟩, k⟩⟩
end

/-! ### methods of lists -/
section
variable {X : Cx} {o e : Expr} {es : List Expr} {ρ : Rn} {m : Led} {R : D → Led → Prop} {apos cpos : Pos} {n : Nat} {a : Addr} {ds : List D}
theorem x_append (h : EX X o ρ m fun d m1 => ∃ (a : Addr) (k : Nat) (ds0 : List D), d = .ref a ∧ m1[k]? = some (a, MO.lst ds0) ∧ EX X e ρ m1 fun y m2 => ∃ (n : Nat) (ds : List D), m2[n]? = some (a, .lst ds) ∧ ds.length < 100000 ∧ R .non (m2.set n (a, .lst (ds ++ [y]))))
    (hbase : attributeBase o "append" X.env (eval o X.env) = eval o X.env := by rfl)
    (hfew : ((backTo cpos (starEach [e] X.env)).all (fun x => !x.1) && (backToKw cpos (keywordEach [] X.env)).all (fun x => x.1.isSome)
      && decide ([e].length + ([] : List Keyword).length + (if ([] : List Keyword).isEmpty then 0 else 1) < 30)) = true := by rfl)
    (hline : (apos.endLine == cpos.line) = true := by rfl) (hs : starEach [e] X.env = (false, eval e X.env) :: starEach [] X.env := by rfl) :
    EX X (.Call (.Attribute o "append" apos) [e] [] cpos) ρ m R := .mk fun F σ H en at_ => by
  refine SE.of (pe_bm PySem.F.plainAttrs_list PySem.F.slot_list_append PySem.F.type_list_append mt_append (pe_SE (e := o)) (pa_cons (pe_SE (e := e)) pa_nil hs) hbase hfew hline hs rfl) ?_
  refine h.go en at_ fun v d F1 m1 H1 s1 en1 q ⟨a, k0, ds0, ed, hk0, r⟩ => ?_
  subst ed
  cases q
  refine ⟨?_, ?_⟩
  · obtain ⟨hh, ⟨xs, rfl, hs⟩, e2⟩ := s1.at2.get hk0
    exact .inl ⟨rfl, xs, .inl (.inl e2)⟩
  · refine r.go en1 s1.at2 fun y dy F2 m2 H2 s2 en2 q2 ⟨n, ds, hm, hl, k⟩ => ?_
    obtain ⟨hh, ⟨xs, rfl, hs⟩, e2⟩ := s2.at2.get hm
    refine ⟨a, xs, y, rfl, rfl, e2, lenLt (by rw [hs.length]; exact hl), ?_⟩
    exact ⟨_, F2, _, (s1.trans s2).trans (Step.write (o' := .lst (ds ++ [dy])) s2.at2 hm ⟨_, rfl, hs.snoc q2⟩), .non, k⟩
end
end DL

namespace DL
open PySem PySem.Spec PyProof.Rows L2 RZ

/-! ### what is walked -/
section
variable {X : Cx} {tg it a b : Expr} {ρ : Rn} {m : Led} {R : List D → Led → Prop} {p pos tpos : Pos}
theorem yd_at {K : Frag} {F1 H2 : Hp} {xs : List V} {ds : List D} {i : Nat} {x : V} {H3 : Hp} (hs : Dens K F1 xs ds) (y : YAt xs i H2 x H3) : YD K F1 ds i H2 x H3 := fun F2 m2 e at_ => by
  obtain ⟨rfl, hx⟩ := y
  obtain ⟨d, hd, q⟩ := hs.getV hx
  exact ⟨F2, d, hd, Step.refl at_, q.mono e⟩
theorem ix_lst (h : EX X it ρ m fun d m1 => ∃ ds, d = .lst ds ∧ R ds m1) : IX X tg it ρ m R := .mk fun F σ H en at_ =>
  SI.of (pi_list (pe_SE (e := it))) (h.go en at_ fun v d F1 m1 H1 s1 en1 q ⟨ds, ed, r⟩ => by
    subst ed
    cases q with
    | lst hq hs => exact ⟨_, rfl, ⟨_, .inl (s1.at2.sub.rd hq)⟩, ds, F1, m1, s1, r, by rw [← hs.length]; exact walk_list.mono (fun H' e => .inl (e.rd hq)) fun i H' x H'' _ _ y => yd_at hs y⟩)
theorem ix_tup (h : EX X it ρ m fun d m1 => ∃ ds, d = .tup ds ∧ R ds m1) : IX X tg it ρ m R := .mk fun F σ H en at_ =>
  SI.of (pi_tup (pe_SE (e := it))) (h.go en at_ fun v d F1 m1 H1 s1 en1 q ⟨ds, ed, r⟩ => by
    subst ed
    cases q with
    | tup hq hs => exact ⟨_, rfl, ⟨_, s1.at2.sub.sqT hq⟩, ds, F1, m1, s1, r, by rw [← hs.length]; exact walk_tup.mono (fun H' e => e.sqT hq) fun i H' x H'' _ _ y => yd_at hs y⟩)
/-- lo, lo + 1, .. n of them -/
def rangeD (lo : Int) (n : Nat) : List D := (List.range n).map fun (k : Nat) => D.int (lo + (k : Int))
theorem rangeD_len (lo : Int) (n : Nat) : (rangeD lo n).length = n := by unfold rangeD; rw [List.length_map, List.length_range]
theorem rangeD_get {lo : Int} {n i : Nat} (h : i < n) : (rangeD lo n)[i]? = some (.int (lo + (i : Int))) := by
  unfold rangeD
  rw [List.getElem?_map, List.getElem?_range h]; rfl
theorem walk_rangeD {K : Frag} {F1 : Hp} {lo : Int} {n : Nat} : Walk (Itr lo n) (rangeD lo n).length (fun H2 => Ex F1 H2) (YD K F1 (rangeD lo n)) := by
  rw [rangeD_len]
  refine walk_range.mono (fun _ _ => trivial) fun i H' x H'' hi _ y F2 m2 e at_ => ?_
  obtain ⟨rfl, rfl⟩ := y
  exact ⟨F2, _, rangeD_get hi, Step.refl at_, .int _⟩
theorem ix_range1 (h : EX X a ρ m fun d m1 => ∃ j : Int, d = .int j ∧ -100000 ≤ j ∧ j ≤ 100000 ∧ R (rangeD 0 j.toNat) m1) (hm : X.mg "range" = none) (hg : Gl X "range" := by rfl) (hs : starEach [a] X.env = [(false, eval a X.env)] := by rfl) : IX X tg (.Call (.Name "range" p) [a] [] pos) ρ m R := .mk fun F σ H en at_ =>
  SI.of (pi_range1 hg hm (pa_cons (pe_SE (e := a)) pa_nil hs) hs) (h.go en at_ fun v d F1 m1 H1 s1 en1 q ⟨j, ed, h1, h2, r⟩ => by
    subst ed
    exact ⟨j, by rw [q.int_inv], by omega, by omega, _, F1, m1, s1, r, walk_rangeD⟩)
theorem ix_range2 (h : EX X a ρ m fun d m1 => EX X b ρ m1 fun d2 m2 => ∃ i j : Int, d = .int i ∧ d2 = .int j ∧ (-100000 ≤ i ∧ i ≤ 100000 ∧ -100000 ≤ j ∧ j ≤ 100000) ∧ R (rangeD i (j - i).toNat) m2) (hm : X.mg "range" = none) (hg : Gl X "range" := by rfl)
    (hs : starEach [a, b] X.env = [(false, eval a X.env), (false, eval b X.env)] := by rfl) (hs2 : starEach [b] X.env = [(false, eval b X.env)] := by rfl) (hs1 : starEach [a, b] X.env = (false, eval a X.env) :: starEach [b] X.env := by rfl) : IX X tg (.Call (.Name "range" p) [a, b] [] pos) ρ m R := .mk fun F σ H en at_ =>
  SI.of (pi_range2 hg hm (pa_cons (pe_SE (e := a)) (pa_cons (pe_SE (e := b)) pa_nil hs2) hs1) hs hs2) (h.go en at_ fun v d F1 m1 H1 s1 en1 q r1 => r1.go en1 s1.at2 fun v2 d2 F2 m2 H2 s2 en2 q2 ⟨i, j, ed, ed2, hb, r⟩ => by
    subst ed
    subst ed2
    exact ⟨i, j, by rw [q.int_inv, q2.int_inv], by omega, _, F2, m2, s1.trans s2, r, walk_rangeD⟩)
/-- pairs -/
def zipD : List D → List D → List D
  | a :: as, b :: bs => .tup [a, b] :: zipD as bs
  | _, _ => []
theorem zipD_len : ∀ as bs : List D, (zipD as bs).length = min as.length bs.length
  | [], _ => by simp [zipD]
  | _ :: _, [] => by simp [zipD]
  | a :: as, b :: bs => by simp only [zipD, List.length_cons, zipD_len as bs]; omega
theorem zipD_get : ∀ {as bs : List D} {i : Nat} {a b : D}, as[i]? = some a → bs[i]? = some b → (zipD as bs)[i]? = some (.tup [a, b])
  | [], _, _, _, _, h, _ => by simp at h
  | _ :: _, [], _, _, _, _, h => by simp at h
  | x :: as, y :: bs, 0, a, b, h1, h2 => by simp at h1 h2; subst h1; subst h2; rfl
  | x :: as, y :: bs, i + 1, a, b, h1, h2 => by
    simp only [zipD, List.getElem?_cons_succ]
    exact zipD_get (by simpa using h1) (by simpa using h2)
theorem yd_pair {K : Frag} {F1 H2 : Hp} {xs ys : Nat → Option V} {ds : List D} {i : Nat} {x : V} {H3 : Hp} (h : ∀ u v, xs i = some u → ys i = some v → ∃ d1 d2, Den K F1 u d1 ∧ Den K F1 v d2 ∧ ds[i]? = some (.tup [d1, d2])) (y : YPair xs ys i H2 x H3) : YD K F1 ds i H2 x H3 := fun F2 m2 e at_ => by
  obtain ⟨T, u, v, rfl, hT, rfl, hu, hv⟩ := y
  obtain ⟨d1, d2, q1, q2, hd⟩ := h u v hu hv
  have nw := Step.new (o := .tup [u, v]) at_ hT
  exact ⟨_, _, hd, nw, .tup (.inl (.inl upd_same)) (.cons (q1.mono (e.trans nw.ex)) (.cons (q2.mono (e.trans nw.ex)) .nil))⟩
theorem ix_zip {elts : List Expr} {kk : Nat} (h : EX X a ρ m fun d m1 => EX X b ρ m1 fun d2 m2 => ∃ as bs, d = .lst as ∧ d2 = .lst bs ∧ R (zipD as bs) m2) (hm : X.mg "zip" = none) (hg : Gl X "zip" := by rfl)
    (hs : starEach [a, b] X.env = (false, eval a X.env) :: starEach [b] X.env := by rfl) (hs2 : starEach [b] X.env = (false, eval b X.env) :: starEach [] X.env := by rfl) (hpl : (backTo pos (starEach [b] X.env)).any (·.1) = false := by rfl) : IX X (.Tuple elts kk tpos) (.Call (.Name "zip" p) [a, b] [] pos) ρ m R := .mk fun F σ H en at_ =>
  SI.of (pi_zipA hg hm (pa_cons (pe_SE (e := a)) (pa_cons (pe_SE (e := b)) pa_nil hs2) hs) hs hpl) (h.go en at_ fun v d F1 m1 H1 s1 en1 q r1 => r1.go en1 s1.at2 fun v2 d2 F2 m2 H2 s2 en2 q2 ⟨as, bs, ed, ed2, r⟩ => by
    subst ed
    subst ed2
    cases q with
    | lst hq hqs =>
      cases q2 with
      | lst hq2 hqs2 =>
        have e1 := s2.ex
        refine ⟨_, _, _, _, rfl, .inl ⟨.inl (s2.at2.sub.rd (e1.rd hq)), .inl (s2.at2.sub.rd hq2), _, F2, m2, s1.trans s2, r, ?_⟩⟩
        refine Walk.mono (walk_zip (K := X.K) (n := (zipD as bs).length) (by rw [zipD_len, hqs.length, hqs2.length])) (fun H' e => ⟨.inl (e.rd (e1.rd hq)), .inl (e.rd hq2)⟩) fun i H' x H'' _ _ y => yd_pair (fun u w hu hw => ?_) y
        obtain ⟨d1, g1, q1⟩ := hqs.getV hu
        obtain ⟨d2, g2, q2⟩ := hqs2.getV hw
        exact ⟨d1, d2, q1.mono e1, q2, zipD_get g1 g2⟩)
theorem walk_zipT {K : Frag} {a b : Addr} {xs ys : List V} {n : Nat} (hn : n = min xs.length ys.length) : Walk (ItzT K a b) n (fun H => SqT K H a xs ∧ SqT K H b ys) (YPair (fun i => xs[i]?) (fun i => ys[i]?)) := by
  subst hn
  refine ⟨fun i _ hi q => ?_, fun _ q => ⟨xs, ys, q.1, q.2, by omega⟩, fun i H v H' _ q y => ?_⟩
  · have h1 : i < xs.length := by omega
    have h2 : i < ys.length := by omega
    exact ⟨xs, ys, xs[i], ys[i], q.1, q.2, by simp [h1], by simp [h2]⟩
  · obtain ⟨T, x, z, h1, h2, h3, h4, h5⟩ := y
    exact ⟨T, x, z, h1, h2, h3, h4 xs q.1, h5 ys q.2⟩
theorem ix_zipT {elts : List Expr} {kk : Nat} (h : EX X a ρ m fun d m1 => EX X b ρ m1 fun d2 m2 => ∃ as bs, d = .tup as ∧ d2 = .tup bs ∧ R (zipD as bs) m2) (hm : X.mg "zip" = none) (hg : Gl X "zip" := by rfl)
    (hs : starEach [a, b] X.env = (false, eval a X.env) :: starEach [b] X.env := by rfl) (hs2 : starEach [b] X.env = (false, eval b X.env) :: starEach [] X.env := by rfl) (hpl : (backTo pos (starEach [b] X.env)).any (·.1) = false := by rfl) : IX X (.Tuple elts kk tpos) (.Call (.Name "zip" p) [a, b] [] pos) ρ m R := .mk fun F σ H en at_ =>
  SI.of (pi_zipA hg hm (pa_cons (pe_SE (e := a)) (pa_cons (pe_SE (e := b)) pa_nil hs2) hs) hs hpl) (h.go en at_ fun v d F1 m1 H1 s1 en1 q r1 => r1.go en1 s1.at2 fun v2 d2 F2 m2 H2 s2 en2 q2 ⟨as, bs, ed, ed2, r⟩ => by
    subst ed
    subst ed2
    cases q with
    | tup hq hqs =>
      cases q2 with
      | tup hq2 hqs2 =>
        have e1 := s2.ex
        refine ⟨_, _, _, _, rfl, .inr ⟨s2.at2.sub.sqT (e1.sqT hq), s2.at2.sub.sqT hq2, _, F2, m2, s1.trans s2, r, ?_⟩⟩
        refine Walk.mono (walk_zipT (K := X.K) (n := (zipD as bs).length) (by rw [zipD_len, hqs.length, hqs2.length])) (fun H' e => ⟨e.sqT (e1.sqT hq), e.sqT hq2⟩) fun i H' x H'' _ _ y => yd_pair (fun u w hu hw => ?_) y
        obtain ⟨d1, g1, q1⟩ := hqs.getV hu
        obtain ⟨d2, g2, q2⟩ := hqs2.getV hw
        exact ⟨d1, d2, q1.mono e1, q2, zipD_get g1 g2⟩)
/-- enumerate -/
def enumD (as : List D) : List D := zipD (rangeD 0 as.length) as
theorem ix_enum {elts : List Expr} {kk : Nat} (h : EX X a ρ m fun d m1 => ∃ as, d = .lst as ∧ R (enumD as) m1) (hm : X.mg "enumerate" = none) (hg : Gl X "enumerate" := by rfl)
    (hs : starEach [a] X.env = [(false, eval a X.env)] := by rfl) (hs2 : starEach [a] X.env = (false, eval a X.env) :: starEach [] X.env := by rfl) : IX X (.Tuple elts kk tpos) (.Call (.Name "enumerate" p) [a] [] pos) ρ m R := .mk fun F σ H en at_ =>
  SI.of (pi_enum hg hm (pa_cons (pe_SE (e := a)) pa_nil hs2) hs) (h.go en at_ fun v d F1 m1 H1 s1 en1 q ⟨as, ed, r⟩ => by
    subst ed
    cases q with
    | lst hq hqs =>
      refine ⟨_, _, rfl, .inl (s1.at2.sub.rd hq), _, F1, m1, s1, r, ?_⟩
      have hl : (enumD as).length = as.length := by unfold enumD; rw [zipD_len, rangeD_len]; omega
      rw [hl, ← hqs.length]
      refine Walk.mono walk_enum (fun H' e => .inl (e.rd hq)) fun i H' x H'' hi _ y => yd_pair (fun u w hu hw => ?_) y
      obtain ⟨d2, g2, q2⟩ := hqs.getV hw
      have eu : u = .int (i : Nat) := (Option.some.inj hu).symm
      subst eu
      refine ⟨.int (i : Nat), d2, .int _, q2, ?_⟩
      have := zipD_get (rangeD_get (lo := 0) (n := as.length) (by rw [← hqs.length]; exact hi)) g2
      rw [Int.zero_add] at this
      exact this)
end

/-! ### for, while -/
section
variable {X : Cx} {c tg it : Expr} {body : List Stmt} {ρ : Rn} {m : Led} {E : EndsD} {pos : Pos}
def ForI (X : Cx) (tg : Expr) (body : List Stmt) (ρ : Rn) (E : EndsD) (ds : List D) (m1 : Led) : Prop := ∃ I : Nat → Rn → Led → Prop, I 0 ρ m1 ∧
  (∀ i d ρ' m', ds[i]? = some d → I i ρ' m' → GX X tg d ρ' m' fun ρ2 m2 => SX X body ρ2 m2 { E with nx := I (i + 1), ct := I (i + 1), bk := E.nx }) ∧ ∀ ρ' m', I ds.length ρ' m' → E.nx ρ' m'
theorem s_for (h : IX X tg it ρ m (ForI X tg body ρ E)) (hp : PassesOwn (model X.prog X.w) X.A X.env X.xe := by exact PassesOwn.never) (hc : X.calm = true := by rfl) (hs : ∀ x, foldedSetIterable it X.env x = pure x := by intro _; rfl) : S1 X (.For tg it body [] pos) ρ m E := .mk fun F σ H en at_ => by
  refine SS.of (ps_for hp hc (pi_SI (it := it)) (pg_SG (tg := tg)) (pss_SS (sts := body)) hs) ?_
  refine (h.run F σ H en at_).mono fun J H1 ⟨ds, F1, m1, st, ⟨I, i0, turn, done⟩, w⟩ => ?_
  refine for_it w (fun i σ' H' => ∃ ρ' F' m', Step X.K F1 m1 H1 F' m' H' ∧ Env X F' σ' ρ' ∧ I i ρ' m') ⟨ρ, F1, m1, Step.refl st.at2, en.mono st.ex, i0⟩ (fun i σ' H' _ ⟨ρ', F', m', s', _, _⟩ => s'.ex.trans s'.at2.sub) (fun i x σ' H' H'' hi ⟨ρ', F', m', s', en', hI⟩ y => ?_) (fun σ' H' ⟨ρ', F', m', s', en', hI⟩ => ⟨ρ', F', m', st.trans s', en', done ρ' m' hI⟩)
  obtain ⟨F3, d, hd, s3, q⟩ := y F' m' s'.ex s'.at2
  refine ((turn i d ρ' m' hd hI).run F3 σ' H'' x (en'.mono s3.ex) s3.at2 q).mono fun σ2 H2 ⟨ρ2, F4, m4, s4, en4, sx⟩ => ?_
  have sa := (s'.trans s3).trans s4
  refine (SX.run sx F4 σ2 H2 en4 s4.at2).mono (fun σ5 H5 ⟨ρ5, F5, m5, s5, en5, k⟩ => ⟨ρ5, F5, m5, sa.trans s5, en5, k⟩) (fun v H5 k => PQ.step (st.trans sa) k) (fun σ5 H5 ⟨ρ5, F5, m5, s5, en5, k⟩ => ⟨ρ5, F5, m5, (st.trans sa).trans s5, en5, k⟩) (fun σ5 H5 ⟨ρ5, F5, m5, s5, en5, k⟩ => ⟨ρ5, F5, m5, sa.trans s5, en5, k⟩)
theorem s_while (W : Nat → Rn → Led → Prop) (n0 : Nat) (h0 : W n0 ρ m) (hs : ∀ n ρ' m', W n ρ' m' → TX X c ρ' m' fun k m1 => (k = true → SX X body ρ' m1 { E with nx := fun ρ2 m2 => ∃ n2, n2 < n ∧ W n2 ρ2 m2, ct := fun ρ2 m2 => ∃ n2, n2 < n ∧ W n2 ρ2 m2, bk := E.nx }) ∧ (k = false → E.nx ρ' m1))
    (hp : PassesOwn (model X.prog X.w) X.A X.env X.xe := by exact PassesOwn.never) : S1 X (.While c body [] pos) ρ m E := .mk fun F σ H en at_ => by
  refine SS.of (ps_while hp (pt_ST (e := c)) (pss_SS (sts := body))) ?_
  refine ⟨fun n σ' H' => ∃ ρ' F' m', Step X.K F m H F' m' H' ∧ Env X F' σ' ρ' ∧ W n ρ' m', ⟨n0, ρ, F, m, Step.refl at_, en, h0⟩, fun n σ' H' ⟨ρ', F', m', s', en', w'⟩ => ?_⟩
  refine (hs n ρ' m' w').go en' s'.at2 fun k F1 m1 H1 s1 en1 r => ?_
  have sa := s'.trans s1
  cases k with
  | true =>
    rw [if_pos rfl]
    refine ⟨fun σ2 H2 => ∃ n2, n2 < n ∧ ∃ ρ' F' m', Step X.K F m H F' m' H2 ∧ Env X F' σ2 ρ' ∧ W n2 ρ' m', fun _ _ q => q, ?_⟩
    refine ((r.1 rfl).run F1 σ' H1 en1 s1.at2).mono (fun σ5 H5 ⟨ρ5, F5, m5, s5, en5, n2, hn, k⟩ => ⟨n2, hn, ρ5, F5, m5, sa.trans s5, en5, k⟩) (fun v H5 k => PQ.step sa k) (fun σ5 H5 ⟨ρ5, F5, m5, s5, en5, k⟩ => ⟨ρ5, F5, m5, sa.trans s5, en5, k⟩) (fun σ5 H5 ⟨ρ5, F5, m5, s5, en5, n2, hn, k⟩ => ⟨n2, hn, ρ5, F5, m5, sa.trans s5, en5, k⟩)
  | false =>
    rw [if_neg Bool.false_ne_true]
    exact ⟨ρ', F1, m1, sa, en1, r.2 rfl⟩
end

/-! ### comprehensions -/
inductive SlotAt : Rn → Nat → Str → Prop
  | here {x : Str} {o : Option D} {r : Rn} : SlotAt ((x, o) :: r) 0 x
  | there {x : Str} {r : Rn} {q : Str × Option D} {i : Nat} : SlotAt r i x → SlotAt (q :: r) (i + 1) x
theorem SlotAt.ix : ∀ {ρ : Rn} {i : Nat} {x : Str}, SlotAt ρ i x → (ρ.map (·.1))[i]? = some x
  | _, _, _, .here => rfl
  | _, _, _, .there h => by rw [List.map_cons, List.getElem?_cons_succ]; exact h.ix
theorem SlotAt.set : ∀ {ρ : Rn} {i : Nat} {x : Str}, SlotAt ρ i x → ∀ d, ∃ ρ', SetAt ρ i x d ρ'
  | _, _, _, .here, d => ⟨_, .here⟩
  | _, _, _, .there h, d => let ⟨_, k⟩ := h.set d; ⟨_, .there k⟩
section
variable {X : Cx} {elt it : Expr} {scope : Scope} {ρ : Rn} {m : Led} {R : D → Led → Prop} {pos py : Pos} {y : Str} {j : Nat}
theorem wipe1 {F : Hp} {σ : L2.St} {ρ2 : Rn} {d : D} {v : V} (en : Env X F σ ρ) (hset : SetAt ρ j y d ρ2) (q : Den X.K F v d) : Env X F ((L2.wipe σ [j]).set j (some v)) ρ2 := by
  have e : (L2.wipe σ [j]).set j (some v) = σ.set j (some v) := by
    show ((σ.set j none).set j (some v)) = _
    rw [List.set_set]
  rw [e]
  exact en.set hset q
theorem Env.blk {F : Hp} {σ : L2.St} {s : Shared} {H0 : Hp} {cenv : PySem.Env} {fp : List Addr} (en : Env X F σ ρ) : Env (X.blk s H0 scope cenv fp) F σ ρ := ⟨en.nd, en.nm, en.ev⟩
/-- what a turn of a comprehension asks: acc is what has been made -/
def CompI (X : Cx) (scope : Scope) (ifs : List Expr) (elt : Expr) (y : Str) (j : Nat) (ρ : Rn) (R : List D → Led → Prop) (ds : List D) (m1 : Led) : Prop := ∃ I : Nat → List D → Led → Prop, I 0 [] m1 ∧
  (∀ i d acc m', ds[i]? = some d → I i acc m' → ∃ ρ2, SetAt ρ j y d ρ2 ∧ ∀ (s : Shared) (H0 : Hp) (C : Addr) (cl : List (Str × Addr)) (fp : List Addr),
    match ifs with
    | [] => EX (X.blk s H0 scope (compEnvC scope cl C X.env) fp) elt ρ2 m' fun z m3 => acc.length < 100000 ∧ I (i + 1) (acc ++ [z]) m3
    | [c] => TX (X.blk s H0 scope (compEnvC scope cl C X.env) fp) c ρ2 m' fun k m2 => (k = true → ∀ (s : Shared) (H0 : Hp) (C : Addr) (cl : List (Str × Addr)) (fp : List Addr), EX (X.blk s H0 scope (compEnvC scope cl C X.env) fp) elt ρ2 m2 fun z m3 => acc.length < 100000 ∧ I (i + 1) (acc ++ [z]) m3) ∧ (k = false → I (i + 1) acc m2)
    | _ => False) ∧ ∀ acc m', I ds.length acc m' → R acc m'
def STs (X : Cx) (scope : Scope) (ifs : List Expr) : TT := fun σ H Q => match ifs with
  | [] => Q true H
  | [c] => ∀ s H0 C cl fp, ST (X.blk s H0 scope (compEnvC scope cl C X.env) fp) c σ H Q
  | _ => False
theorem pts_STs {ifs : List Expr} (s : Shared) (H0 : Hp) (C : Addr) (cl : List (Str × Addr)) (fp : List Addr) : PTs (X.blk s H0 scope (compEnvC scope cl C X.env) fp) ifs (STs X scope ifs) := by
  match ifs with
  | [] => exact pts_nil
  | [c] =>
    refine ⟨fun pins st σ H Q I h => ?_⟩
    exact (pts_one (pt_ST (X := X.blk s H0 scope (compEnvC scope cl C X.env) fp) (e := c))).run pins st σ H Q I (h s H0 C cl fp)
  | _ :: _ :: _ => exact ⟨fun _ _ _ _ _ _ h => False.elim h⟩
def SEb (X : Cx) (scope : Scope) (e : Expr) : TE := fun σ H Q => ∀ s H0 C cl fp, SE (X.blk s H0 scope (compEnvC scope cl C X.env) fp) e σ H Q
theorem pe_SEb {e : Expr} (s : Shared) (H0 : Hp) (C : Addr) (cl : List (Str × Addr)) (fp : List Addr) : PE (X.blk s H0 scope (compEnvC scope cl C X.env) fp) e (SEb X scope e) := ⟨fun pins st σ H Q I h => h s H0 C cl fp pins st I⟩
/-- the core: the reading of a comprehension over data -/
theorem lc_read {ifs : List Expr} {F σ H} (hl1 : ifs.length ≤ 1) (en : Env X F σ ρ) (at_ : At X.K F m H) (R : List D → Led → Prop) (QQ : VK) (h : IX X (.Name y py) it ρ m (CompI X scope ifs elt y j ρ R))
    (fin : ∀ Dl acc vs F1 m1 H1 F' m' H', Step X.K F m H F1 m1 H1 → H1 Dl = none → Step X.K F1 m1 H1 F' m' H' → F' Dl = none → Dl ∉ keys m' → H' Dl = some (.lst vs) → Dens X.K F' vs acc → R acc m' → QQ (.ref Dl) H') : tLc (SI X (.Name y py) it) (gName j) (STs X scope ifs) (SEb X scope elt) [j] σ H QQ := by
  refine (h.run F σ H en at_).mono fun J H1 ⟨ds, F1, m1, st, ⟨I, i0, turn, done⟩, w⟩ => fun Dl hDl => ?_
  have hF1 : F1 Dl = none := st.at2.sub.free hDl
  have hk1 : Dl ∉ keys m1 := st.at2.notkey hDl
  refine lc_it w (fun i H' => ∃ acc vs F' m', Step X.K F1 m1 H1 F' m' H' ∧ H' Dl = some (.lst vs) ∧ Dens X.K F' vs acc ∧ I i acc m' ∧ F' Dl = none ∧ Dl ∉ keys m') ⟨[], [], F1, m1, (Step.refl st.at2).poke hDl hF1 hk1, upd_same, .nil, i0, hF1, hk1⟩
    (fun i H' _ ⟨acc, vs, F', m', s', _⟩ => s'.ex.trans s'.at2.sub) (fun i x H' H'' hi ⟨acc, vs, F', m', s', hl, hs, hI, hF', hk'⟩ yy => ?_) (fun H' ⟨acc, vs, F', m', s', hl, hs, hI, hF', hk'⟩ => ?_)
  · obtain ⟨F3, d, hd, s3, q⟩ := yy F' m' s'.ex s'.at2
    obtain ⟨ρ2, hset, turn⟩ := turn i d acc m' hd hI
    obtain ⟨a1, a2, a3⟩ := s3.stay hF' hk' hl
    have en2 := wipe1 (en.mono (st.ex.trans (s'.ex.trans s3.ex))) hset q
    have fin : ∀ {F4 m4 H4 v z}, Step X.K F3 m' H'' F4 m4 H4 → Den X.K F4 v z → acc.length < 100000 ∧ I (i + 1) (acc ++ [z]) m4 → ∃ acc, H4 Dl = some (.lst acc) ∧ acc.length < sizeLine ∧ ∃ acc_1 vs F' m', Step X.K F1 m1 H1 F' m' (upd H4 Dl (.lst (acc ++ [v]))) ∧ upd H4 Dl (.lst (acc ++ [v])) Dl = some (.lst vs) ∧ Dens X.K F' vs acc_1 ∧ I (i + 1) acc_1 m' ∧ F' Dl = none ∧ Dl ∉ keys m' := fun {F4 m4 H4 v z} s4 q4 hh => by
      obtain ⟨b1, b2, b3⟩ := s4.stay a2 a3 a1
      exact ⟨vs, b1, lenLt (by rw [hs.length]; exact hh.1), acc ++ [z], vs ++ [v], F4, m4, ((s'.trans s3).trans s4).poke hDl b2 b3, upd_same, (hs.mono (s3.ex.trans s4.ex)).snoc q4, hh.2, b2, b3⟩
    refine ⟨wipe_back (by simp), ?_⟩
    match ifs, turn with
    | [], turn =>
      unfold STs
      dsimp only
      rw [if_pos rfl]
      intro s H0 C cl fp
      exact EX.go (turn s H0 C cl fp) en2.blk s3.at2 fun v z F4 m4 H4 s4 _ q4 hh => fin s4 q4 hh
    | [c], turn =>
      show ∀ s H0 C cl fp, ST (X.blk s H0 scope (compEnvC scope cl C X.env) fp) c _ H'' _
      intro s H0 C cl fp
      refine TX.go (turn s H0 C cl fp) en2.blk s3.at2 fun k F4 m4 H4 s4 _ r => ?_
      cases k with
      | true =>
        rw [if_pos rfl]
        intro s' H0' C' cl' fp'
        exact EX.go (r.1 rfl s' H0' C' cl' fp') (en2.mono s4.ex).blk s4.at2 fun v z F5 m5 H5 s5 _ q5 hh => fin (s4.trans s5) q5 hh
      | false =>
        rw [if_neg Bool.false_ne_true]
        obtain ⟨b1, b2, b3⟩ := Step.stay s4 a2 a3 a1
        exact ⟨acc, vs, F4, m4, (s'.trans s3).trans s4, b1, hs.mono (s3.ex.trans s4.ex), r.2 rfl, b2, b3⟩
    | _ :: _ :: _, turn => exact absurd hl1 (by simp)
  · exact fin Dl acc vs F1 m1 H1 F' m' H' st hDl s' hF' hk' hl hs (done acc m' (by simpa using hI))
/-- the list as it is made: frozen, or in the ledger -/
theorem lc_frz {R : List D → Led → Prop} {F H F1 H1 F' H' : Hp} {m1 m' : Led} {Dl : Addr} {acc : List D} {vs : List V} (st : Step X.K F m H F1 m1 H1) (hDl : H1 Dl = none) (s' : Step X.K F1 m1 H1 F' m' H') (hF' : F' Dl = none) (hk' : Dl ∉ keys m') (hl : H' Dl = some (.lst vs)) (hs : Dens X.K F' vs acc) :
    ∃ F2, Step X.K F m H F2 m' H' ∧ Den X.K F2 (.ref Dl) (.lst acc) :=
  ⟨_, st.trans (s'.take hDl hF' hk' hl), .lst (.inl upd_same) (hs.mono (Ex.new hF'))⟩
theorem Step.takeM {K : Frag} {F H F2 H2 : Hp} {m m2 : Led} {p : Addr} {h : HO} {mo : MO} (s : Step K F m H F2 m2 H2) (hp : H p = none) (hF : F2 p = none) (hk : p ∉ keys m2) (ho : H2 p = some h) (hm : MDen K F2 mo h) : Step K F m H F2 (m2 ++ [(p, mo)]) H2 := by
  refine ⟨⟨s.at2.sub, fun q hq => ?_, fun q hq => ?_, ?_⟩, s.ex, s.keep, s.frF, fun x hx => ?_⟩
  · rcases List.mem_append.mp hq with hq | hq
    · exact s.at2.led q hq
    · obtain rfl : q = (p, mo) := by simpa using hq
      exact ⟨h, hm, ho⟩
  · rcases List.mem_append.mp hq with hq | hq
    · exact s.at2.dis q hq
    · obtain rfl : q = (p, mo) := by simpa using hq
      exact hF
  · show (List.map (·.1) (m2 ++ [(p, mo)])).Nodup
    rw [List.map_append]
    refine List.nodup_append.mpr ⟨s.at2.nod, by simp, fun x hx y hy => ?_⟩
    obtain rfl : y = p := by simpa using hy
    exact fun z => hk (z ▸ hx)
  · have hx' : x ∈ List.map (·.1) (m2 ++ [(p, mo)]) := hx
    rw [List.map_append] at hx'
    rcases List.mem_append.mp hx' with q | q
    · exact s.frM x q
    · obtain rfl : x = p := by simpa using q
      exact .inr hp
/-- [elt for y in it if ..] -/
theorem x_lc {ifs : List Expr} (hj : SlotAt ρ j y) (h : IX X (.Name y py) it ρ m (CompI X scope ifs elt y j ρ fun acc m' => R (.lst acc) m')) (hl1 : ifs.length ≤ 1 := by decide) (hok : blkC X.N X.env.scope scope [(y, j)] = true := by kernel_rfl)
    (hx : ∀ cl C, Loc (compEnvC scope cl C X.env).scope y := by intro _ _; first | exact Or.inl rfl | exact Or.inr rfl) (hf : ∀ cl C, (scope.names.lookup y == some .cell) = true ∨ (compEnvC scope cl C X.env).scope.names.lookup y = some .local := by intro _ _; first | exact .inl rfl | exact .inr rfl)
    (hc : X.calm = true := by rfl) (hs : ∀ x, foldedSetIterable it X.env x = pure x := by intro _; rfl) : EX X (.ListComp elt [⟨.Name y py, it, ifs, 0⟩] scope pos) ρ m R := .mk fun F σ H en at_ =>
  SE.of (pe_lc (own := [(y, j)]) hc en.nd (pi_SI (it := it)) (blkOk_by hok) (fun s H0 C cl fp => pg_name (X := X.blk s H0 scope (compEnvC scope cl C X.env) fp) (i := j) en.nd (by show X.N[j]? = some y; rw [← en.nm]; exact hj.ix) (hx cl C) (hf cl C)) (fun s H0 C cl fp => pts_STs s H0 C cl fp) (fun s H0 C cl fp => pe_SEb s H0 C cl fp) hs)
    (lc_read hl1 en at_ _ _ h (fun Dl acc vs F1 m1 H1 F' m' H' st hD s' hF hk hl hs r => let ⟨F2, st2, q⟩ := lc_frz (R := fun _ _ => True) st hD s' hF hk hl hs; ⟨_, F2, m', st2, q, r⟩))
/-- x = [..] on one line, x a local -/
theorem s_setLc {ifs : List Expr} {E : EndsD} {x : Str} {i : Nat} {px spos : Pos} (hj : SlotAt ρ j y) (hi : SlotAt ρ i x) (h : IX X (.Name y py) it ρ m (CompI X scope ifs elt y j ρ fun acc m' => ∃ ρ', SetAt ρ i x (.lst acc) ρ' ∧ E.nx ρ' m'))
    (hxl : X.env.scope.names.lookup x = some .local := by rfl) (ha : (scope.names.any fun (n, k) => n == x && (k == .local || k == .cell)) = false := by decide +kernel) (hk : X.env.scope.kind = .function := by rfl) (hln : (px.line == pos.line) = true := by rfl)
    (hl1 : ifs.length ≤ 1 := by decide) (hok : blkC X.N X.env.scope scope [(y, j)] = true := by kernel_rfl)
    (hx : ∀ cl C, Loc (compEnvC scope cl C X.env).scope y := by intro _ _; first | exact Or.inl rfl | exact Or.inr rfl) (hf : ∀ cl C, (scope.names.lookup y == some .cell) = true ∨ (compEnvC scope cl C X.env).scope.names.lookup y = some .local := by intro _ _; first | exact .inl rfl | exact .inr rfl)
    (hc : X.calm = true := by rfl) (hs : ∀ x, foldedSetIterable it X.env x = pure x := by intro _; rfl) : S1 X (.Assign [.Name x px] (.ListComp elt [⟨.Name y py, it, ifs, 0⟩] scope pos) spos) ρ m E := .mk fun F σ H en at_ =>
  SS.of (ps_setLc (i := i) (own := [(y, j)]) hc en.nd (by rw [← en.nm]; exact hi.ix) hxl (sw_true hk hxl hln ha) (pi_SI (it := it)) (blkOk_by hok) (fun s H0 C cl fp => pg_name (X := X.blk s H0 scope (compEnvC scope cl C X.env) fp) (i := j) en.nd (by show X.N[j]? = some y; rw [← en.nm]; exact hj.ix) (hx cl C) (hf cl C)) (fun s H0 C cl fp => pts_STs s H0 C cl fp) (fun s H0 C cl fp => pe_SEb s H0 C cl fp) hs)
    (lc_read hl1 en at_ _ _ h (fun Dl acc vs F1 m1 H1 F' m' H' st hD s' hF hk hl hs ⟨ρ', hset, r⟩ => let ⟨F2, st2, q⟩ := lc_frz (R := fun _ _ => True) st hD s' hF hk hl hs; ⟨ρ', F2, m', st2, (en.mono st2.ex).set hset q, r⟩))
/-- the same, the list to be changed -/
theorem x_lcM {ifs : List Expr} (hj : SlotAt ρ j y) (h : IX X (.Name y py) it ρ m (CompI X scope ifs elt y j ρ fun acc m' => ∀ p, R (.ref p) (m' ++ [(p, .lst acc)]))) (hl1 : ifs.length ≤ 1 := by decide) (hok : blkC X.N X.env.scope scope [(y, j)] = true := by kernel_rfl)
    (hx : ∀ cl C, Loc (compEnvC scope cl C X.env).scope y := by intro _ _; first | exact Or.inl rfl | exact Or.inr rfl) (hf : ∀ cl C, (scope.names.lookup y == some .cell) = true ∨ (compEnvC scope cl C X.env).scope.names.lookup y = some .local := by intro _ _; first | exact .inl rfl | exact .inr rfl)
    (hc : X.calm = true := by rfl) (hs : ∀ x, foldedSetIterable it X.env x = pure x := by intro _; rfl) : EX X (.ListComp elt [⟨.Name y py, it, ifs, 0⟩] scope pos) ρ m R := .mk fun F σ H en at_ =>
  SE.of (pe_lc (own := [(y, j)]) hc en.nd (pi_SI (it := it)) (blkOk_by hok) (fun s H0 C cl fp => pg_name (X := X.blk s H0 scope (compEnvC scope cl C X.env) fp) (i := j) en.nd (by show X.N[j]? = some y; rw [← en.nm]; exact hj.ix) (hx cl C) (hf cl C)) (fun s H0 C cl fp => pts_STs s H0 C cl fp) (fun s H0 C cl fp => pe_SEb s H0 C cl fp) hs)
    (lc_read hl1 en at_ _ _ h (fun Dl acc vs F1 m1 H1 F' m' H' st hD s' hF hk hl hs r => ⟨_, F', _, st.trans (s'.takeM hD hF hk hl (mo := .lst acc) ⟨vs, rfl, hs⟩), .ref Dl, r Dl⟩))

theorem s_setLcM {ifs : List Expr} {E : EndsD} {x : Str} {i : Nat} {px spos : Pos} (hj : SlotAt ρ j y) (hi : SlotAt ρ i x) (h : IX X (.Name y py) it ρ m (CompI X scope ifs elt y j ρ fun acc m' => ∀ p, ∃ ρ', SetAt ρ i x (.ref p) ρ' ∧ E.nx ρ' (m' ++ [(p, .lst acc)])))
    (hxl : X.env.scope.names.lookup x = some .local := by rfl) (ha : (scope.names.any fun (n, k) => n == x && (k == .local || k == .cell)) = false := by decide +kernel) (hk : X.env.scope.kind = .function := by rfl) (hln : (px.line == pos.line) = true := by rfl)
    (hl1 : ifs.length ≤ 1 := by decide) (hok : blkC X.N X.env.scope scope [(y, j)] = true := by kernel_rfl)
    (hx : ∀ cl C, Loc (compEnvC scope cl C X.env).scope y := by intro _ _; first | exact Or.inl rfl | exact Or.inr rfl) (hf : ∀ cl C, (scope.names.lookup y == some .cell) = true ∨ (compEnvC scope cl C X.env).scope.names.lookup y = some .local := by intro _ _; first | exact .inl rfl | exact .inr rfl)
    (hc : X.calm = true := by rfl) (hs : ∀ x, foldedSetIterable it X.env x = pure x := by intro _; rfl) : S1 X (.Assign [.Name x px] (.ListComp elt [⟨.Name y py, it, ifs, 0⟩] scope pos) spos) ρ m E := .mk fun F σ H en at_ =>
  SS.of (ps_setLc (i := i) (own := [(y, j)]) hc en.nd (by rw [← en.nm]; exact hi.ix) hxl (sw_true hk hxl hln ha) (pi_SI (it := it)) (blkOk_by hok) (fun s H0 C cl fp => pg_name (X := X.blk s H0 scope (compEnvC scope cl C X.env) fp) (i := j) en.nd (by show X.N[j]? = some y; rw [← en.nm]; exact hj.ix) (hx cl C) (hf cl C)) (fun s H0 C cl fp => pts_STs s H0 C cl fp) (fun s H0 C cl fp => pe_SEb s H0 C cl fp) hs)
    (lc_read hl1 en at_ _ _ h (fun Dl acc vs F1 m1 H1 F' m' H' st hD s' hF hk hl hs r => let ⟨ρ', hset, r2⟩ := r Dl; have st2 := st.trans (s'.takeM hD hF hk hl (mo := .lst acc) ⟨vs, rfl, hs⟩); ⟨ρ', F', _, st2, (en.mono st2.ex).set hset (.ref Dl), r2⟩))
end

/-! ### a def -/
def startR : List Str → List D → Rn
  | [], _ => []
  | x :: N, [] => (x, none) :: startR N []
  | x :: N, d :: ds => (x, some d) :: startR N ds
theorem startR_names : ∀ (N : List Str) (ds : List D), (startR N ds).map (·.1) = N
  | [], _ => rfl
  | x :: N, [] => by simp only [startR, List.map_cons, startR_names N []]
  | x :: N, d :: ds => by simp only [startR, List.map_cons, startR_names N ds]
theorem startR_envs {K : Frag} {F : Hp} : ∀ (N : List Str) (vs : List V) (ds : List D), vs.length ≤ N.length → Dens K F vs ds → Envs K F (start N vs) ((startR N ds).map (·.2))
  | N, _, _, hl, .nil => by
    refine ⟨?_, fun i d h => ?_⟩
    · have e := congrArg List.length (startR_names N [])
      rw [List.length_map] at e
      rw [List.length_map, e]
      unfold L2.start
      simp
    have key : ∀ (N : List Str) (i : Nat), ((startR N []).map (·.2))[i]? = some (some d) → False := by
      intro N
      induction N with
      | nil => intro i h; simp [startR] at h
      | cons x N ih =>
        intro i h
        cases i with
        | zero => simp [startR] at h
        | succ i => exact ih i (by simpa [startR] using h)
    exact (key N i h).elim
  | [], _, _, hl, .cons _ _ => by simp at hl
  | x :: N, v :: vs, d :: ds, hl, .cons q qs => by
    have ih := startR_envs (K := K) (F := F) N vs ds (by simpa using hl) qs
    have es : start (x :: N) (v :: vs) = some v :: start N vs := by
      unfold L2.start
      simp
    rw [es]
    refine ⟨by simp only [startR, List.map_cons, List.length_cons, ih.len], fun i e h => ?_⟩
    cases i with
    | zero =>
      have : e = d := by simp [startR] at h; exact h.symm
      subst this
      exact ⟨v, rfl, q⟩
    | succ i => exact ih.get i e (by simpa [startR] using h)
section
variable {P : Program} {w : World} {K : Frag} {mg : Str → Option Value} {base : Heap}
/-- THE RULE for a def that raises nothing -/
theorem def_ok {x qual : Str} {st : Stmt} {f : Addr} {fd : FuncData} {N ps : List Str} {k : Nat} {sp : SpD} (F : Fun K x qual st f fd) (S : FnScope N ps (defScope st)) (len : ∀ ds m R, sp ds m R → ds.length = ps.length)
    (body : ∀ (cdv : Value) (A : Around) (outer : List PySem.Env) (s : Shared) (H : Hp) (ds : List D) (m : Led) (R : D → Led → Prop), Room k (A.deeper (envOfC qual (defScope st) s.heap.objs.size f cdv)) → sp ds m R →
      SX (cxOf CX0 P w K mg base N qual (defScope st) f cdv A outer s H E0).nox (defBody st) (startR N ds) m { nx := fun _ m2 => ∃ m3, m3.Sublist m2 ∧ R .non m3, rt := fun d m2 => ∃ m3, m3.Sublist m2 ∧ R d m3 }) : FnOk P w K mg base CX0 (k + 1) f fd ps (lift K sp) := by
  refine F.ok S (fun vs H Q E ⟨F0, m, ds, R, q, _, h, _⟩ => by rw [q.length]; exact len ds m R h) (fun cdv A outer s H vs Q E hr ⟨F0, m, ds, R, q, at_, h, k⟩ => ?_)
  refine ⟨_, pss_SS, ?_⟩
  have hb := body cdv A outer s H ds m R hr h
  have hl : vs.length ≤ N.length := by
    rw [q.length, len ds m R h]
    have := congrArg List.length S.pre
    rw [List.length_take] at this
    omega
  have en : DL.Env (cxOf CX0 P w K mg base N qual (defScope st) f cdv A outer s H E).nox F0 (start N vs) (startR N ds) := ⟨S.nd, startR_names N ds, startR_envs N vs ds hl q⟩
  refine (hb.run F0 (start N vs) H en at_).mono (fun σ2 H2 ⟨ρ2, F2, m2, s2, en2, m3, sl, r⟩ => ?_) (fun v H2 ⟨d, F2, m2, s2, q2, m3, sl, r⟩ => ?_) (fun _ _ ⟨_, _, _, _, _, z⟩ => z) (fun _ _ ⟨_, _, _, _, _, z⟩ => z)
  · exact k .non m3 .non F2 H2 r (s2.trans (Step.drop s2.at2 sl)) .non
  · exact k d m3 v F2 H2 r (s2.trans (Step.drop s2.at2 sl)) q2
end
/-- ghost: a list of the ledger is frozen between two statements -/
theorem s_freeze {X : Cx} {sts : List Stmt} {ρ ρ' : Rn} {m : Led} {E : EndsD} {i n : Nat} {x : Str} {p : Addr} {ds : List D} (hm : m[n]? = some (p, .lst ds)) (hl : LookAt ρ i x (.ref p)) (hs : SetAt ρ i x (.lst ds) ρ') (h : SX X sts ρ' (m.eraseIdx n) E) : SX X sts ρ m E := .mk fun F σ H en at_ => by
  obtain ⟨F2, s2, q2⟩ := Step.freeze at_ hm
  have en2 := (en.mono s2.ex).set hs q2
  obtain ⟨hN, v, e1, q⟩ := en.look hl
  cases q
  have e : σ.set i (some (.ref p)) = σ := by
    apply List.ext_getElem?
    intro j
    by_cases hj : i = j
    · subst hj
      rw [List.getElem?_set_self (List.getElem?_eq_some_iff.mp e1).1, e1]
    · rw [List.getElem?_set_ne hj]
  rw [e] at en2
  exact SSs.step s2 (h.run F2 σ H en2 s2.at2)
theorem s_drop {X : Cx} {sts : List Stmt} {ρ : Rn} {m m2 : Led} {E : EndsD} (sl : m2.Sublist m) (h : SX X sts ρ m2 E) : SX X sts ρ m E := .mk fun F σ H en at_ => SSs.step (Step.drop at_ sl) (h.run F σ H en (Step.drop at_ sl).at2)
end DL

namespace DL
open PySem PySem.Spec PyProof.Rows L2 RZ
section
variable {X : Cx} {a b e tg it : Expr} {es : List Expr} {ρ : Rn} {m : Led} {R : D → Led → Prop} {x : Str} {p pos tpos : Pos} {k n : Nat} {sp : SpD} {mg : Str → Option Value}
theorem c_call {P : Program} {w : World} {K : Frag} {base : Heap} (G : Knows P w K mg base k x n sp) (hr : Room k X.A) (h : AX X (e :: es) ρ m fun ds m1 => sp ds m1 R) (hX : X.prog = P ∧ X.w = w ∧ X.K = K ∧ X.mg = mg ∧ X.base = base := by exact ⟨rfl, rfl, rfl, rfl, rfl⟩) (hg : Gl X x := by rfl)
    (hdb : (x == ("__debug__" : Str)) = false := by decide) (he : starEach (e :: es) X.env = (false, eval e X.env) :: starEach es X.env := by rfl) (hpl : (backTo pos (starEach es X.env)).any (·.1) = false := by rfl) :
    EX X (.Call (.Name x p) (e :: es) [] pos) ρ m R := by
  obtain ⟨rfl, rfl, rfl, rfl, rfl⟩ := hX
  exact x_call G hr h hg hdb he hpl
theorem c_call0 {P : Program} {w : World} {K : Frag} {base : Heap} (G : Knows P w K mg base k x n sp) (hr : Room k X.A) (h : sp [] m R) (hX : X.prog = P ∧ X.w = w ∧ X.K = K ∧ X.mg = mg ∧ X.base = base := by exact ⟨rfl, rfl, rfl, rfl, rfl⟩) (hg : Gl X x := by rfl)
    (hdb : (x == ("__debug__" : Str)) = false := by decide) : EX X (.Call (.Name x p) [] [] pos) ρ m R := by
  obtain ⟨rfl, rfl, rfl, rfl, rfl⟩ := hX
  exact x_call0 G hr h hg hdb
/-- built-ins by name: hm is found by its name -/
theorem c_cb {id : String} (hm : mg x = none) (hv : bootBuiltins x = some (.builtin id)) (h : AX X (e :: es) ρ m fun ds m1 => BX X (.builtin id) ds m1 R) (hX : X.mg = mg := by rfl) (hg : Gl X x := by rfl) (hn : x ≠ "__name__" := by decide) (hdb : (x == ("__debug__" : Str)) = false := by decide)
    (he : starEach (e :: es) X.env = (false, eval e X.env) :: starEach es X.env := by rfl) (hpl : (backTo pos (starEach es X.env)).any (·.1) = false := by rfl) : EX X (.Call (.Name x p) (e :: es) [] pos) ρ m R := by
  subst hX
  exact x_cb h hm hv hg hn hdb he hpl
theorem c_ct {T : String} (hm : mg x = none) (hv : bootBuiltins x = some (.type T)) (h : AX X (e :: es) ρ m fun ds m1 => BX X (.type T) ds m1 R) (hX : X.mg = mg := by rfl) (hg : Gl X x := by rfl) (hn : x ≠ "__name__" := by decide) (hdb : (x == ("__debug__" : Str)) = false := by decide)
    (he : starEach (e :: es) X.env = (false, eval e X.env) :: starEach es X.env := by rfl) (hpl : (backTo pos (starEach es X.env)).any (·.1) = false := by rfl) : EX X (.Call (.Name x p) (e :: es) [] pos) ρ m R := by
  subst hX
  exact x_ct h hm hv hg hn hdb he hpl
theorem c_ty {nn : String} (hm : mg x = none) (hv : bootBuiltins x = some (.type nn)) (kk : R (.ty nn) m) (hX : X.mg = mg := by rfl) (h : Gl X x := by rfl) (hn : x ≠ "__name__" := by decide) (hd : (x == ("__debug__" : Str)) = false := by decide) : EX X (.Name x pos) ρ m R := by
  subst hX
  exact x_ty kk hm hv h hn hd
theorem c_glob {K : Frag} {d : D} (hgc : GC K mg x d) (kk : R d m) (hX : X.mg = mg ∧ X.K = K := by exact ⟨rfl, rfl⟩) (h : Gl X x := by rfl) (hd : (x == ("__debug__" : Str)) = false := by decide) : EX X (.Name x pos) ρ m R := by
  obtain ⟨rfl, rfl⟩ := hX
  exact x_glob hgc kk h hd
theorem bt_int : bootBuiltins "int" = some (.type "int") := by decide +kernel
theorem bt_list : bootBuiltins "list" = some (.type "list") := by decide +kernel
theorem bt_tuple : bootBuiltins "tuple" = some (.type "tuple") := by decide +kernel
theorem bt_dict : bootBuiltins "dict" = some (.type "dict") := by decide +kernel
theorem bt_bool : bootBuiltins "bool" = some (.type "bool") := by decide +kernel
theorem bt_str : bootBuiltins "str" = some (.type "str") := by decide +kernel
theorem bt_len : bootBuiltins "len" = some (.builtin "len") := by decide +kernel
theorem bt_max : bootBuiltins "max" = some (.builtin "max") := by decide +kernel
theorem bt_min : bootBuiltins "min" = some (.builtin "min") := by decide +kernel
theorem bt_abs : bootBuiltins "abs" = some (.builtin "abs") := by decide +kernel
theorem bt_sum : bootBuiltins "sum" = some (.builtin "sum") := by decide +kernel
theorem bt_all : bootBuiltins "all" = some (.builtin "all") := by decide +kernel
theorem bt_any : bootBuiltins "any" = some (.builtin "any") := by decide +kernel
theorem bt_sorted : bootBuiltins "sorted" = some (.builtin "sorted") := by decide +kernel
theorem bt_isinstance : bootBuiltins "isinstance" = some (.builtin "isinstance") := by decide +kernel
theorem bt_iter : bootBuiltins "iter" = some (.builtin "iter") := by decide +kernel
end
section
variable {X : Cx} {a b e tg it : Expr} {ρ : Rn} {m : Led} {R : List D → Led → Prop} {p pos tpos : Pos} {mg : Str → Option Value}
theorem j_range1 (hm : mg "range" = none) (h : EX X a ρ m fun d m1 => ∃ j : Int, d = .int j ∧ -100000 ≤ j ∧ j ≤ 100000 ∧ R (rangeD 0 j.toNat) m1) (hX : X.mg = mg := by rfl) (hg : Gl X "range" := by rfl) (hs : starEach [a] X.env = [(false, eval a X.env)] := by rfl) : IX X tg (.Call (.Name "range" p) [a] [] pos) ρ m R := by
  subst hX
  exact ix_range1 h hm hg hs
theorem j_range2 (hm : mg "range" = none) (h : EX X a ρ m fun d m1 => EX X b ρ m1 fun d2 m2 => ∃ i j : Int, d = .int i ∧ d2 = .int j ∧ (-100000 ≤ i ∧ i ≤ 100000 ∧ -100000 ≤ j ∧ j ≤ 100000) ∧ R (rangeD i (j - i).toNat) m2) (hX : X.mg = mg := by rfl) (hg : Gl X "range" := by rfl)
    (hs : starEach [a, b] X.env = [(false, eval a X.env), (false, eval b X.env)] := by rfl) (hs2 : starEach [b] X.env = [(false, eval b X.env)] := by rfl) (hs1 : starEach [a, b] X.env = (false, eval a X.env) :: starEach [b] X.env := by rfl) : IX X tg (.Call (.Name "range" p) [a, b] [] pos) ρ m R := by
  subst hX
  exact ix_range2 h hm hg hs hs2 hs1
theorem j_zip {elts : List Expr} {kk : Nat} (hm : mg "zip" = none) (h : EX X a ρ m fun d m1 => EX X b ρ m1 fun d2 m2 => ∃ as bs, ((d = .lst as ∧ d2 = .lst bs) ∨ (d = .tup as ∧ d2 = .tup bs)) ∧ R (zipD as bs) m2) (hX : X.mg = mg := by rfl) (hg : Gl X "zip" := by rfl)
    (hs : starEach [a, b] X.env = (false, eval a X.env) :: starEach [b] X.env := by rfl) (hs2 : starEach [b] X.env = (false, eval b X.env) :: starEach [] X.env := by rfl) (hpl : (backTo pos (starEach [b] X.env)).any (·.1) = false := by rfl) : IX X (.Tuple elts kk tpos) (.Call (.Name "zip" p) [a, b] [] pos) ρ m R := by
  subst hX
  refine .mk fun F σ H en at_ => ?_
  refine SI.of (pi_zipA hg hm (pa_cons (pe_SE (e := a)) (pa_cons (pe_SE (e := b)) pa_nil hs2) hs) hs hpl) (h.go en at_ fun v d F1 m1 H1 s1 en1 q r1 => r1.go en1 s1.at2 fun v2 d2 F2 m2 H2 s2 en2 q2 ⟨as, bs, ed, r⟩ => ?_)
  rcases ed with ⟨rfl, rfl⟩ | ⟨rfl, rfl⟩
  · cases q with
    | lst hq hqs =>
      cases q2 with
      | lst hq2 hqs2 =>
        have e1 := s2.ex
        refine ⟨_, _, _, _, rfl, .inl ⟨.inl (s2.at2.sub.rd (e1.rd hq)), .inl (s2.at2.sub.rd hq2), _, F2, m2, s1.trans s2, r, ?_⟩⟩
        refine Walk.mono (walk_zip (K := X.K) (n := (zipD as bs).length) (by rw [zipD_len, hqs.length, hqs2.length])) (fun H' e => ⟨.inl (e.rd (e1.rd hq)), .inl (e.rd hq2)⟩) fun i H' x H'' _ _ y => yd_pair (fun u w hu hw => ?_) y
        obtain ⟨d1, g1, q1⟩ := hqs.getV hu
        obtain ⟨d2, g2, q2⟩ := hqs2.getV hw
        exact ⟨d1, d2, q1.mono e1, q2, zipD_get g1 g2⟩
  · cases q with
    | tup hq hqs =>
      cases q2 with
      | tup hq2 hqs2 =>
        have e1 := s2.ex
        refine ⟨_, _, _, _, rfl, .inr ⟨s2.at2.sub.sqT (e1.sqT hq), s2.at2.sub.sqT hq2, _, F2, m2, s1.trans s2, r, ?_⟩⟩
        refine Walk.mono (walk_zipT (K := X.K) (n := (zipD as bs).length) (by rw [zipD_len, hqs.length, hqs2.length])) (fun H' e => ⟨e.sqT (e1.sqT hq), e.sqT hq2⟩) fun i H' x H'' _ _ y => yd_pair (fun u w hu hw => ?_) y
        obtain ⟨d1, g1, q1⟩ := hqs.getV hu
        obtain ⟨d2, g2, q2⟩ := hqs2.getV hw
        exact ⟨d1, d2, q1.mono e1, q2, zipD_get g1 g2⟩
theorem j_enum {elts : List Expr} {kk : Nat} (hm : mg "enumerate" = none) (h : EX X a ρ m fun d m1 => ∃ as, d = .lst as ∧ R (enumD as) m1) (hX : X.mg = mg := by rfl) (hg : Gl X "enumerate" := by rfl)
    (hs : starEach [a] X.env = [(false, eval a X.env)] := by rfl) (hs2 : starEach [a] X.env = (false, eval a X.env) :: starEach [] X.env := by rfl) : IX X (.Tuple elts kk tpos) (.Call (.Name "enumerate" p) [a] [] pos) ρ m R := by
  subst hX
  exact ix_enum h hm hg hs hs2
theorem px_none {X : Cx} {ρ : Rn} {m : Led} {R : Option Int → Led → Prop} (h : R none m) : PX X none ρ m R := h
theorem px_some {X : Cx} {e : Expr} {ρ : Rn} {m : Led} {R : Option Int → Led → Prop} (h : EX X e ρ m fun d m1 => ∃ i, d = .int i ∧ R (some i) m1) : PX X (some e) ρ m R := h
end
/-! lists and tuples alike -/
def Seq (d : D) (ds : List D) : Prop := d = .lst ds ∨ d = .tup ds
def iSeq (X : Cx) (it : Expr) : TI := fun σ H R => SE X it σ H fun x H1 => ∃ a, x = .ref a ∧ (((∃ xs, SqL X.K H1 a xs) ∧ R (Itl X.K a) H1) ∨ ((∃ xs, SqT X.K H1 a xs) ∧ R (Itt X.K a) H1))
theorem pi_seq {X : Cx} {tg l : Expr} : PI X tg l (iSeq X l) := by
  refine ⟨fun pins s σ H R I h => ?_⟩
  refine thn (h pins s I) fun v s1 ⟨x, H1, I1, r1, q1⟩ => ?_
  obtain ⟨a, e, ⟨⟨xs, hq⟩, q⟩ | ⟨⟨xs, hq⟩, q⟩⟩ := q1
  · subst e
    cases r1
    obtain ⟨its, rv, p, hz⟩ := I1.list hq
    refine wpAny_pyIter_list p.isList ?_
    refine ⟨s1.heap.objs.size, [s1.heap.objs.size], _, _, H1, rfl, I1.kept (t' := s1.toks) fun b o e => Heap.get?_push_of_some _ e, turn_list a _, ⟨_, Heap.get?_push_size _ rfl, rfl, rfl⟩, fun b hb => ?_, q⟩
    have e : b = s1.heap.objs.size := by simpa using hb
    subst e
    exact I1.fpOk (Nat.le_refl _) (I1.hok.fresh (Nat.le_refl _))
  · subst e
    cases r1
    obtain ⟨its, rv, p, hz⟩ := I1.tuple hq
    refine wpAny_pyIter_tuple (show s1.heap.IsTuple a its.toArray from p) ?_
    refine ⟨s1.heap.objs.size, [s1.heap.objs.size], _, _, H1, rfl, I1.kept (t' := s1.toks) fun b o e => Heap.get?_push_of_some _ e, turn_tuple a _, ⟨_, Heap.get?_push_size _ rfl, rfl, rfl⟩, fun b hb => ?_, q⟩
    have e : b = s1.heap.objs.size := by simpa using hb
    subst e
    exact I1.fpOk (Nat.le_refl _) (I1.hok.fresh (Nat.le_refl _))
theorem ix_seq {X : Cx} {tg it : Expr} {ρ : Rn} {m : Led} {R : List D → Led → Prop} (h : EX X it ρ m fun d m1 => ∃ ds, Seq d ds ∧ R ds m1) : IX X tg it ρ m R := .mk fun F σ H en at_ =>
  SI.of pi_seq (h.go en at_ fun v d F1 m1 H1 s1 en1 q ⟨ds, ed, r⟩ => by
    rcases ed with rfl | rfl
    · cases q with
      | lst hq hs => exact ⟨_, rfl, .inl ⟨⟨_, .inl (s1.at2.sub.rd hq)⟩, ds, F1, m1, s1, r, by rw [← hs.length]; exact walk_list.mono (fun H' e => .inl (e.rd hq)) fun i H' x H'' _ _ y => yd_at hs y⟩⟩
    · cases q with
      | tup hq hs => exact ⟨_, rfl, .inr ⟨⟨_, s1.at2.sub.sqT hq⟩, ds, F1, m1, s1, r, by rw [← hs.length]; exact walk_tup.mono (fun H' e => e.sqT hq) fun i H' x H'' _ _ y => yd_at hs y⟩⟩)
/-! isinstance, by kinds -/
section
variable {X : Cx} {m : Led} {R : D → Led → Prop}
theorem isi_NoneType_int (k : R (.bl false) m) : BX X (.builtin "isinstance") [.non, .ty "int"] m R := b_isi rfl (show kitB "NoneType" "int" = some false by decide +kernel) k
theorem isi_NoneType_bool (k : R (.bl false) m) : BX X (.builtin "isinstance") [.non, .ty "bool"] m R := b_isi rfl (show kitB "NoneType" "bool" = some false by decide +kernel) k
theorem isi_NoneType_list (k : R (.bl false) m) : BX X (.builtin "isinstance") [.non, .ty "list"] m R := b_isi rfl (show kitB "NoneType" "list" = some false by decide +kernel) k
theorem isi_NoneType_tuple (k : R (.bl false) m) : BX X (.builtin "isinstance") [.non, .ty "tuple"] m R := b_isi rfl (show kitB "NoneType" "tuple" = some false by decide +kernel) k
theorem isi_NoneType_dict (k : R (.bl false) m) : BX X (.builtin "isinstance") [.non, .ty "dict"] m R := b_isi rfl (show kitB "NoneType" "dict" = some false by decide +kernel) k
theorem isi_NoneType_str (k : R (.bl false) m) : BX X (.builtin "isinstance") [.non, .ty "str"] m R := b_isi rfl (show kitB "NoneType" "str" = some false by decide +kernel) k
theorem isi_bool_int {c : Bool} (k : R (.bl true) m) : BX X (.builtin "isinstance") [.bl c, .ty "int"] m R := b_isi rfl (show kitB "bool" "int" = some true by decide +kernel) k
theorem isi_bool_bool {c : Bool} (k : R (.bl true) m) : BX X (.builtin "isinstance") [.bl c, .ty "bool"] m R := b_isi rfl (show kitB "bool" "bool" = some true by decide +kernel) k
theorem isi_bool_list {c : Bool} (k : R (.bl false) m) : BX X (.builtin "isinstance") [.bl c, .ty "list"] m R := b_isi rfl (show kitB "bool" "list" = some false by decide +kernel) k
theorem isi_bool_tuple {c : Bool} (k : R (.bl false) m) : BX X (.builtin "isinstance") [.bl c, .ty "tuple"] m R := b_isi rfl (show kitB "bool" "tuple" = some false by decide +kernel) k
theorem isi_bool_dict {c : Bool} (k : R (.bl false) m) : BX X (.builtin "isinstance") [.bl c, .ty "dict"] m R := b_isi rfl (show kitB "bool" "dict" = some false by decide +kernel) k
theorem isi_bool_str {c : Bool} (k : R (.bl false) m) : BX X (.builtin "isinstance") [.bl c, .ty "str"] m R := b_isi rfl (show kitB "bool" "str" = some false by decide +kernel) k
theorem isi_int_int {i : Int} (k : R (.bl true) m) : BX X (.builtin "isinstance") [.int i, .ty "int"] m R := b_isi rfl (show kitB "int" "int" = some true by decide +kernel) k
theorem isi_int_bool {i : Int} (k : R (.bl false) m) : BX X (.builtin "isinstance") [.int i, .ty "bool"] m R := b_isi rfl (show kitB "int" "bool" = some false by decide +kernel) k
theorem isi_int_list {i : Int} (k : R (.bl false) m) : BX X (.builtin "isinstance") [.int i, .ty "list"] m R := b_isi rfl (show kitB "int" "list" = some false by decide +kernel) k
theorem isi_int_tuple {i : Int} (k : R (.bl false) m) : BX X (.builtin "isinstance") [.int i, .ty "tuple"] m R := b_isi rfl (show kitB "int" "tuple" = some false by decide +kernel) k
theorem isi_int_dict {i : Int} (k : R (.bl false) m) : BX X (.builtin "isinstance") [.int i, .ty "dict"] m R := b_isi rfl (show kitB "int" "dict" = some false by decide +kernel) k
theorem isi_int_str {i : Int} (k : R (.bl false) m) : BX X (.builtin "isinstance") [.int i, .ty "str"] m R := b_isi rfl (show kitB "int" "str" = some false by decide +kernel) k
theorem isi_str_int {z : Str} (k : R (.bl false) m) : BX X (.builtin "isinstance") [.str z, .ty "int"] m R := b_isi rfl (show kitB "str" "int" = some false by decide +kernel) k
theorem isi_str_bool {z : Str} (k : R (.bl false) m) : BX X (.builtin "isinstance") [.str z, .ty "bool"] m R := b_isi rfl (show kitB "str" "bool" = some false by decide +kernel) k
theorem isi_str_list {z : Str} (k : R (.bl false) m) : BX X (.builtin "isinstance") [.str z, .ty "list"] m R := b_isi rfl (show kitB "str" "list" = some false by decide +kernel) k
theorem isi_str_tuple {z : Str} (k : R (.bl false) m) : BX X (.builtin "isinstance") [.str z, .ty "tuple"] m R := b_isi rfl (show kitB "str" "tuple" = some false by decide +kernel) k
theorem isi_str_dict {z : Str} (k : R (.bl false) m) : BX X (.builtin "isinstance") [.str z, .ty "dict"] m R := b_isi rfl (show kitB "str" "dict" = some false by decide +kernel) k
theorem isi_str_str {z : Str} (k : R (.bl true) m) : BX X (.builtin "isinstance") [.str z, .ty "str"] m R := b_isi rfl (show kitB "str" "str" = some true by decide +kernel) k
theorem isi_list_int {xs : List D} (k : R (.bl false) m) : BX X (.builtin "isinstance") [.lst xs, .ty "int"] m R := b_isi rfl (show kitB "list" "int" = some false by decide +kernel) k
theorem isi_list_bool {xs : List D} (k : R (.bl false) m) : BX X (.builtin "isinstance") [.lst xs, .ty "bool"] m R := b_isi rfl (show kitB "list" "bool" = some false by decide +kernel) k
theorem isi_list_list {xs : List D} (k : R (.bl true) m) : BX X (.builtin "isinstance") [.lst xs, .ty "list"] m R := b_isi rfl (show kitB "list" "list" = some true by decide +kernel) k
theorem isi_list_tuple {xs : List D} (k : R (.bl false) m) : BX X (.builtin "isinstance") [.lst xs, .ty "tuple"] m R := b_isi rfl (show kitB "list" "tuple" = some false by decide +kernel) k
theorem isi_list_dict {xs : List D} (k : R (.bl false) m) : BX X (.builtin "isinstance") [.lst xs, .ty "dict"] m R := b_isi rfl (show kitB "list" "dict" = some false by decide +kernel) k
theorem isi_list_str {xs : List D} (k : R (.bl false) m) : BX X (.builtin "isinstance") [.lst xs, .ty "str"] m R := b_isi rfl (show kitB "list" "str" = some false by decide +kernel) k
theorem isi_tuple_int {xs : List D} (k : R (.bl false) m) : BX X (.builtin "isinstance") [.tup xs, .ty "int"] m R := b_isi rfl (show kitB "tuple" "int" = some false by decide +kernel) k
theorem isi_tuple_bool {xs : List D} (k : R (.bl false) m) : BX X (.builtin "isinstance") [.tup xs, .ty "bool"] m R := b_isi rfl (show kitB "tuple" "bool" = some false by decide +kernel) k
theorem isi_tuple_list {xs : List D} (k : R (.bl false) m) : BX X (.builtin "isinstance") [.tup xs, .ty "list"] m R := b_isi rfl (show kitB "tuple" "list" = some false by decide +kernel) k
theorem isi_tuple_tuple {xs : List D} (k : R (.bl true) m) : BX X (.builtin "isinstance") [.tup xs, .ty "tuple"] m R := b_isi rfl (show kitB "tuple" "tuple" = some true by decide +kernel) k
theorem isi_tuple_dict {xs : List D} (k : R (.bl false) m) : BX X (.builtin "isinstance") [.tup xs, .ty "dict"] m R := b_isi rfl (show kitB "tuple" "dict" = some false by decide +kernel) k
theorem isi_tuple_str {xs : List D} (k : R (.bl false) m) : BX X (.builtin "isinstance") [.tup xs, .ty "str"] m R := b_isi rfl (show kitB "tuple" "str" = some false by decide +kernel) k
end
/-! a statement, then the rest from a word between them -/
theorem S1.mono {X : Cx} {st : Stmt} {ρ : Rn} {m : Led} {E E' : EndsD} (h : S1 X st ρ m E) (h1 : ∀ ρ m, E.nx ρ m → E'.nx ρ m) (h2 : ∀ d m, E.rt d m → E'.rt d m) (h3 : ∀ ρ m, E.bk ρ m → E'.bk ρ m) (h4 : ∀ ρ m, E.ct ρ m → E'.ct ρ m) : S1 X st ρ m E' := .mk fun F σ H en a =>
  (h.run F σ H en a).mono (fun σ H ⟨ρ, F2, m2, s, e, r⟩ => ⟨ρ, F2, m2, s, e, h1 _ _ r⟩) (fun v H ⟨d, F2, m2, s, e, r⟩ => ⟨d, F2, m2, s, e, h2 _ _ r⟩) (fun σ H ⟨ρ, F2, m2, s, e, r⟩ => ⟨ρ, F2, m2, s, e, h3 _ _ r⟩) (fun σ H ⟨ρ, F2, m2, s, e, r⟩ => ⟨ρ, F2, m2, s, e, h4 _ _ r⟩)
theorem s_cut {X : Cx} {st : Stmt} {sts : List Stmt} {ρ : Rn} {m : Led} {E : EndsD} (Mid : Rn → Led → Prop) (h1 : S1 X st ρ m { E with nx := Mid }) (h2 : ∀ ρ' m', Mid ρ' m' → SX X sts ρ' m' E) : SX X (st :: sts) ρ m E :=
  s_cons (h1.mono (fun ρ' m' q => h2 ρ' m' q) (fun _ _ q => q) (fun _ _ q => q) fun _ _ q => q)
/-- a value, then what follows from a word about it -/
theorem e_cut {X : Cx} {e : Expr} {ρ : Rn} {m : Led} {R : D → Led → Prop} (Mid : D → Led → Prop) (h1 : EX X e ρ m Mid) (h2 : ∀ d m', Mid d m' → R d m') : EX X e ρ m R := h1.mono h2
theorem t_cut {X : Cx} {e : Expr} {ρ : Rn} {m : Led} {R : Bool → Led → Prop} (Mid : Bool → Led → Prop) (h1 : TX X e ρ m Mid) (h2 : ∀ d m', Mid d m' → R d m') : TX X e ρ m R := h1.mono h2
theorem Knows.mono {P : Program} {w : World} {K : Frag} {mg : Str → Option Value} {base : Heap} {j k n : Nat} {x : Str} {sp : SpD} (h : Knows P w K mg base j x n sp) (hk : j ≤ k) : Knows P w K mg base k x n sp := by
  obtain ⟨f, fd, ps, a, b, c, d, e⟩ := h.fn
  exact ⟨f, fd, ps, a.mono hk, b, c, d, e⟩
/-- the law's call -/
theorem law_start {K : Frag} {sp : SpD} {H : Hp} {a : Addr} {ns : List Int} {E : XK} (hS : SqL K H a (ns.map V.int)) (h : ∀ R : D → Led → Prop, (∀ m', R (.bl true) m') → sp [.lsk (ns.map D.int)] [] R) : lift K sp [.ref a] H (fun v _ => v = .bl true) E :=
  ⟨H, [], [.lsk (ns.map D.int)], fun d _ => d = .bl true, .cons (.lsk hS Dens.of_ints) .nil, ⟨Ex.refl _, fun _ h => (nomatch h), fun _ h => (nomatch h), List.nodup_nil⟩, h _ fun _ => rfl, fun d m2 v F2 H2 e _ q => by subst e; exact q.bl_inv⟩
end DL

namespace K34
open PySem PySem.Spec PyProof.Rows L2 DL
def topS (i : Nat) : Stmt := PySem.Challenge.pw_leastcomplaint_k34_lists_in_order.main.body.getD i (.Pass ⟨0, 0, 0, 0⟩)
abbrev s_compare : Stmt := topS 1
theorem sc_compare : FnScope ["one", "other", "left", "right"] ["one", "other"] (defScope s_compare) := ⟨rfl, rfl, rfl, by decide +kernel, rfl, by decide +kernel, by decide +kernel⟩
abbrev s_list_order : Stmt := topS 3
theorem sc_list_order : FnScope ["one", "other", "here", "there"] ["one", "other"] (defScope s_list_order) := ⟨rfl, rfl, rfl, by decide +kernel, rfl, by decide +kernel, by decide +kernel⟩
abbrev s_law_pool : Stmt := topS 5
theorem sc_law_pool : FnScope ["_law_script"] ["_law_script"] (defScope s_law_pool) := ⟨rfl, rfl, rfl, by decide +kernel, rfl, by decide +kernel, by decide +kernel⟩
abbrev s_law_take : Stmt := topS 6
theorem sc_law_take : FnScope ["_law_pool_here", "_law_many", "_law_at", "_law_drawn", "_law_mixed", "_law_digit"] ["_law_pool_here", "_law_many"] (defScope s_law_take) := ⟨rfl, rfl, rfl, by decide +kernel, rfl, by decide +kernel, by decide +kernel⟩
abbrev s_law_is_number : Stmt := topS 7
theorem sc_law_is_number : FnScope ["_law_thing"] ["_law_thing"] (defScope s_law_is_number) := ⟨rfl, rfl, rfl, by decide +kernel, rfl, by decide +kernel, by decide +kernel⟩
abbrev s_law_divisor : Stmt := topS 8
theorem sc_law_divisor : FnScope ["_law_numbers", "_law_found", "_law_number", "_law_one", "_law_other"] ["_law_numbers"] (defScope s_law_divisor) := ⟨rfl, rfl, rfl, by decide +kernel, rfl, by decide +kernel, by decide +kernel⟩
abbrev s_law_ratio : Stmt := topS 9
theorem sc_law_ratio : FnScope ["_law_up", "_law_down", "_law_piece"] ["_law_up", "_law_down"] (defScope s_law_ratio) := ⟨rfl, rfl, rfl, by decide +kernel, rfl, by decide +kernel, by decide +kernel⟩
abbrev s_law_less : Stmt := topS 10
theorem sc_law_less : FnScope ["_law_one", "_law_other"] ["_law_one", "_law_other"] (defScope s_law_less) := ⟨rfl, rfl, rfl, by decide +kernel, rfl, by decide +kernel, by decide +kernel⟩
abbrev s_law_plus : Stmt := topS 11
theorem sc_law_plus : FnScope ["_law_one", "_law_other"] ["_law_one", "_law_other"] (defScope s_law_plus) := ⟨rfl, rfl, rfl, by decide +kernel, rfl, by decide +kernel, by decide +kernel⟩
abbrev s_law_words_order : Stmt := topS 12
theorem sc_law_words_order : FnScope ["_law_one", "_law_other", "_law_k"] ["_law_one", "_law_other"] (defScope s_law_words_order) := ⟨rfl, rfl, rfl, by decide +kernel, rfl, by decide +kernel, by decide +kernel⟩
abbrev s_law_due : Stmt := topS 13
theorem sc_law_due : FnScope ["_law_one", "_law_other", "_law_many", "_law_order"] ["_law_one", "_law_other"] (defScope s_law_due) := ⟨rfl, rfl, rfl, by decide +kernel, rfl, by decide +kernel, by decide +kernel⟩
abbrev s_law : Stmt := topS 14
theorem sc_law : FnScope ["_law_script", "_law_pool_here", "_law_lists", "_law_at", "_law_k", "_law_row", "_law_start", "_law_one", "_law_other", "_law_saved", "_law_due_here", "_law_says"] ["_law_script"] (defScope s_law) := ⟨rfl, rfl, rfl, by decide +kernel, rfl, by decide +kernel, by decide +kernel⟩

/-- a ratio as data -/
abbrev Q := Int × Int
@[reducible] def rat (q : Q) : D := .tup [.int q.1, .int q.2]
def Bd (n : Nat) (i : Int) : Prop := i.natAbs < 2 ^ n
theorem Bd.up {a b : Nat} {i : Int} (h : Bd a i) (hl : a ≤ b) : Bd b i := Nat.lt_of_lt_of_le h (Nat.pow_le_pow_right (by decide) hl)
theorem Bd.mulR {a b : Nat} {i j : Int} (h1 : Bd a i) (h2 : Bd b j) : Bd (a + b) (i * j) := wide_lt h1 h2
theorem Bd.addR {a b : Nat} {i j : Int} (h1 : Bd a i) (h2 : Bd b j) : Bd (max a b + 1) (i + j) := by
  have p1 : Bd (max a b) i := h1.up (Nat.le_max_left _ _)
  have p2 : Bd (max a b) j := h2.up (Nat.le_max_right _ _)
  unfold Bd at p1 p2 ⊢
  rw [Nat.pow_succ]
  omega
theorem Bd.subR {a b : Nat} {i j : Int} (h1 : Bd a i) (h2 : Bd b j) : Bd (max a b + 1) (i - j) := by
  have p1 : Bd (max a b) i := h1.up (Nat.le_max_left _ _)
  have p2 : Bd (max a b) j := h2.up (Nat.le_max_right _ _)
  unfold Bd at p1 p2 ⊢
  rw [Nat.pow_succ]
  omega
theorem Bd.negR {a : Nat} {i : Int} (h : Bd a i) : Bd a (-i) := by unfold Bd at h ⊢; omega
theorem Bd.lit (k : Nat) : Bd (k.log2 + 1) (OfNat.ofNat k : Int) := by
  unfold Bd
  exact Nat.lt_log2_self
theorem Bd.one : Bd 1 (1 : Int) := by unfold Bd; decide
theorem Bd.mul {a b : Nat} {i j : Int} (h1 : Bd a i) (h2 : Bd b j) (h : a + b ≤ 900000) : IntMulOk i j := by
  refine (CMulW.ok ?_)
  refine wide_mul (a := a + 1) (b := b + 1) ?_ ?_ (Nat.succ_pos _) (Nat.succ_pos _) (by omega)
  · exact Nat.lt_of_lt_of_le h1 (Nat.pow_le_pow_right (by decide) (Nat.le_succ _))
  · exact Nat.lt_of_lt_of_le h2 (Nat.pow_le_pow_right (by decide) (Nat.le_succ _))
theorem Bd.divG {a : Nat} {i j : Int} (h : Bd a j) (h0 : j ≠ 0) (ha : a ≤ 8000) : CDivG i j := by
  refine ⟨h0, ?_⟩
  have h1 : j.natAbs < 2 ^ (a + 1) := Nat.lt_of_lt_of_le h (Nat.pow_le_pow_right (by decide) (Nat.le_succ _))
  have := PySem.Flt.log2_lt_of (Nat.succ_pos _) h1
  omega
theorem Bd.divW {a : Nat} {i j : Int} (h : Bd a j) (h0 : 0 < j) (ha : a ≤ 8000) : CDivW i j := by
  refine ⟨h0, ?_⟩
  have h1 : j.natAbs < 2 ^ (a + 1) := Nat.lt_of_lt_of_le h (Nat.pow_le_pow_right (by decide) (Nat.le_succ _))
  have := PySem.Flt.log2_lt_of (Nat.succ_pos _) h1
  omega
/-- a ratio whose parts are below 2 ^ n -/
def Rb (n : Nat) (q : Q) : Prop := Bd n q.1 ∧ Bd n q.2
theorem map_get {α : Type} {f : α → D} {xs : List α} {i : Nat} {d : D} (h : (xs.map f)[i]? = some d) : ∃ x, xs[i]? = some x ∧ d = f x := by
  rw [List.getElem?_map] at h
  cases e : xs[i]? with
  | none => rw [e] at h; cases h
  | some x => rw [e] at h; exact ⟨x, rfl, (Option.some.inj h).symm⟩
theorem zip_get {α β : Type} {f : α → D} {g : β → D} : ∀ {xs : List α} {ys : List β} {i : Nat} {d : D}, (zipD (xs.map f) (ys.map g))[i]? = some d → ∃ x y, xs[i]? = some x ∧ ys[i]? = some y ∧ d = .tup [f x, g y]
  | [], _, _, _, h => by simp [zipD] at h
  | _ :: _, [], _, _, h => by simp [zipD] at h
  | x :: xs, y :: ys, 0, d, h => by simp [zipD] at h; exact ⟨x, y, rfl, rfl, h.symm⟩
  | x :: xs, y :: ys, i + 1, d, h => by
    obtain ⟨a, b, h1, h2, h3⟩ := zip_get (xs := xs) (ys := ys) (i := i) (d := d) (by simpa [zipD] using h)
    exact ⟨a, b, by simpa using h1, by simpa using h2, h3⟩
theorem range_get {lo : Int} {n i : Nat} {d : D} (h : (rangeD lo n)[i]? = some d) : i < n ∧ d = .int (lo + i) := by
  have hl : i < n := by
    have := (List.getElem?_eq_some_iff.mp h).1
    rw [rangeD_len] at this
    exact this
  rw [rangeD_get hl] at h
  exact ⟨hl, (Option.some.inj h).symm⟩
theorem drop_cons {α : Type} {xs : List α} {i : Nat} {x : α} (h : xs[i]? = some x) : xs.drop i = x :: xs.drop (i + 1) := by
  obtain ⟨hl, e⟩ := List.getElem?_eq_some_iff.mp h
  rw [List.drop_eq_getElem_cons hl, e]
theorem range0_get {n i : Nat} {d : D} (h : (rangeD 0 n)[i]? = some d) : i < n ∧ d = .int (i : Nat) := by
  obtain ⟨h1, h2⟩ := range_get h
  rw [Int.zero_add] at h2
  exact ⟨h1, h2⟩
theorem cutD_take {ds : List D} {k : Nat} (h : k ≤ ds.length) : DL.cutD ds none (some (k : Int)) = ds.take k := by
  unfold DL.cutD
  rw [HT.sIx_none, HT.sIx_nat, Nat.min_eq_left h, Nat.sub_zero]
  rfl
theorem nb_int (n : Nat) (i : Int) : NB n (.int i) := by cases n <;> trivial
theorem nb_lst {α : Type} {f : α → D} {n : Nat} {xs : List α} (h : ∀ x ∈ xs, NB n (f x)) : NB (n + 1) (.lst (xs.map f)) := fun x hx => by
  obtain ⟨a, ha, rfl⟩ := List.mem_map.mp hx
  exact h a ha
theorem nb_tup {α : Type} {f : α → D} {n : Nat} {xs : List α} (h : ∀ x ∈ xs, NB n (f x)) : NB (n + 1) (.tup (xs.map f)) := fun x hx => by
  obtain ⟨a, ha, rfl⟩ := List.mem_map.mp hx
  exact h a ha
theorem nb_rat (n : Nat) (q : Q) : NB (n + 1) (rat q) := fun x hx => by
  simp only [List.mem_cons, List.not_mem_nil, or_false] at hx
  rcases hx with rfl | rfl <;> exact nb_int n _
theorem nb_rats (n : Nat) (r : List Q) : NB (n + 2) (.lst (r.map rat)) := nb_lst fun q _ => nb_rat n q

local macro_rules | `(tactic| tm_at "look") => `(tactic| (first | (with_reducible exact LookAt.here) | (with_reducible apply LookAt.there; tm_at "look")))
local macro_rules | `(tactic| tm_at "seta") => `(tactic| (first | (with_reducible exact SetAt.here) | (with_reducible apply SetAt.there; tm_at "seta")))
local macro_rules | `(tactic| tm_at "slot") => `(tactic| (first | (with_reducible exact SlotAt.here) | (with_reducible apply SlotAt.there; tm_at "slot")))
local macro_rules | `(tactic| tm_at "lv") => `(tactic| (first | exact Or.inl rfl | exact Or.inr ⟨0, _, rfl, rfl⟩ | exact Or.inr ⟨1, _, rfl, rfl⟩ | exact Or.inr ⟨2, _, rfl, rfl⟩ | exact Or.inr ⟨3, _, rfl, rfl⟩))
local macro_rules | `(tactic| tm_at "room") => `(tactic| exact Room.mono (by assumption) (by omega))
local macro_rules | `(tactic| tm_at "bd") => `(tactic| (first
  | (with_reducible assumption)
  | ((with_reducible show Bd _ (_ * _)); refine Bd.mulR (by tm_at "bd") (by tm_at "bd"))
  | ((with_reducible show Bd _ (_ + _)); refine Bd.addR (by tm_at "bd") (by tm_at "bd"))
  | ((with_reducible show Bd _ (_ - _)); refine Bd.subR (by tm_at "bd") (by tm_at "bd"))
  | ((with_reducible show Bd _ (-_)); refine Bd.negR (by tm_at "bd"))
  | (exact Bd.lit _)
  | (exact Bd.one)
  | assumption))
local macro_rules | `(tactic| tm_at "mul") => `(tactic| (exact Bd.mul (by tm_at "bd") (by tm_at "bd") (by decide)))
local macro_rules | `(tactic| tm_at "pos") => `(tactic| (first | assumption | omega | decide))
local macro_rules | `(tactic| tm_at "name") => `(tactic| (first
  | (refine x_var (by tm_at "look") ?_)
  | (refine c_glob (by with_reducible assumption) ?_)
  | ((with_reducible show EX _ (Expr.Name "int" _) _ _ _); refine c_ty (by with_reducible assumption) bt_int ?_)
  | ((with_reducible show EX _ (Expr.Name "bool" _) _ _ _); refine c_ty (by with_reducible assumption) bt_bool ?_)
  | ((with_reducible show EX _ (Expr.Name "list" _) _ _ _); refine c_ty (by with_reducible assumption) bt_list ?_)
  | ((with_reducible show EX _ (Expr.Name "tuple" _) _ _ _); refine c_ty (by with_reducible assumption) bt_tuple ?_)
  | ((with_reducible show EX _ (Expr.Name "dict" _) _ _ _); refine c_ty (by with_reducible assumption) bt_dict ?_)
  | ((with_reducible show EX _ (Expr.Name "str" _) _ _ _); refine c_ty (by with_reducible assumption) bt_str ?_)))
local macro_rules | `(tactic| tm_at "call") => `(tactic| (first
  | (refine c_call (by with_reducible assumption) (by tm_at "room") ?_)
  | ((with_reducible show EX _ (Expr.Call (Expr.Name "int" _) _ _ _) _ _ _); refine c_ct (by with_reducible assumption) bt_int ?_)
  | ((with_reducible show EX _ (Expr.Call (Expr.Name "bool" _) _ _ _) _ _ _); refine c_ct (by with_reducible assumption) bt_bool ?_)
  | ((with_reducible show EX _ (Expr.Call (Expr.Name "list" _) _ _ _) _ _ _); refine c_ct (by with_reducible assumption) bt_list ?_)
  | ((with_reducible show EX _ (Expr.Call (Expr.Name "tuple" _) _ _ _) _ _ _); refine c_ct (by with_reducible assumption) bt_tuple ?_)
  | ((with_reducible show EX _ (Expr.Call (Expr.Name "dict" _) _ _ _) _ _ _); refine c_ct (by with_reducible assumption) bt_dict ?_)
  | ((with_reducible show EX _ (Expr.Call (Expr.Name "str" _) _ _ _) _ _ _); refine c_ct (by with_reducible assumption) bt_str ?_)
  | ((with_reducible show EX _ (Expr.Call (Expr.Name "len" _) _ _ _) _ _ _); refine c_cb (by with_reducible assumption) bt_len ?_)
  | ((with_reducible show EX _ (Expr.Call (Expr.Name "max" _) _ _ _) _ _ _); refine c_cb (by with_reducible assumption) bt_max ?_)
  | ((with_reducible show EX _ (Expr.Call (Expr.Name "min" _) _ _ _) _ _ _); refine c_cb (by with_reducible assumption) bt_min ?_)
  | ((with_reducible show EX _ (Expr.Call (Expr.Name "abs" _) _ _ _) _ _ _); refine c_cb (by with_reducible assumption) bt_abs ?_)
  | ((with_reducible show EX _ (Expr.Call (Expr.Name "sum" _) _ _ _) _ _ _); refine c_cb (by with_reducible assumption) bt_sum ?_)
  | ((with_reducible show EX _ (Expr.Call (Expr.Name "all" _) _ _ _) _ _ _); refine c_cb (by with_reducible assumption) bt_all ?_)
  | ((with_reducible show EX _ (Expr.Call (Expr.Name "any" _) _ _ _) _ _ _); refine c_cb (by with_reducible assumption) bt_any ?_)
  | ((with_reducible show EX _ (Expr.Call (Expr.Name "sorted" _) _ _ _) _ _ _); refine c_cb (by with_reducible assumption) bt_sorted ?_)
  | ((with_reducible show EX _ (Expr.Call (Expr.Name "isinstance" _) _ _ _) _ _ _); refine c_cb (by with_reducible assumption) bt_isinstance ?_)))
local macro_rules | `(tactic| tm_at "isi") => `(tactic| (first
  | (refine isi_NoneType_int ?_)
  | (refine isi_NoneType_bool ?_)
  | (refine isi_NoneType_list ?_)
  | (refine isi_NoneType_tuple ?_)
  | (refine isi_NoneType_dict ?_)
  | (refine isi_NoneType_str ?_)
  | (refine isi_bool_int ?_)
  | (refine isi_bool_bool ?_)
  | (refine isi_bool_list ?_)
  | (refine isi_bool_tuple ?_)
  | (refine isi_bool_dict ?_)
  | (refine isi_bool_str ?_)
  | (refine isi_int_int ?_)
  | (refine isi_int_bool ?_)
  | (refine isi_int_list ?_)
  | (refine isi_int_tuple ?_)
  | (refine isi_int_dict ?_)
  | (refine isi_int_str ?_)
  | (refine isi_str_int ?_)
  | (refine isi_str_bool ?_)
  | (refine isi_str_list ?_)
  | (refine isi_str_tuple ?_)
  | (refine isi_str_dict ?_)
  | (refine isi_str_str ?_)
  | (refine isi_list_int ?_)
  | (refine isi_list_bool ?_)
  | (refine isi_list_list ?_)
  | (refine isi_list_tuple ?_)
  | (refine isi_list_dict ?_)
  | (refine isi_list_str ?_)
  | (refine isi_tuple_int ?_)
  | (refine isi_tuple_bool ?_)
  | (refine isi_tuple_list ?_)
  | (refine isi_tuple_tuple ?_)
  | (refine isi_tuple_dict ?_)
  | (refine isi_tuple_str ?_)))
local macro_rules | `(tactic| tm_at "EX") => `(tactic| (first
  | ((with_reducible show EX _ (Expr.Name _ _) _ _ _); tm_at "name")
  | ((with_reducible show EX _ (Expr.Call (Expr.Name _ _) _ [] _) _ _ _); tm_at "call")
  | (refine x_int ?_)
  | (refine x_slice ?_)
  | ((with_reducible show EX _ (Expr.Subscript _ _ _) _ _ _); refine x_ix ?_)
  | (refine x_bin ?_)
  | ((with_reducible show EX _ (Expr.Compare _ [_] [_] _) _ _ _); refine x_cmp ?_)
  | (refine x_tup ?_)
  | (refine x_lst ?_)
  | (refine x_str ?_)
  | (refine x_bl ?_)
  | (refine x_non ?_)
  | (refine x_not ?_)
  | (refine x_un ?_)
  | (refine x_and ?_)
  | (refine x_or ?_)
  | (refine x_one ?_)
  | (refine x_if ?_)))
local macro_rules | `(tactic| tm_at "OX") => `(tactic| (first
  | (refine o_add ?_)
  | (refine o_sub ?_)
  | ((with_reducible show OX _ (binaryOp Operator.Mult) (D.int _) (D.int _) _ _); refine o_mul (by tm_at "mul") ?_)
  | (refine o_lt ?_)
  | (refine o_gt ?_)
  | (refine o_le ?_)
  | (refine o_ge ?_)
  | (refine o_eqI ?_)
  | (refine o_neI ?_)
  | ((with_reducible show OX _ (binaryOp Operator.Mod) (D.int _) (D.int _) _ _); refine o_mod (by tm_at "pos") ?_)
  | ((with_reducible show OX _ (binaryOp Operator.Pow) (D.int _) (D.int _) _ _); refine o_pow (by refine ⟨?_, ?_, ?_⟩ <;> omega) ?_)
  | ((with_reducible show OX _ (binaryOp Operator.FloorDiv) (D.int _) (D.int _) _ _); refine o_fdiv (Bd.divW (by tm_at "bd") (by first | assumption | decide) (by decide)) ?_)
  | (refine o_iadd ?_)
  | (refine o_isub ?_)
  | (refine o_isN ?_)
  | (refine o_notN ?_)
  | (refine o_eqS ?_)
  | (refine o_neS ?_)
  | (refine o_eqB ?_)))
local macro_rules | `(tactic| tm_at "BX") => `(tactic| (first
  | ((with_reducible show BX _ (Value.type "int") _ _ _); first | (refine b_int ?_) | (refine b_intB ?_))
  | ((with_reducible show BX _ (Value.builtin "len") _ _ _); first | (refine b_lenT ?_) | (refine b_len (by tm_at "lv") ?_))
  | ((with_reducible show BX _ (Value.builtin "max") _ _ _); refine b_max2 ?_)
  | ((with_reducible show BX _ (Value.builtin "min") _ _ _); refine b_min2 ?_)
  | ((with_reducible show BX _ (Value.builtin "abs") _ _ _); refine b_abs ?_)
  | ((with_reducible show BX _ (Value.type "list") _ _ _); first | (refine b_listK ?_) | (refine b_listT ?_) | (refine b_list (by tm_at "lv") ?_))
  | ((with_reducible show BX _ (Value.type "tuple") _ _ _); first | (refine b_tupleT ?_) | (refine b_tuple (by tm_at "lv") ?_))
  | ((with_reducible show BX _ (Value.builtin "isinstance") _ _ _); tm_at "isi")))
local macro_rules | `(tactic| tm_at "TX") => `(tactic| (first
  | ((with_reducible show TX _ (Expr.Compare _ [_] [_] _) _ _ _); refine t_cmp ?_)
  | (refine t_not ?_)
  | ((with_reducible show TX _ (Expr.BoolOp _ _ _) _ _ _); refine t_w ?_)
  | ((with_reducible show TX _ _ _ _ _); refine t_val ?_)))
local macro_rules | `(tactic| tm_at "S1") => `(tactic| (first
  | (refine s_ret ?_)
  | (refine s_if ?_)
  | ((with_reducible show S1 _ (Stmt.Assign [Expr.Name _ _] _ _) _ _ _); refine s_set ?_)
  | ((with_reducible show S1 _ (Stmt.Expr _ _) _ _ _); refine s_expr ?_)
  | ((with_reducible show S1 _ (Stmt.Assign [Expr.Tuple _ _ _] (Expr.Tuple _ _ _) _) _ _ _); refine s_par ?_)
  | (refine s_retN ?_)
  | (refine s_pass ?_)
  | (refine s_break ?_)
  | (refine s_continue ?_)
  | ((with_reducible show S1 _ (Stmt.AugAssign (Expr.Name _ _) _ _ _) _ _ _); refine s_aug (by tm_at "look") ?_)
  | ((with_reducible show S1 _ (Stmt.Assign [_] _ _) _ _ _); refine s_asg ?_)))
local macro_rules | `(tactic| tm_at "s") => `(tactic| (first
  | (refine s_cons ?_)
  | (refine s_nil ?_)
  | ((with_reducible show EX _ _ _ _ _); tm_at "EX")
  | ((with_reducible show OX _ _ _ _ _ _); tm_at "OX")
  | ((with_reducible show S1 _ _ _ _ _); tm_at "S1")
  | ((with_reducible show AX _ (_ :: _) _ _ _); refine a_cons ?_)
  | (refine a_nil ?_)
  | ((with_reducible show IxX _ (D.tup _) _ _ _); refine i_tup rfl ?_)
  | ((with_reducible show BX _ _ _ _ _); tm_at "BX")
  | ((with_reducible show TX _ _ _ _ _); tm_at "TX")
  | (refine u_neg ?_)
  | (refine w_and ?_)
  | (refine w_or ?_)
  | (refine w_and1 ?_)
  | (refine w_or1 ?_)
  | ((with_reducible show GX _ (Expr.Tuple _ _ _) _ _ _ _); refine g_tup ?_)
  | ((with_reducible show GsX _ (_ :: _) _ _ _ _); refine gs_cons ?_)
  | (refine gs_nil ?_)
  | ((with_reducible show GX _ (Expr.Name _ _) _ _ _ _); refine g_name (by tm_at "seta") ?_)
  | ((with_reducible show GX _ (Expr.Subscript _ _ _) _ _ _ _); refine g_sub ?_)
  | (refine px_none ?_)
  | (refine px_some ?_)
  | ((with_reducible show SlX _ _ _ _ _ _); refine sl_lst (by tm_at "lv") ?_)
  | ((with_reducible show (∃ k, _ = _ ∧ _)); refine ⟨_, rfl, ?_⟩)
  | ((with_reducible show (∃ i ρ', SetAt _ i _ _ ρ' ∧ _)); refine ⟨_, _, by tm_at "seta", ?_⟩)
  | ((with_reducible show (∃ ρ', SetAt _ _ _ _ ρ' ∧ _)); refine ⟨_, by tm_at "seta", ?_⟩)
  | ((with_reducible show (∃ d1 d2 i j ρ1 ρ2, _ = _ ∧ SetAt _ _ _ _ _ ∧ _)); refine ⟨_, _, _, _, _, _, rfl, by tm_at "seta", by tm_at "seta", by decide, ?_⟩)
  | ((with_reducible show (List.length _ ≤ 100000 ∧ _)); refine ⟨Nat.le_of_ble_eq_true rfl, ?_⟩)))
local macro_rules | `(tactic| tm_at "n1") => `(tactic| (first
  | (refine s_cons ?_)
  | (refine s_nil ?_)
  | ((with_reducible show EX _ _ _ _ _); tm_at "EX")
  | ((with_reducible show OX _ _ _ _ _ _); tm_at "OX")
  | ((with_reducible show AX _ (_ :: _) _ _ _); refine a_cons ?_)
  | (refine a_nil ?_)
  | ((with_reducible show IxX _ (D.tup _) _ _ _); refine i_tup rfl ?_)
  | ((with_reducible show BX _ _ _ _ _); tm_at "BX")
  | ((with_reducible show TX _ _ _ _ _); tm_at "TX")
  | (refine u_neg ?_)
  | (refine w_and ?_)
  | (refine w_or ?_)
  | (refine w_and1 ?_)
  | (refine w_or1 ?_)
  | ((with_reducible show GX _ (Expr.Tuple _ _ _) _ _ _ _); refine g_tup ?_)
  | ((with_reducible show GsX _ (_ :: _) _ _ _ _); refine gs_cons ?_)
  | (refine gs_nil ?_)
  | ((with_reducible show GX _ (Expr.Name _ _) _ _ _ _); refine g_name (by tm_at "seta") ?_)
  | ((with_reducible show GX _ (Expr.Subscript _ _ _) _ _ _ _); refine g_sub ?_)
  | (refine px_none ?_)
  | (refine px_some ?_)
  | ((with_reducible show SlX _ _ _ _ _ _); refine sl_lst (by tm_at "lv") ?_)
  | ((with_reducible show (∃ k, _ = _ ∧ _)); refine ⟨_, rfl, ?_⟩)
  | ((with_reducible show (∃ i ρ', SetAt _ i _ _ ρ' ∧ _)); refine ⟨_, _, by tm_at "seta", ?_⟩)
  | ((with_reducible show (∃ ρ', SetAt _ _ _ _ ρ' ∧ _)); refine ⟨_, by tm_at "seta", ?_⟩)
  | ((with_reducible show (∃ d1 d2 i j ρ1 ρ2, _ = _ ∧ SetAt _ _ _ _ _ ∧ _)); refine ⟨_, _, _, _, _, _, rfl, by tm_at "seta", by tm_at "seta", by decide, ?_⟩)
  | ((with_reducible show (List.length _ ≤ 100000 ∧ _)); refine ⟨Nat.le_of_ble_eq_true rfl, ?_⟩)))
local macro_rules | `(tactic| tm_at "n") => `(tactic| repeat tm_at "n1")
local macro_rules | `(tactic| tm_at "S") => `(tactic| repeat tm_at "s")

section
variable {P : Program} {w : World} {K : Frag} {mg : Str → Option Value} {base : Heap}
def cmpR (p q : Q) : Int := (if p.1 * q.2 > q.1 * p.2 then 1 else 0) - (if p.1 * q.2 < q.1 * p.2 then 1 else 0)
def sp_compare : SpD := fun ds m R => ∃ p q : Q, ds = [rat p, rat q] ∧ Rb 4000 p ∧ Rb 4000 q ∧ R (.int (cmpR p q)) m
theorem ok_compare {k : Nat} {f : Addr} {fd : FuncData} (F : Fun K "compare" "compare" s_compare f fd) (m_int : mg "int" = none) : FnOk P w K mg base CX0 (k + 1) f fd ["one", "other"] (lift K sp_compare) := by
  refine def_ok F sc_compare (fun ds m R ⟨p, q, e, _⟩ => by rw [e]; rfl) ?_
  intro cdv A outer s H ds m R hr ⟨p, q, e, ⟨h1, h2⟩, ⟨h3, h4⟩, k⟩
  subst e
  simp only [startR]
  tm_at "S"
  refine ⟨m, List.Sublist.refl _, ?_⟩
  simpa [cmpR] using k

def loR : List Q → List Q → Int
  | x :: xs, y :: ys => if cmpR x y ≠ 0 then cmpR x y else loR xs ys
  | xs, ys => (if xs.length > ys.length then 1 else 0) - (if xs.length < ys.length then 1 else 0)
theorem loR_end {xs ys : List Q} (h : xs = [] ∨ ys = []) : loR xs ys = (if xs.length > ys.length then 1 else 0) - (if xs.length < ys.length then 1 else 0) := by
  cases xs with
  | nil => rfl
  | cons x xs =>
    cases ys with
    | nil => rfl
    | cons y ys => simp at h
def sp_list_order : SpD := fun ds m R => ∃ xs ys : List Q, (ds = [.lst (xs.map rat), .lst (ys.map rat)] ∨ ds = [.tup (xs.map rat), .tup (ys.map rat)]) ∧ (∀ x ∈ xs, Rb 4000 x) ∧ (∀ y ∈ ys, Rb 4000 y) ∧ R (.int (loR xs ys)) m
theorem ok_list_order {k : Nat} {f : Addr} {fd : FuncData} (F : Fun K "list_order" "list_order" s_list_order f fd) (m_int : mg "int" = none) (m_len : mg "len" = none) (m_zip : mg "zip" = none)
    (h_compare : Knows P w K mg base k "compare" 2 sp_compare) : FnOk P w K mg base CX0 (k + 1) f fd ["one", "other"] (lift K sp_list_order) := by
  refine def_ok F sc_list_order (fun ds m R ⟨p, q, e, _⟩ => by rcases e with e | e <;> rw [e] <;> rfl) ?_
  intro cdv A outer s H ds m R hr ⟨xs, ys, e, hx, hy, k⟩
  have stop : ∀ (i : Nat), i = min xs.length ys.length → loR xs ys = loR (xs.drop i) (ys.drop i) → (if ((xs.length : Int) > (ys.length : Int)) then (1 : Int) else 0) - (if ((xs.length : Int) < (ys.length : Int)) then 1 else 0) = loR xs ys := by
    intro i hi e
    rw [e, loR_end (by rcases Nat.le_total xs.length ys.length with h | h; exact .inl (by rw [List.drop_eq_nil_iff]; omega); exact .inr (by rw [List.drop_eq_nil_iff]; omega))]
    simp only [List.length_drop]
    have a1 : (xs.length - i > ys.length - i) ↔ ((xs.length : Int) > (ys.length : Int)) := by omega
    have a2 : (xs.length - i < ys.length - i) ↔ ((xs.length : Int) < (ys.length : Int)) := by omega
    simp only [a1, a2]
  rcases e with e | e <;> subst e <;> simp only [startR]
  · tm_at "s"
    refine s_for ?_
    refine j_zip (by assumption) ?_
    tm_at "S"
    refine ⟨_, _, .inl ⟨rfl, rfl⟩, ?_⟩
    refine ⟨fun i ρ' m' => m' = m ∧ (∃ o1 o2, ρ' = ([("one", some (.lst (xs.map rat))), ("other", some (.lst (ys.map rat))), ("here", o1), ("there", o2)] : Rn)) ∧ loR xs ys = loR (xs.drop i) (ys.drop i), ⟨rfl, ⟨_, _, rfl⟩, rfl⟩, ?_, ?_⟩
    · rintro i d ρ' m' hd ⟨rfl, ⟨o1, o2, rfl⟩, hI⟩
      obtain ⟨x, y, h1, h2, rfl⟩ := zip_get hd
      have bx := hx x (List.mem_of_getElem? h1)
      have by' := hy y (List.mem_of_getElem? h2)
      have e3 : loR xs ys = if cmpR x y ≠ 0 then cmpR x y else loR (xs.drop (i + 1)) (ys.drop (i + 1)) := by rw [hI, drop_cons h1, drop_cons h2]; rfl
      tm_at "S"
      refine ⟨x, y, rfl, bx, by', ?_⟩
      tm_at "S"
      refine ⟨fun h => ?_, fun h => ?_⟩
      · tm_at "S"
        refine ⟨x, y, rfl, bx, by', ?_⟩
        refine ⟨_, List.Sublist.refl _, ?_⟩
        simp at h
        rw [if_pos h] at e3
        rw [← e3]; exact k
      · tm_at "S"
        simp at h
        rw [if_neg (by simpa using h)] at e3
        exact ⟨rfl, ⟨_, _, rfl⟩, e3⟩
    · rintro ρ' m' ⟨rfl, ⟨o1, o2, rfl⟩, hI⟩
      tm_at "S"
      refine ⟨_, List.Sublist.refl _, ?_⟩
      have := stop (zipD (xs.map rat) (ys.map rat)).length (by rw [zipD_len]; simp) hI
      simp only [List.length_map, decide_eq_true_eq]
      rw [this]; exact k
  · tm_at "s"
    refine s_for ?_
    refine j_zip (by assumption) ?_
    tm_at "S"
    refine ⟨_, _, .inr ⟨rfl, rfl⟩, ?_⟩
    refine ⟨fun i ρ' m' => m' = m ∧ (∃ o1 o2, ρ' = ([("one", some (.tup (xs.map rat))), ("other", some (.tup (ys.map rat))), ("here", o1), ("there", o2)] : Rn)) ∧ loR xs ys = loR (xs.drop i) (ys.drop i), ⟨rfl, ⟨_, _, rfl⟩, rfl⟩, ?_, ?_⟩
    · rintro i d ρ' m' hd ⟨rfl, ⟨o1, o2, rfl⟩, hI⟩
      obtain ⟨x, y, h1, h2, rfl⟩ := zip_get hd
      have bx := hx x (List.mem_of_getElem? h1)
      have by' := hy y (List.mem_of_getElem? h2)
      have e3 : loR xs ys = if cmpR x y ≠ 0 then cmpR x y else loR (xs.drop (i + 1)) (ys.drop (i + 1)) := by rw [hI, drop_cons h1, drop_cons h2]; rfl
      tm_at "S"
      refine ⟨x, y, rfl, bx, by', ?_⟩
      tm_at "S"
      refine ⟨fun h => ?_, fun h => ?_⟩
      · tm_at "S"
        refine ⟨x, y, rfl, bx, by', ?_⟩
        refine ⟨_, List.Sublist.refl _, ?_⟩
        simp at h
        rw [if_pos h] at e3
        rw [← e3]; exact k
      · tm_at "S"
        simp at h
        rw [if_neg (by simpa using h)] at e3
        exact ⟨rfl, ⟨_, _, rfl⟩, e3⟩
    · rintro ρ' m' ⟨rfl, ⟨o1, o2, rfl⟩, hI⟩
      tm_at "S"
      refine ⟨_, List.Sublist.refl _, ?_⟩
      have := stop (zipD (xs.map rat) (ys.map rat)).length (by rw [zipD_len]; simp) hI
      simp only [List.length_map, decide_eq_true_eq]
      rw [this]; exact k

def isNum : D → Bool
  | .int _ => true
  | _ => false
def sp_law_is_number : SpD := fun ds m R => ∃ d, ds = [d] ∧ (tyD d).isSome ∧ R (.bl (isNum d)) m
theorem ok_law_is_number {k : Nat} {f : Addr} {fd : FuncData} (F : Fun K "_law_is_number" "_law_is_number" s_law_is_number f fd) (m_isi : mg "isinstance" = none) (m_int : mg "int" = none) (m_bool : mg "bool" = none) : FnOk P w K mg base CX0 (k + 1) f fd ["_law_thing"] (lift K sp_law_is_number) := by
  refine def_ok F sc_law_is_number (fun ds m R ⟨d, e, _⟩ => by rw [e]; rfl) ?_
  intro cdv A outer s H ds m R hr ⟨d, e, ht, k⟩
  subst e
  simp only [startR]
  cases d <;> first | (cases ht; done) | (tm_at "S"; refine ⟨fun h => ?_, fun h => ?_⟩ <;> first | (cases h; done) | skip)
  all_goals (try (tm_at "S"))
  all_goals exact ⟨_, List.Sublist.refl _, k⟩

/-- the pool of a law: how many were taken, what is left of the one at hand, the script -/
@[reducible] def poolO (at_ cur : Int) (ns : List Int) : MO := .lst [.int at_, .int cur, .lst (ns.map D.int)]
def sp_law_pool : SpD := fun ds m R => ∃ ns : List Int, ds = [.lsk (ns.map D.int)] ∧ ∀ p, R (.ref p) (m ++ [(p, poolO 0 0 ns)])
theorem ok_law_pool {k : Nat} {f : Addr} {fd : FuncData} (F : Fun K "_law_pool" "_law_pool" s_law_pool f fd) (m_list : mg "list" = none) : FnOk P w K mg base CX0 (k + 1) f fd ["_law_script"] (lift K sp_law_pool) := by
  refine def_ok F sc_law_pool (fun ds m R ⟨d, e, _⟩ => by rw [e]; rfl) ?_
  intro cdv A outer s H ds m R hr ⟨ns, e, k⟩
  subst e
  simp only [startR]
  tm_at "s"
  tm_at "s"
  refine x_lstM ?_
  tm_at "S"
  intro p
  exact ⟨_, List.Sublist.refl _, k p⟩
def sp_law_take : SpD := fun ds m R => ∃ (i : Nat) (p : Addr) (a c : Int) (ns : List Int) (many : Int), ds = [.ref p, .int many] ∧ m[i]? = some (p, poolO a c ns) ∧ ns.length ≤ 63 ∧ 0 < many ∧ Bd 4000 many ∧ 0 ≤ a ∧ a ≤ 1000000 ∧ 0 ≤ c ∧
  ∀ r a' c' : Int, 0 ≤ r → r < many → a ≤ a' → a' ≤ a + 1 → 0 ≤ c' → R (.int r) (m.set i (p, poolO a' c' ns))
theorem ok_law_take {k : Nat} {f : Addr} {fd : FuncData} (F : Fun K "_law_take" "_law_take" s_law_take f fd) (m_int : mg "int" = none) (m_max : mg "max" = none) (m_len : mg "len" = none) : FnOk P w K mg base CX0 (k + 1) f fd ["_law_pool_here", "_law_many"] (lift K sp_law_take) := by
  refine def_ok F sc_law_take (fun ds m R ⟨i, p, a, c, ns, many, e, _⟩ => by rw [e]; rfl) ?_
  intro cdv A outer s H ds m R hr ⟨i, p, a, c, ns, many, e, hm, hn, h0, hb, ha, ha2, hc, k⟩
  subst e
  simp only [startR]
  have hl : i < m.length := (List.getElem?_eq_some_iff.mp hm).1
  have get2 : ∀ o, (m.set i (p, o))[i]? = some (p, o) := fun o => List.getElem?_set_self hl
  have Ba : Bd 40 a := by unfold Bd; omega
  have hz : ∃ z, atI (ns.map D.int ++ [D.int 0]) (a % max 1 (((ns.map D.int).length : Nat) : Int)) = some (.int z) := by
    have h1 : (0 : Int) < max 1 (((ns.map D.int).length : Nat) : Int) := by omega
    have h2 := Int.emod_nonneg a (Int.ne_of_gt h1)
    have h3 := Int.emod_lt_of_pos a h1
    obtain ⟨j, hj⟩ := Int.eq_ofNat_of_zero_le h2
    have h4 : j < (ns ++ [0]).length := by
      rw [hj, List.length_map] at h3
      simp only [List.length_append, List.length_cons, List.length_nil]
      omega
    refine ⟨(ns ++ [0])[j], ?_⟩
    rw [hj]
    refine atI_nat ?_
    rw [show ns.map D.int ++ [D.int 0] = (ns ++ [0]).map D.int by simp, List.getElem?_map, List.getElem?_eq_getElem h4]
    rfl
  obtain ⟨z, hz⟩ := hz
  tm_at "S"
  refine i_lst (.inr ⟨i, p, rfl, hm⟩) rfl ?_
  tm_at "S"
  refine ⟨fun h => ?_, fun h => ?_⟩
  · tm_at "S"
    refine i_lst (.inr ⟨i, p, rfl, hm⟩) rfl ?_
    tm_at "S"
    refine st_lst (j := 0) hm rfl ?_
    tm_at "S"
    refine i_lst (.inr ⟨i, p, rfl, get2 _⟩) rfl ?_
    tm_at "S"
    refine o_cat (.inl rfl) (.inl rfl) (by simp; omega) ?_
    tm_at "S"
    refine i_lst (.inr ⟨i, p, rfl, get2 _⟩) rfl ?_
    tm_at "S"
    refine i_lst (.inl rfl) hz ?_
    tm_at "S"
    refine ⟨fun h2 => ?_, fun h2 => ?_⟩
    · tm_at "S"
      refine ⟨_, List.Sublist.refl _, ?_⟩
      exact k _ (a + 1) c (Int.emod_nonneg _ (Int.ne_of_gt h0)) (Int.emod_lt_of_pos _ h0) (by omega) (by omega) hc
    · tm_at "S"
      refine st_lst (j := 1) (get2 _) rfl ?_
      rw [List.set_set]
      tm_at "S"
      refine i_lst (.inr ⟨i, p, rfl, get2 _⟩) rfl ?_
      tm_at "S"
      refine i_lst (.inr ⟨i, p, rfl, get2 _⟩) rfl ?_
      tm_at "S"
      refine st_lst (j := 1) (get2 _) rfl ?_
      rw [List.set_set]
      tm_at "S"
      refine ⟨_, List.Sublist.refl _, ?_⟩
      have hz0 : 0 ≤ z := by simp at h2; omega
      exact k _ (a + 1) (z / many) (Int.emod_nonneg _ (Int.ne_of_gt h0)) (Int.emod_lt_of_pos _ h0) (by omega) (by omega) (Int.ediv_nonneg hz0 (Int.le_of_lt h0))
  · tm_at "S"
    refine i_lst (.inr ⟨i, p, rfl, hm⟩) rfl ?_
    tm_at "S"
    refine i_lst (.inr ⟨i, p, rfl, hm⟩) rfl ?_
    tm_at "S"
    refine st_lst (j := 1) hm rfl ?_
    tm_at "S"
    refine ⟨_, List.Sublist.refl _, ?_⟩
    exact k _ a (c / many) (Int.emod_nonneg _ (Int.ne_of_gt h0)) (Int.emod_lt_of_pos _ h0) (by omega) (by omega) (Int.ediv_nonneg hc (Int.le_of_lt h0))
/-- a draw, the pool ahead in the ledger -/
theorem take0 {p : Addr} {a c many : Int} {ns : List Int} {rest : Led} {R : D → Led → Prop} (hn : ns.length ≤ 63) (h0 : 0 < many) (hb : many < 1099511627776) (ha : 0 ≤ a) (ha2 : a ≤ 1000000) (hc : 0 ≤ c)
    (k : ∀ r a' c' : Int, 0 ≤ r → r < many → a ≤ a' → a' ≤ a + 1 → 0 ≤ c' → R (.int r) ((p, poolO a' c' ns) :: rest)) : sp_law_take [.ref p, .int many] ((p, poolO a c ns) :: rest) R :=
  ⟨0, p, a, c, ns, many, rfl, rfl, hn, h0, (show Bd 40 many by unfold Bd; omega).up (by decide), ha, ha2, hc, k⟩
theorem take0L {p : Addr} {a c many : Int} {ns : List Int} {rest : Led} {R : D → Led → Prop} (hn : ns.length ≤ 63) (h0 : 0 < many) (hb : Bd 4000 many) (ha : 0 ≤ a) (ha2 : a ≤ 1000000) (hc : 0 ≤ c)
    (k : ∀ r a' c' : Int, 0 ≤ r → r < many → a ≤ a' → a' ≤ a + 1 → 0 ≤ c' → R (.int r) ((p, poolO a' c' ns) :: rest)) : sp_law_take [.ref p, .int many] ((p, poolO a c ns) :: rest) R :=
  ⟨0, p, a, c, ns, many, rfl, rfl, hn, h0, hb, ha, ha2, hc, k⟩

/-- the greatest common divisor of a list -/
def gL (ns : List Int) : Nat := ns.foldl (fun g n => Nat.gcd n.natAbs g) 0
theorem gL_take {ns : List Int} {i : Nat} {n : Int} (h : ns[i]? = some n) : gL (ns.take (i + 1)) = Nat.gcd n.natAbs (gL (ns.take i)) := by
  unfold gL
  rw [List.take_add_one, h, List.foldl_append]
  rfl
def sp_law_divisor : SpD := fun ds m R => ∃ (d : D) (ns : List Int), ds = [d] ∧ Seq d (ns.map D.int) ∧ R (.int (gL ns : Nat)) m
theorem ok_law_divisor {k : Nat} {f : Addr} {fd : FuncData} (F : Fun K "_law_divisor" "_law_divisor" s_law_divisor f fd) (m_int : mg "int" = none) (m_abs : mg "abs" = none) : FnOk P w K mg base CX0 (k + 1) f fd ["_law_numbers"] (lift K sp_law_divisor) := by
  refine def_ok F sc_law_divisor (fun ds m R ⟨d, ns, e, _⟩ => by rw [e]; rfl) ?_
  intro cdv A outer s H ds m R hr ⟨d, ns, e, hd, k⟩
  subst e
  simp only [startR]
  tm_at "S"
  refine s_for ?_
  refine ix_seq ?_
  tm_at "S"
  refine ⟨_, hd, ?_⟩
  refine ⟨fun i ρ' m' => m' = m ∧ ∃ o1 o2 o3, ρ' = ([("_law_numbers", some d), ("_law_found", some (.int (gL (ns.take i) : Nat))), ("_law_number", o1), ("_law_one", o2), ("_law_other", o3)] : Rn), ⟨rfl, _, _, _, rfl⟩, ?_, ?_⟩
  · rintro i dd ρ' m' hd ⟨rfl, o1, o2, o3, rfl⟩
    obtain ⟨n, hn, rfl⟩ := map_get hd
    tm_at "S"
    refine s_while (fun y ρ' m2 => m2 = m' ∧ ∃ x : Nat, Nat.gcd x y = gL (ns.take (i + 1)) ∧ ρ' = ([("_law_numbers", some d), ("_law_found", some (.int (gL (ns.take i) : Nat))), ("_law_number", some (.int n)), ("_law_one", some (.int (x : Nat))), ("_law_other", some (.int (y : Nat)))] : Rn)) (gL (ns.take i)) ⟨rfl, n.natAbs, (gL_take hn).symm, rfl⟩ ?_
    rintro y ρ' m2 ⟨rfl, x, hg, rfl⟩
    tm_at "S"
    refine ⟨fun h => ?_, fun h => ?_⟩
    · have hy : 0 < y := by simp at h; omega
      tm_at "S"
      refine ⟨x % y, Nat.mod_lt _ hy, rfl, y, ?_, ?_⟩
      · rw [← hg, Nat.gcd_comm x y, Nat.gcd_rec y x, Nat.gcd_comm]
      · rw [Int.natCast_emod]
    · have hy : y = 0 := by simp at h; omega
      subst hy
      rw [Nat.gcd_zero_right] at hg
      tm_at "S"
      exact ⟨rfl, _, _, _, by rw [hg]⟩
  · rintro ρ' m' ⟨rfl, o1, o2, o3, rfl⟩
    tm_at "S"
    refine ⟨_, List.Sublist.refl _, ?_⟩
    rw [List.length_map, List.take_length]
    exact k

/-- lowest terms, the bottom above 0 -/
def Nf (q : Q) : Prop := 0 < q.2 ∧ Int.gcd q.1 q.2 = 1
def piece (u d : Int) : Int := if d < 0 then -(Int.gcd u d : Int) else (Int.gcd u d : Int)
def mkQ (u d : Int) : Q := (u.fdiv (piece u d), d.fdiv (piece u d))
theorem gL2 (u d : Int) : gL [u, d] = Int.gcd u d := by
  show Nat.gcd d.natAbs (Nat.gcd u.natAbs 0) = Int.gcd u d
  rw [Nat.gcd_zero_right, Nat.gcd_comm]
  rfl
theorem gcd_pos {u d : Int} (h : d ≠ 0) : 0 < Int.gcd u d := by
  rcases Nat.eq_zero_or_pos (Int.gcd u d) with e | e
  · exact absurd (Int.gcd_eq_zero_iff.mp e).2 h
  · exact e
theorem piece_ne {u d : Int} (h : d ≠ 0) : piece u d ≠ 0 := by
  have := gcd_pos (u := u) h
  unfold piece
  split <;> omega
theorem piece_bd {u d : Int} {n : Nat} (h : d ≠ 0) (hb : Bd n d) : Bd n (piece u d) := by
  have h1 : Int.gcd u d ∣ d.natAbs := Nat.gcd_dvd_right _ _
  have h2 := Nat.le_of_dvd (by omega) h1
  unfold Bd at hb ⊢
  have : (piece u d).natAbs = Int.gcd u d := by unfold piece; split <;> simp
  rw [this]
  omega
theorem mkQ_spec {u d : Int} (h : d ≠ 0) : ∃ p : Int, p = piece u d ∧ p ≠ 0 ∧ u = (mkQ u d).1 * p ∧ d = (mkQ u d).2 * p ∧ 0 < (mkQ u d).2 ∧ Int.gcd (mkQ u d).1 (mkQ u d).2 = 1 := by
  have hp := piece_ne (u := u) h
  have hg := gcd_pos (u := u) h
  have d1 : (Int.gcd u d : Int) ∣ u := Int.gcd_dvd_left ..
  have d2 : (Int.gcd u d : Int) ∣ d := Int.gcd_dvd_right ..
  have e1 : piece u d ∣ u := by unfold piece; split; exact Int.neg_dvd.mpr d1; exact d1
  have e2 : piece u d ∣ d := by unfold piece; split; exact Int.neg_dvd.mpr d2; exact d2
  have f1 : u = (mkQ u d).1 * piece u d := by
    show u = u.fdiv (piece u d) * piece u d
    rw [Int.fdiv_eq_ediv_of_dvd e1, Int.ediv_mul_cancel e1]
  have f2 : d = (mkQ u d).2 * piece u d := by
    show d = d.fdiv (piece u d) * piece u d
    rw [Int.fdiv_eq_ediv_of_dvd e2, Int.ediv_mul_cancel e2]
  refine ⟨_, rfl, hp, f1, f2, ?_, ?_⟩
  · rcases Int.lt_or_le 0 (mkQ u d).2 with q | q
    · exact q
    · exfalso
      by_cases hd : d < 0
      · have : piece u d < 0 := by unfold piece; rw [if_pos hd]; omega
        have := Int.mul_nonneg_of_nonpos_of_nonpos q (Int.le_of_lt this)
        omega
      · have : 0 < piece u d := by unfold piece; rw [if_neg hd]; omega
        have := Int.mul_nonpos_of_nonpos_of_nonneg q (Int.le_of_lt this)
        omega
  · have hn : (piece u d).natAbs = Int.gcd u d := by unfold piece; split <;> simp
    have k : Int.gcd u d = Int.gcd (mkQ u d).1 (mkQ u d).2 * (piece u d).natAbs := by
      have k0 : Int.gcd u d = Int.gcd ((mkQ u d).1 * piece u d) ((mkQ u d).2 * piece u d) := by rw [← f1, ← f2]
      rw [Int.gcd_mul_right] at k0
      exact k0
    rw [hn] at k
    have : 1 * Int.gcd u d = Int.gcd (mkQ u d).1 (mkQ u d).2 * Int.gcd u d := by rw [Nat.one_mul]; exact k
    exact (Nat.eq_of_mul_eq_mul_right hg this).symm
theorem mkQ_nf {u d : Int} (h : d ≠ 0) : Nf (mkQ u d) := by
  obtain ⟨p, _, _, _, _, h1, h2⟩ := mkQ_spec (u := u) h
  exact ⟨h1, h2⟩
theorem mkQ_cross {u d : Int} (h : d ≠ 0) : (mkQ u d).1 * d = u * (mkQ u d).2 := by
  obtain ⟨p, _, _, e1, e2, _, _⟩ := mkQ_spec (u := u) h
  generalize hq : mkQ u d = q at *
  rw [e1, e2]
  simp only [Int.mul_assoc, Int.mul_comm, Int.mul_left_comm]
theorem natAbs_le_mul {a p : Int} (hp : p ≠ 0) : a.natAbs ≤ (a * p).natAbs := by
  rw [Int.natAbs_mul]
  exact Nat.le_mul_of_pos_right _ (by omega)
theorem mkQ_bd {u d : Int} {n k : Nat} (h : d ≠ 0) (hu : Bd n u) (hd : Bd k d) : Bd n (mkQ u d).1 ∧ Bd k (mkQ u d).2 := by
  obtain ⟨p, _, hp, e1, e2, _, _⟩ := mkQ_spec (u := u) h
  constructor
  · have := natAbs_le_mul (a := (mkQ u d).1) hp
    rw [← e1] at this
    exact Nat.lt_of_le_of_lt this hu
  · have := natAbs_le_mul (a := (mkQ u d).2) hp
    rw [← e2] at this
    exact Nat.lt_of_le_of_lt this hd
theorem mkQ_rb {u d : Int} {n : Nat} (h : d ≠ 0) (hu : Bd n u) (hd : Bd n d) : Rb n (mkQ u d) := mkQ_bd h hu hd
/-- lowest terms are unique -/
theorem nf_unique {p q : Q} (hp : Nf p) (hq : Nf q) (h : p.1 * q.2 = q.1 * p.2) : p = q := by
  obtain ⟨a, b⟩ := p
  obtain ⟨c, d⟩ := q
  simp only [Nf] at hp hq h
  have h1 : d.natAbs ∣ b.natAbs := by
    have e : c.natAbs * b.natAbs = a.natAbs * d.natAbs := by rw [← Int.natAbs_mul, ← Int.natAbs_mul, h]
    have dv : d.natAbs ∣ c.natAbs * b.natAbs := by rw [e]; exact Nat.dvd_mul_left _ _
    have cop : Nat.Coprime d.natAbs c.natAbs := by rw [Nat.coprime_comm]; exact hq.2
    exact cop.dvd_of_dvd_mul_left dv
  have h2 : b.natAbs ∣ d.natAbs := by
    have e : c.natAbs * b.natAbs = a.natAbs * d.natAbs := by rw [← Int.natAbs_mul, ← Int.natAbs_mul, h]
    have dv : b.natAbs ∣ a.natAbs * d.natAbs := by rw [← e]; exact Nat.dvd_mul_left _ _
    have cop : Nat.Coprime b.natAbs a.natAbs := by rw [Nat.coprime_comm]; exact hp.2
    exact cop.dvd_of_dvd_mul_left dv
  have e : b.natAbs = d.natAbs := Nat.dvd_antisymm h2 h1
  have ebd : b = d := by omega
  subst ebd
  have : a = c := Int.eq_of_mul_eq_mul_right (by omega) h
  rw [this]

def sp_law_ratio : SpD := fun ds m R => ∃ u d : Int, ds = [.int u, .int d] ∧ d ≠ 0 ∧ Bd 8000 d ∧ R (rat (mkQ u d)) m
theorem ok_law_ratio {k : Nat} {f : Addr} {fd : FuncData} (F : Fun K "_law_ratio" "_law_ratio" s_law_ratio f fd) (h_div : Knows P w K mg base k "_law_divisor" 1 sp_law_divisor) : FnOk P w K mg base CX0 (k + 1) f fd ["_law_up", "_law_down"] (lift K sp_law_ratio) := by
  refine def_ok F sc_law_ratio (fun ds m R ⟨u, d, e, _⟩ => by rw [e]; rfl) ?_
  intro cdv A outer s H ds m R hr ⟨u, d, e, hd, hb, k⟩
  subst e
  simp only [startR]
  tm_at "S"
  refine ⟨_, [u, d], rfl, .inl rfl, ?_⟩
  rw [gL2]
  have hp := piece_bd (u := u) hd hb
  have hp0 := piece_ne (u := u) hd
  tm_at "S"
  refine ⟨fun h => ?_, fun h => ?_⟩
  · have e : -(Int.gcd u d : Int) = piece u d := by unfold piece; rw [if_pos (by simpa using h)]
    tm_at "S"
    rw [e]
    refine o_fdivN (Bd.divG hp hp0 (by decide)) ?_
    tm_at "S"
    refine o_fdivN (Bd.divG hp hp0 (by decide)) ?_
    tm_at "S"
    exact ⟨_, List.Sublist.refl _, k⟩
  · have e : (Int.gcd u d : Int) = piece u d := by unfold piece; rw [if_neg (by simpa using h)]
    tm_at "S"
    rw [e]
    refine o_fdivN (Bd.divG hp hp0 (by decide)) ?_
    tm_at "S"
    refine o_fdivN (Bd.divG hp hp0 (by decide)) ?_
    tm_at "S"
    exact ⟨_, List.Sublist.refl _, k⟩

def sp_law_less : SpD := fun ds m R => ∃ p q : Q, ds = [rat p, rat q] ∧ Rb 4000 p ∧ Rb 4000 q ∧ R (.bl (decide (p.1 * q.2 < q.1 * p.2))) m
theorem ok_law_less {k : Nat} {f : Addr} {fd : FuncData} (F : Fun K "_law_less" "_law_less" s_law_less f fd) : FnOk P w K mg base CX0 (k + 1) f fd ["_law_one", "_law_other"] (lift K sp_law_less) := by
  refine def_ok F sc_law_less (fun ds m R ⟨u, d, e, _⟩ => by rw [e]; rfl) ?_
  intro cdv A outer s H ds m R hr ⟨p, q, e, ⟨h1, h2⟩, ⟨h3, h4⟩, k⟩
  subst e
  simp only [startR]
  tm_at "S"
  exact ⟨_, List.Sublist.refl _, k⟩
/-- the sum of two ratios -/
def plusQ (p q : Q) : Q := mkQ (p.1 * q.2 + q.1 * p.2) (p.2 * q.2)
def sp_law_plus : SpD := fun ds m R => ∃ p q : Q, ds = [rat p, rat q] ∧ Rb 3000 p ∧ Rb 3000 q ∧ p.2 ≠ 0 ∧ q.2 ≠ 0 ∧ R (rat (plusQ p q)) m
theorem ok_law_plus {k : Nat} {f : Addr} {fd : FuncData} (F : Fun K "_law_plus" "_law_plus" s_law_plus f fd) (h_ratio : Knows P w K mg base k "_law_ratio" 2 sp_law_ratio) : FnOk P w K mg base CX0 (k + 1) f fd ["_law_one", "_law_other"] (lift K sp_law_plus) := by
  refine def_ok F sc_law_plus (fun ds m R ⟨u, d, e, _⟩ => by rw [e]; rfl) ?_
  intro cdv A outer s H ds m R hr ⟨p, q, e, ⟨h1, h2⟩, ⟨h3, h4⟩, hp, hq, k⟩
  subst e
  simp only [startR]
  tm_at "S"
  refine ⟨_, _, rfl, Int.mul_ne_zero hp hq, (h2.mulR h4).up (by decide), ?_⟩
  exact ⟨_, List.Sublist.refl _, k⟩

theorem cmp_eq_iff {x y : Q} (hx : Nf x) (hy : Nf y) : cmpR x y = 0 ↔ x = y := by
  constructor
  · intro h
    refine nf_unique hx hy ?_
    unfold cmpR at h
    split at h <;> split at h <;> omega
  · intro h
    subst h
    unfold cmpR
    simp
theorem cmp_ne_val {x y : Q} (h : cmpR x y ≠ 0) : cmpR x y = 1 - 2 * (if decide (x.1 * y.2 < y.1 * x.2) = true then 1 else 0) := by
  unfold cmpR at h ⊢
  simp only [decide_eq_true_eq]
  split at h <;> split at h <;> split <;> omega
def woR : List Q → List Q → Int
  | x :: xs, y :: ys => if cmpR x y ≠ 0 then cmpR x y else woR xs ys
  | _, _ => 0
theorem woR_nil (ys : List Q) : woR [] ys = 0 := by cases ys <;> rfl
def sp_law_words_order : SpD := fun ds m R => ∃ xs ys : List Q, ds = [.lst (xs.map rat), .lst (ys.map rat)] ∧ xs.length = ys.length ∧ xs.length ≤ 1000 ∧ (∀ x ∈ xs, Nf x ∧ Rb 4000 x) ∧ (∀ y ∈ ys, Nf y ∧ Rb 4000 y) ∧ R (.int (woR xs ys)) m
theorem ok_law_words_order {k : Nat} {f : Addr} {fd : FuncData} (F : Fun K "_law_words_order" "_law_words_order" s_law_words_order f fd) (m_int : mg "int" = none) (m_len : mg "len" = none) (m_range : mg "range" = none)
    (h_less : Knows P w K mg base k "_law_less" 2 sp_law_less) : FnOk P w K mg base CX0 (k + 1) f fd ["_law_one", "_law_other"] (lift K sp_law_words_order) := by
  refine def_ok F sc_law_words_order (fun ds m R ⟨p, q, e, _⟩ => by rw [e]; rfl) ?_
  intro cdv A outer s H ds m R hr ⟨xs, ys, e, hl, h1000, hx, hy, k⟩
  subst e
  simp only [startR]
  tm_at "s"
  refine s_for ?_
  refine j_range1 (by assumption) ?_
  tm_at "S"
  refine ⟨by omega, by simp; omega, ?_⟩
  refine ⟨fun i ρ' m' => m' = m ∧ (∃ o1, ρ' = ([("_law_one", some (.lst (xs.map rat))), ("_law_other", some (.lst (ys.map rat))), ("_law_k", o1)] : Rn)) ∧ woR xs ys = woR (xs.drop i) (ys.drop i), ⟨rfl, ⟨_, rfl⟩, rfl⟩, ?_, ?_⟩
  · rintro i d ρ' m' hd ⟨rfl, ⟨o1, rfl⟩, hI⟩
    obtain ⟨hi, rfl⟩ := range0_get hd
    simp only [List.length_map, Int.toNat_natCast] at hi
    have gx : xs[i]? = some xs[i] := List.getElem?_eq_getElem hi
    have gy : ys[i]? = some (ys[i]'(by omega)) := List.getElem?_eq_getElem (by omega)
    generalize xs[i] = x at gx
    generalize (ys[i]'(by omega)) = y at gy
    have hX := hx x (List.mem_of_getElem? gx)
    have hY := hy y (List.mem_of_getElem? gy)
    have ex : atI (xs.map rat) ((i : Nat) : Int) = some (rat x) := atI_nat (by rw [List.getElem?_map, gx]; rfl)
    have ey : atI (ys.map rat) ((i : Nat) : Int) = some (rat y) := atI_nat (by rw [List.getElem?_map, gy]; rfl)
    have e3 : woR xs ys = if cmpR x y ≠ 0 then cmpR x y else woR (xs.drop (i + 1)) (ys.drop (i + 1)) := by rw [hI, drop_cons gx, drop_cons gy]; rfl
    tm_at "S"
    refine i_lst (.inl rfl) ex ?_
    tm_at "S"
    refine i_lst (.inl rfl) ey ?_
    refine o_neD hr.units (.inl rfl) (.inl rfl) (by simp [NB]) (by simp [NB]) ?_
    intro b hb
    have hb' : b = true ↔ cmpR x y = 0 := by
      rw [hb, cmp_eq_iff hX.1 hY.1]
      constructor
      · intro e
        obtain ⟨a1, a2⟩ := x
        obtain ⟨b1, b2⟩ := y
        simpa [rat] using e
      · intro e; rw [e]
    tm_at "S"
    refine ⟨fun h => ?_, fun h => ?_⟩
    · have hne : cmpR x y ≠ 0 := fun z => by rw [hb'.mpr z] at h; cases h
      tm_at "S"
      refine i_lst (.inl rfl) ex ?_
      tm_at "S"
      refine i_lst (.inl rfl) ey ?_
      tm_at "S"
      refine ⟨x, y, rfl, hX.2, hY.2, ?_⟩
      tm_at "S"
      refine o_mul (.of_left (intBits_le_64 (by decide) (by decide))) ?_
      tm_at "S"
      refine ⟨_, List.Sublist.refl _, ?_⟩
      rw [if_pos hne, cmp_ne_val hne] at e3
      rw [← e3]; exact k
    · have hne : cmpR x y = 0 := by
        cases b with
        | true => exact hb'.mp rfl
        | false => cases h
      tm_at "S"
      rw [if_neg (by simpa using hne)] at e3
      exact ⟨rfl, ⟨_, rfl⟩, e3⟩
  · rintro ρ' m' ⟨rfl, ⟨o1, rfl⟩, hI⟩
    tm_at "S"
    refine ⟨_, List.Sublist.refl _, ?_⟩
    rw [rangeD_len, List.length_map, Int.toNat_natCast, List.drop_length] at hI
    rw [woR_nil] at hI
    rw [← hI]; exact k
theorem due_eq : ∀ xs ys : List Q, (if woR (xs.take (min xs.length ys.length)) (ys.take (min xs.length ys.length)) ≠ 0 then woR (xs.take (min xs.length ys.length)) (ys.take (min xs.length ys.length)) else (if xs.length > ys.length then 1 else 0) - (if xs.length < ys.length then 1 else 0)) = loR xs ys
  | [], ys => by simp [woR_nil, loR_end]
  | x :: xs, [] => by simp [woR_nil, loR_end]
  | x :: xs, y :: ys => by
    have ih := due_eq xs ys
    have e : min (x :: xs).length (y :: ys).length = min xs.length ys.length + 1 := by simp only [List.length_cons]; omega
    rw [e]
    simp only [List.take_succ_cons, woR, loR, List.length_cons, Nat.add_lt_add_iff_right, gt_iff_lt]
    simp only [gt_iff_lt] at ih
    by_cases h : cmpR x y ≠ 0
    · simp only [if_pos h]
    · simp only [if_neg h]
      exact ih
def sp_law_due : SpD := fun ds m R => ∃ xs ys : List Q, ds = [.lst (xs.map rat), .lst (ys.map rat)] ∧ xs.length ≤ 1000 ∧ ys.length ≤ 1000 ∧ (∀ x ∈ xs, Nf x ∧ Rb 4000 x) ∧ (∀ y ∈ ys, Nf y ∧ Rb 4000 y) ∧ R (.int (loR xs ys)) m
theorem ok_law_due {k : Nat} {f : Addr} {fd : FuncData} (F : Fun K "_law_due" "_law_due" s_law_due f fd) (m_int : mg "int" = none) (m_len : mg "len" = none) (m_min : mg "min" = none)
    (h_words : Knows P w K mg base k "_law_words_order" 2 sp_law_words_order) : FnOk P w K mg base CX0 (k + 1) f fd ["_law_one", "_law_other"] (lift K sp_law_due) := by
  refine def_ok F sc_law_due (fun ds m R ⟨p, q, e, _⟩ => by rw [e]; rfl) ?_
  intro cdv A outer s H ds m R hr ⟨xs, ys, e, hl1, hl2, hx, hy, k⟩
  subst e
  simp only [startR]
  tm_at "S"
  have em : min (((xs.map rat).length : Nat) : Int) (((ys.map rat).length : Nat) : Int) = ((min xs.length ys.length : Nat) : Int) := by simp only [List.length_map]; omega
  rw [em, cutD_take (by simp only [List.length_map]; omega), cutD_take (by simp only [List.length_map]; omega), ← List.map_take, ← List.map_take]
  refine ⟨_, _, rfl, by simp only [List.length_take]; omega, by simp only [List.length_take]; omega, fun x h => hx x (List.mem_of_mem_take h), fun y h => hy y (List.mem_of_mem_take h), ?_⟩
  have d := due_eq xs ys
  tm_at "S"
  refine ⟨fun h => ?_, fun h => ?_⟩
  · tm_at "S"
    refine ⟨_, List.Sublist.refl _, ?_⟩
    simp at h
    rw [if_pos h] at d
    rw [d]; exact k
  · tm_at "S"
    refine ⟨_, List.Sublist.refl _, ?_⟩
    simp at h
    rw [if_neg (by simpa using h)] at d
    rw [← d] at k
    simpa using k

end
end K34

namespace K34
open PySem PySem.Spec PyProof.Rows L2 DL
local macro_rules | `(tactic| tm_at "look") => `(tactic| (first | (with_reducible exact LookAt.here) | (with_reducible apply LookAt.there; tm_at "look")))
local macro_rules | `(tactic| tm_at "seta") => `(tactic| (first | (with_reducible exact SetAt.here) | (with_reducible apply SetAt.there; tm_at "seta")))
local macro_rules | `(tactic| tm_at "slot") => `(tactic| (first | (with_reducible exact SlotAt.here) | (with_reducible apply SlotAt.there; tm_at "slot")))
local macro_rules | `(tactic| tm_at "lv") => `(tactic| (first | exact Or.inl rfl | exact Or.inr ⟨0, _, rfl, rfl⟩ | exact Or.inr ⟨1, _, rfl, rfl⟩ | exact Or.inr ⟨2, _, rfl, rfl⟩ | exact Or.inr ⟨3, _, rfl, rfl⟩))
local macro_rules | `(tactic| tm_at "room") => `(tactic| exact Room.mono (by assumption) (by omega))
local macro_rules | `(tactic| tm_at "bd") => `(tactic| (first
  | (with_reducible assumption)
  | ((with_reducible show Bd _ (_ * _)); refine Bd.mulR (by tm_at "bd") (by tm_at "bd"))
  | ((with_reducible show Bd _ (_ + _)); refine Bd.addR (by tm_at "bd") (by tm_at "bd"))
  | ((with_reducible show Bd _ (_ - _)); refine Bd.subR (by tm_at "bd") (by tm_at "bd"))
  | ((with_reducible show Bd _ (-_)); refine Bd.negR (by tm_at "bd"))
  | (exact Bd.lit _)
  | (exact Bd.one)
  | assumption))
local macro_rules | `(tactic| tm_at "mul") => `(tactic| (exact Bd.mul (by tm_at "bd") (by tm_at "bd") (by decide)))
local macro_rules | `(tactic| tm_at "pos") => `(tactic| (first | assumption | omega | decide))
local macro_rules | `(tactic| tm_at "name") => `(tactic| (first
  | (refine x_var (by tm_at "look") ?_)
  | (refine c_glob (by with_reducible assumption) ?_)
  | ((with_reducible show EX _ (Expr.Name "int" _) _ _ _); refine c_ty (by with_reducible assumption) bt_int ?_)
  | ((with_reducible show EX _ (Expr.Name "bool" _) _ _ _); refine c_ty (by with_reducible assumption) bt_bool ?_)
  | ((with_reducible show EX _ (Expr.Name "list" _) _ _ _); refine c_ty (by with_reducible assumption) bt_list ?_)
  | ((with_reducible show EX _ (Expr.Name "tuple" _) _ _ _); refine c_ty (by with_reducible assumption) bt_tuple ?_)
  | ((with_reducible show EX _ (Expr.Name "dict" _) _ _ _); refine c_ty (by with_reducible assumption) bt_dict ?_)
  | ((with_reducible show EX _ (Expr.Name "str" _) _ _ _); refine c_ty (by with_reducible assumption) bt_str ?_)))
local macro_rules | `(tactic| tm_at "call") => `(tactic| (first
  | (refine c_call (by with_reducible assumption) (by tm_at "room") ?_)
  | ((with_reducible show EX _ (Expr.Call (Expr.Name "int" _) _ _ _) _ _ _); refine c_ct (by with_reducible assumption) bt_int ?_)
  | ((with_reducible show EX _ (Expr.Call (Expr.Name "bool" _) _ _ _) _ _ _); refine c_ct (by with_reducible assumption) bt_bool ?_)
  | ((with_reducible show EX _ (Expr.Call (Expr.Name "list" _) _ _ _) _ _ _); refine c_ct (by with_reducible assumption) bt_list ?_)
  | ((with_reducible show EX _ (Expr.Call (Expr.Name "tuple" _) _ _ _) _ _ _); refine c_ct (by with_reducible assumption) bt_tuple ?_)
  | ((with_reducible show EX _ (Expr.Call (Expr.Name "dict" _) _ _ _) _ _ _); refine c_ct (by with_reducible assumption) bt_dict ?_)
  | ((with_reducible show EX _ (Expr.Call (Expr.Name "str" _) _ _ _) _ _ _); refine c_ct (by with_reducible assumption) bt_str ?_)
  | ((with_reducible show EX _ (Expr.Call (Expr.Name "len" _) _ _ _) _ _ _); refine c_cb (by with_reducible assumption) bt_len ?_)
  | ((with_reducible show EX _ (Expr.Call (Expr.Name "max" _) _ _ _) _ _ _); refine c_cb (by with_reducible assumption) bt_max ?_)
  | ((with_reducible show EX _ (Expr.Call (Expr.Name "min" _) _ _ _) _ _ _); refine c_cb (by with_reducible assumption) bt_min ?_)
  | ((with_reducible show EX _ (Expr.Call (Expr.Name "abs" _) _ _ _) _ _ _); refine c_cb (by with_reducible assumption) bt_abs ?_)
  | ((with_reducible show EX _ (Expr.Call (Expr.Name "sum" _) _ _ _) _ _ _); refine c_cb (by with_reducible assumption) bt_sum ?_)
  | ((with_reducible show EX _ (Expr.Call (Expr.Name "all" _) _ _ _) _ _ _); refine c_cb (by with_reducible assumption) bt_all ?_)
  | ((with_reducible show EX _ (Expr.Call (Expr.Name "any" _) _ _ _) _ _ _); refine c_cb (by with_reducible assumption) bt_any ?_)
  | ((with_reducible show EX _ (Expr.Call (Expr.Name "sorted" _) _ _ _) _ _ _); refine c_cb (by with_reducible assumption) bt_sorted ?_)
  | ((with_reducible show EX _ (Expr.Call (Expr.Name "isinstance" _) _ _ _) _ _ _); refine c_cb (by with_reducible assumption) bt_isinstance ?_)))
local macro_rules | `(tactic| tm_at "isi") => `(tactic| (first
  | (refine isi_NoneType_int ?_)
  | (refine isi_NoneType_bool ?_)
  | (refine isi_NoneType_list ?_)
  | (refine isi_NoneType_tuple ?_)
  | (refine isi_NoneType_dict ?_)
  | (refine isi_NoneType_str ?_)
  | (refine isi_bool_int ?_)
  | (refine isi_bool_bool ?_)
  | (refine isi_bool_list ?_)
  | (refine isi_bool_tuple ?_)
  | (refine isi_bool_dict ?_)
  | (refine isi_bool_str ?_)
  | (refine isi_int_int ?_)
  | (refine isi_int_bool ?_)
  | (refine isi_int_list ?_)
  | (refine isi_int_tuple ?_)
  | (refine isi_int_dict ?_)
  | (refine isi_int_str ?_)
  | (refine isi_str_int ?_)
  | (refine isi_str_bool ?_)
  | (refine isi_str_list ?_)
  | (refine isi_str_tuple ?_)
  | (refine isi_str_dict ?_)
  | (refine isi_str_str ?_)
  | (refine isi_list_int ?_)
  | (refine isi_list_bool ?_)
  | (refine isi_list_list ?_)
  | (refine isi_list_tuple ?_)
  | (refine isi_list_dict ?_)
  | (refine isi_list_str ?_)
  | (refine isi_tuple_int ?_)
  | (refine isi_tuple_bool ?_)
  | (refine isi_tuple_list ?_)
  | (refine isi_tuple_tuple ?_)
  | (refine isi_tuple_dict ?_)
  | (refine isi_tuple_str ?_)))
local macro_rules | `(tactic| tm_at "EX") => `(tactic| (first
  | ((with_reducible show EX _ (Expr.Name _ _) _ _ _); tm_at "name")
  | ((with_reducible show EX _ (Expr.Call (Expr.Name _ _) _ [] _) _ _ _); tm_at "call")
  | (refine x_int ?_)
  | (refine x_slice ?_)
  | ((with_reducible show EX _ (Expr.Subscript _ _ _) _ _ _); refine x_ix ?_)
  | (refine x_bin ?_)
  | ((with_reducible show EX _ (Expr.Compare _ [_] [_] _) _ _ _); refine x_cmp ?_)
  | (refine x_tup ?_)
  | (refine x_lst ?_)
  | (refine x_str ?_)
  | (refine x_bl ?_)
  | (refine x_non ?_)
  | (refine x_not ?_)
  | (refine x_un ?_)
  | (refine x_and ?_)
  | (refine x_or ?_)
  | (refine x_one ?_)
  | (refine x_if ?_)))
local macro_rules | `(tactic| tm_at "OX") => `(tactic| (first
  | (refine o_add ?_)
  | (refine o_sub ?_)
  | ((with_reducible show OX _ (binaryOp Operator.Mult) (D.int _) (D.int _) _ _); refine o_mul (by tm_at "mul") ?_)
  | (refine o_lt ?_)
  | (refine o_gt ?_)
  | (refine o_le ?_)
  | (refine o_ge ?_)
  | (refine o_eqI ?_)
  | (refine o_neI ?_)
  | ((with_reducible show OX _ (binaryOp Operator.Mod) (D.int _) (D.int _) _ _); refine o_mod (by tm_at "pos") ?_)
  | ((with_reducible show OX _ (binaryOp Operator.Pow) (D.int _) (D.int _) _ _); refine o_pow (by refine ⟨?_, ?_, ?_⟩ <;> omega) ?_)
  | ((with_reducible show OX _ (binaryOp Operator.FloorDiv) (D.int _) (D.int _) _ _); refine o_fdiv (Bd.divW (by tm_at "bd") (by first | assumption | decide) (by decide)) ?_)
  | (refine o_iadd ?_)
  | (refine o_isub ?_)
  | (refine o_isN ?_)
  | (refine o_notN ?_)
  | (refine o_eqS ?_)
  | (refine o_neS ?_)
  | (refine o_eqB ?_)))
local macro_rules | `(tactic| tm_at "BX") => `(tactic| (first
  | ((with_reducible show BX _ (Value.type "int") _ _ _); first | (refine b_int ?_) | (refine b_intB ?_))
  | ((with_reducible show BX _ (Value.builtin "len") _ _ _); first | (refine b_lenT ?_) | (refine b_len (by tm_at "lv") ?_))
  | ((with_reducible show BX _ (Value.builtin "max") _ _ _); refine b_max2 ?_)
  | ((with_reducible show BX _ (Value.builtin "min") _ _ _); refine b_min2 ?_)
  | ((with_reducible show BX _ (Value.builtin "abs") _ _ _); refine b_abs ?_)
  | ((with_reducible show BX _ (Value.type "list") _ _ _); first | (refine b_listK ?_) | (refine b_listT ?_) | (refine b_list (by tm_at "lv") ?_))
  | ((with_reducible show BX _ (Value.type "tuple") _ _ _); first | (refine b_tupleT ?_) | (refine b_tuple (by tm_at "lv") ?_))
  | ((with_reducible show BX _ (Value.builtin "isinstance") _ _ _); tm_at "isi")))
local macro_rules | `(tactic| tm_at "TX") => `(tactic| (first
  | ((with_reducible show TX _ (Expr.Compare _ [_] [_] _) _ _ _); refine t_cmp ?_)
  | (refine t_not ?_)
  | ((with_reducible show TX _ (Expr.BoolOp _ _ _) _ _ _); refine t_w ?_)
  | ((with_reducible show TX _ _ _ _ _); refine t_val ?_)))
local macro_rules | `(tactic| tm_at "S1") => `(tactic| (first
  | (refine s_ret ?_)
  | (refine s_if ?_)
  | ((with_reducible show S1 _ (Stmt.Assign [Expr.Name _ _] _ _) _ _ _); refine s_set ?_)
  | ((with_reducible show S1 _ (Stmt.Expr _ _) _ _ _); refine s_expr ?_)
  | ((with_reducible show S1 _ (Stmt.Assign [Expr.Tuple _ _ _] (Expr.Tuple _ _ _) _) _ _ _); refine s_par ?_)
  | (refine s_retN ?_)
  | (refine s_pass ?_)
  | (refine s_break ?_)
  | (refine s_continue ?_)
  | ((with_reducible show S1 _ (Stmt.AugAssign (Expr.Name _ _) _ _ _) _ _ _); refine s_aug (by tm_at "look") ?_)
  | ((with_reducible show S1 _ (Stmt.Assign [_] _ _) _ _ _); refine s_asg ?_)))
local macro_rules | `(tactic| tm_at "s") => `(tactic| (first
  | (refine s_cons ?_)
  | (refine s_nil ?_)
  | ((with_reducible show EX _ _ _ _ _); tm_at "EX")
  | ((with_reducible show OX _ _ _ _ _ _); tm_at "OX")
  | ((with_reducible show S1 _ _ _ _ _); tm_at "S1")
  | ((with_reducible show AX _ (_ :: _) _ _ _); refine a_cons ?_)
  | (refine a_nil ?_)
  | ((with_reducible show IxX _ (D.tup _) _ _ _); refine i_tup rfl ?_)
  | ((with_reducible show BX _ _ _ _ _); tm_at "BX")
  | ((with_reducible show TX _ _ _ _ _); tm_at "TX")
  | (refine u_neg ?_)
  | (refine w_and ?_)
  | (refine w_or ?_)
  | (refine w_and1 ?_)
  | (refine w_or1 ?_)
  | ((with_reducible show GX _ (Expr.Tuple _ _ _) _ _ _ _); refine g_tup ?_)
  | ((with_reducible show GsX _ (_ :: _) _ _ _ _); refine gs_cons ?_)
  | (refine gs_nil ?_)
  | ((with_reducible show GX _ (Expr.Name _ _) _ _ _ _); refine g_name (by tm_at "seta") ?_)
  | ((with_reducible show GX _ (Expr.Subscript _ _ _) _ _ _ _); refine g_sub ?_)
  | (refine px_none ?_)
  | (refine px_some ?_)
  | ((with_reducible show SlX _ _ _ _ _ _); refine sl_lst (by tm_at "lv") ?_)
  | ((with_reducible show (∃ k, _ = _ ∧ _)); refine ⟨_, rfl, ?_⟩)
  | ((with_reducible show (∃ i ρ', SetAt _ i _ _ ρ' ∧ _)); refine ⟨_, _, by tm_at "seta", ?_⟩)
  | ((with_reducible show (∃ ρ', SetAt _ _ _ _ ρ' ∧ _)); refine ⟨_, by tm_at "seta", ?_⟩)
  | ((with_reducible show (∃ d1 d2 i j ρ1 ρ2, _ = _ ∧ SetAt _ _ _ _ _ ∧ _)); refine ⟨_, _, _, _, _, _, rfl, by tm_at "seta", by tm_at "seta", by decide, ?_⟩)
  | ((with_reducible show (List.length _ ≤ 100000 ∧ _)); refine ⟨Nat.le_of_ble_eq_true rfl, ?_⟩)))
local macro_rules | `(tactic| tm_at "n1") => `(tactic| (first
  | (refine s_cons ?_)
  | (refine s_nil ?_)
  | ((with_reducible show EX _ _ _ _ _); tm_at "EX")
  | ((with_reducible show OX _ _ _ _ _ _); tm_at "OX")
  | ((with_reducible show AX _ (_ :: _) _ _ _); refine a_cons ?_)
  | (refine a_nil ?_)
  | ((with_reducible show IxX _ (D.tup _) _ _ _); refine i_tup rfl ?_)
  | ((with_reducible show BX _ _ _ _ _); tm_at "BX")
  | ((with_reducible show TX _ _ _ _ _); tm_at "TX")
  | (refine u_neg ?_)
  | (refine w_and ?_)
  | (refine w_or ?_)
  | (refine w_and1 ?_)
  | (refine w_or1 ?_)
  | ((with_reducible show GX _ (Expr.Tuple _ _ _) _ _ _ _); refine g_tup ?_)
  | ((with_reducible show GsX _ (_ :: _) _ _ _ _); refine gs_cons ?_)
  | (refine gs_nil ?_)
  | ((with_reducible show GX _ (Expr.Name _ _) _ _ _ _); refine g_name (by tm_at "seta") ?_)
  | ((with_reducible show GX _ (Expr.Subscript _ _ _) _ _ _ _); refine g_sub ?_)
  | (refine px_none ?_)
  | (refine px_some ?_)
  | ((with_reducible show SlX _ _ _ _ _ _); refine sl_lst (by tm_at "lv") ?_)
  | ((with_reducible show (∃ k, _ = _ ∧ _)); refine ⟨_, rfl, ?_⟩)
  | ((with_reducible show (∃ i ρ', SetAt _ i _ _ ρ' ∧ _)); refine ⟨_, _, by tm_at "seta", ?_⟩)
  | ((with_reducible show (∃ ρ', SetAt _ _ _ _ ρ' ∧ _)); refine ⟨_, by tm_at "seta", ?_⟩)
  | ((with_reducible show (∃ d1 d2 i j ρ1 ρ2, _ = _ ∧ SetAt _ _ _ _ _ ∧ _)); refine ⟨_, _, _, _, _, _, rfl, by tm_at "seta", by tm_at "seta", by decide, ?_⟩)
  | ((with_reducible show (List.length _ ≤ 100000 ∧ _)); refine ⟨Nat.le_of_ble_eq_true rfl, ?_⟩)))
local macro_rules | `(tactic| tm_at "n") => `(tactic| repeat tm_at "n1")
local macro_rules | `(tactic| tm_at "S") => `(tactic| repeat tm_at "s")

section
variable {P : Program} {w : World} {K : Frag} {mg : Str → Option Value} {base : Heap}
local macro_rules | `(tactic| tm_at "tk") => `(tactic| (refine take0 (by assumption) (by omega) (by omega) (by omega) (by omega) (by omega) ?_))
@[reducible] def dRow (r : List Q) : D := .lst (r.map rat)
def GoodQ (n : Nat) (q : Q) : Prop := Nf q ∧ Rb n q
def GoodR (l n : Nat) (r : List Q) : Prop := r.length ≤ l ∧ ∀ q ∈ r, GoodQ n q
theorem GoodQ.up {n k : Nat} {q : Q} (h : GoodQ n q) (hk : n ≤ k) : GoodQ k q := ⟨h.1, h.2.1.up hk, h.2.2.up hk⟩
theorem GoodR.up {l l' n k : Nat} {r : List Q} (h : GoodR l n r) (hl : l ≤ l') (hk : n ≤ k) : GoodR l' k r := ⟨Nat.le_trans h.1 hl, fun q hq => (h.2 q hq).up hk⟩
theorem small_good {u d : Int} (hu : -100 ≤ u) (hu2 : u ≤ 100) (hd : 0 < d) (hd2 : d ≤ 100) : GoodQ 100 (mkQ u d) := by
  refine ⟨mkQ_nf (by omega), ?_⟩
  have h := mkQ_rb (u := u) (d := d) (n := 8) (by omega) (by unfold Bd; omega) (by unfold Bd; omega)
  exact ⟨h.1.up (by decide), h.2.up (by decide)⟩
theorem cmp_anti (x y : Q) : cmpR y x = - cmpR x y := by
  unfold cmpR
  split <;> split <;> omega
theorem lo_anti : ∀ xs ys : List Q, loR ys xs = - loR xs ys
  | [], [] => by simp [loR]
  | [], y :: ys => by simp [loR]
  | x :: xs, [] => by simp [loR]
  | x :: xs, y :: ys => by
    simp only [loR, cmp_anti x y, lo_anti xs ys]
    split <;> split <;> omega
@[reducible] def E34 (sc pool lists at_ k row start one other saved due says : Option D) : Rn := [("_law_script", sc), ("_law_pool_here", pool), ("_law_lists", lists), ("_law_at", at_), ("_law_k", k), ("_law_row", row), ("_law_start", start), ("_law_one", one), ("_law_other", other), ("_law_saved", saved), ("_law_due_here", due), ("_law_says", says)]
def sp_law : SpD := fun ds m R => ∃ ns : List Int, ds = [.lsk (ns.map D.int)] ∧ ns.length ≤ 63 ∧ m = [] ∧ ∀ m', R (.bl true) m'
theorem ok_law {k : Nat} {f : Addr} {fd : FuncData} (F : Fun K "law" "law" s_law f fd) (m_range : mg "range" = none) (m_len : mg "len" = none) (m_list : mg "list" = none) (m_tuple : mg "tuple" = none)
    (h_pool : Knows P w K mg base k "_law_pool" 1 sp_law_pool) (h_take : Knows P w K mg base k "_law_take" 2 sp_law_take) (h_ratio : Knows P w K mg base k "_law_ratio" 2 sp_law_ratio) (h_plus : Knows P w K mg base k "_law_plus" 2 sp_law_plus)
    (h_due : Knows P w K mg base k "_law_due" 2 sp_law_due) (h_lo : Knows P w K mg base k "list_order" 2 sp_list_order) (h_num : Knows P w K mg base k "_law_is_number" 1 sp_law_is_number) : FnOk P w K mg base CX0 (k + 1) f fd ["_law_script"] (lift K sp_law) := by
  refine def_ok F sc_law (fun ds m R ⟨p, e, _⟩ => by rw [e]; rfl) ?_
  intro cdv A outer s H ds m R hr ⟨ns, e, hn, e2, k⟩
  subst e
  subst e2
  simp only [startR]
  tm_at "S"
  refine ⟨ns, rfl, fun p => ?_⟩
  simp only [List.nil_append]
  tm_at "n"
  refine s_set (x_lstM ?_)
  tm_at "n"
  intro l
  simp only [List.cons_append, List.nil_append]
  tm_at "n1"
  refine s_cut (fun ρ' m' => ∃ (a c : Int) (rows : List (List Q)), 0 ≤ a ∧ a ≤ 100 ∧ 0 ≤ c ∧ rows.length ≤ 1 ∧ (∀ r ∈ rows, GoodR 40 100 r) ∧ m' = [(p, poolO a c ns), (l, .lst (rows.map dRow))] ∧ ρ' = E34 (some (.lsk (ns.map D.int))) (some (.ref p)) (some (.ref l)) none none none none none none none none none) ?_ ?_
  · tm_at "S"
    tm_at "tk"
    intro r a c h1 h2 h3 h4 h5
    tm_at "S"
    refine ⟨fun h => ?_, fun h => ?_⟩
    · tm_at "n"
      refine s_expr (x_append ?_)
      tm_at "n"
      refine ⟨l, 1, _, rfl, rfl, ?_⟩
      refine x_lc (by tm_at "slot") ?_
      refine j_range1 (by assumption) ?_
      tm_at "n"
      tm_at "tk"
      intro r2 a2 c2 h12 h22 h32 h42 h52
      tm_at "n"
      refine ⟨by omega, by omega, ?_⟩
      refine ⟨fun i acc m' => ∃ (a c : Int) (qs : List Q), 0 ≤ a ∧ a ≤ 10 + (i : Int) ∧ 0 ≤ c ∧ acc = qs.map rat ∧ (∀ q ∈ qs, GoodQ 100 q) ∧ qs.length = i ∧ i ≤ 36 ∧ m' = [(p, poolO a c ns), (l, .lst [])], ⟨a2, c2, [], by omega, by omega, h52, rfl, by simp, rfl, by omega, rfl⟩, ?_, ?_⟩
      · rintro i d acc m' hd ⟨a, c, qs, ha, ha2, hc, rfl, hq, hl, hi, rfl⟩
        obtain ⟨hi2, rfl⟩ := range0_get hd
        refine ⟨_, by tm_at "seta", fun s' H' C cl fp => ?_⟩
        tm_at "n"
        tm_at "tk"
        intro r3 a3 c3 h13 h23 h33 h43 h53
        tm_at "n"
        refine ⟨_, _, rfl, by decide, (Bd.lit 3).up (by decide), ?_⟩
        refine ⟨by simp; omega, a3, c3, qs ++ [mkQ (r3 - 4) 3], by omega, by omega, h53, by simp, ?_, by simp [hl], by omega, rfl⟩
        intro q hq'
        rcases List.mem_append.mp hq' with z | z
        · exact hq q z
        · obtain rfl : q = mkQ (r3 - 4) 3 := by simpa using z
          exact small_good (by omega) (by omega) (by decide) (by decide)
      · rintro acc m' ⟨a, c, qs, ha, ha2, hc, rfl, hq, hl, hi, rfl⟩
        refine ⟨1, [], rfl, by decide, ?_⟩
        tm_at "n"
        refine ⟨a, c, [qs], ha, by omega, hc, by simp, ?_, rfl, rfl⟩
        intro r hr'
        obtain rfl : r = qs := by simpa using hr'
        exact ⟨by omega, hq⟩
    · tm_at "n"
      exact ⟨a, c, [], by omega, by omega, h5, by simp, by simp, rfl, rfl⟩
  · rintro ρ' m' ⟨a, c, rows, ha, ha2, hc, hrows, hgood, rfl, rfl⟩
    refine s_cut (fun ρ' m' => ∃ (rows : List (List Q)) (x : Addr × MO) (o1 o2 o3 o4 : Option D), (∀ r ∈ rows, GoodR 50 700 r) ∧ m' = [x, (l, .lst (rows.map dRow))] ∧ ρ' = E34 (some (.lsk (ns.map D.int))) (some (.ref p)) (some (.ref l)) o1 o2 o3 o4 none none none none none) ?_ ?_
    · refine s_for ?_
      refine j_range1 (by assumption) ?_
      tm_at "n"
      tm_at "tk"
      intro r a1 c1 h1 h2 h3 h4 h5
      tm_at "n"
      refine ⟨by omega, by omega, ?_⟩
      refine ⟨fun i ρ' m' => ∃ (a c : Int) (rows : List (List Q)) (o1 o2 o3 o4 : Option D), 0 ≤ a ∧ a ≤ 200 + 100 * (i : Int) ∧ 0 ≤ c ∧ i ≤ 5 ∧ rows.length ≤ i + 1 ∧ (∀ r ∈ rows, GoodR (40 + i) (100 * (i + 1)) r) ∧ m' = [(p, poolO a c ns), (l, .lst (rows.map dRow))] ∧ ρ' = E34 (some (.lsk (ns.map D.int))) (some (.ref p)) (some (.ref l)) o1 o2 o3 o4 none none none none none, ⟨a1, c1, rows, none, none, none, none, by omega, by omega, h5, by omega, hrows, hgood, rfl, rfl⟩, ?_, ?_⟩
      · rintro i d ρ' m' hd ⟨a, c, rows, o1, o2, o3, o4, ha, ha2, hc, hi, hrl, hg, rfl, rfl⟩
        obtain ⟨hi2, rfl⟩ := range0_get hd
        have hi5 : i < 5 := by omega
        tm_at "n"
        -- row = [..]
        refine s_setLcM (by tm_at "slot") (by tm_at "slot") ?_
        refine j_range1 (by assumption) ?_
        tm_at "n"
        tm_at "tk"
        intro r2 a2 c2 h12 h22 h32 h42 h52
        tm_at "n"
        refine ⟨by omega, by omega, ?_⟩
        refine ⟨fun j acc m' => ∃ (a c : Int) (qs : List Q), 0 ≤ a ∧ a ≤ 201 + 100 * (i : Int) + 2 * (j : Int) ∧ 0 ≤ c ∧ acc = qs.map rat ∧ (∀ q ∈ qs, GoodQ 100 q) ∧ qs.length = j ∧ j ≤ 7 ∧ m' = [(p, poolO a c ns), (l, .lst (rows.map dRow))], ⟨a2, c2, [], by omega, by omega, h52, rfl, by simp, rfl, by omega, rfl⟩, ?_, ?_⟩
        · rintro j d acc m' hd ⟨a, c, qs, ha, ha2, hc, rfl, hq, hl, hj, rfl⟩
          obtain ⟨hj2, rfl⟩ := range0_get hd
          refine ⟨_, by tm_at "seta", fun s' H' C cl fp => ?_⟩
          tm_at "n"
          tm_at "tk"
          intro r3 a3 c3 h13 h23 h33 h43 h53
          tm_at "n"
          tm_at "tk"
          intro r4 a4 c4 h14 h24 h34 h44 h54
          tm_at "n"
          refine ⟨_, _, rfl, by omega, (show Bd 8 (1 + r4) by unfold Bd; omega).up (by decide), ?_⟩
          refine ⟨by simp; omega, a4, c4, qs ++ [mkQ (r3 - 3) (1 + r4)], by omega, by omega, h54, by simp, ?_, by simp [hl], by omega, rfl⟩
          intro q hq'
          rcases List.mem_append.mp hq' with z | z
          · exact hq q z
          · obtain rfl : q = mkQ (r3 - 3) (1 + r4) := by simpa using z
            exact small_good (by omega) (by omega) (by omega) (by omega)
        · rintro acc m' ⟨a, c, qs, ha, ha2, hc, rfl, hq, hl, hj, rfl⟩
          intro rw0
          simp only [List.cons_append, List.nil_append]
          tm_at "n1"
          -- if lists != [] ..
          refine s_cut (fun ρ' m' => ∃ (a c : Int) (qs : List Q) (rr : Addr) (o4 : Option D), 0 ≤ a ∧ a ≤ 240 + 100 * (i : Int) ∧ 0 ≤ c ∧ qs.length ≤ 41 + i ∧ (∀ q ∈ qs, GoodQ (100 * (i + 1)) q) ∧ m' = [(p, poolO a c ns), (l, .lst (rows.map dRow)), (rr, .lst (qs.map rat))] ∧ ρ' = E34 (some (.lsk (ns.map D.int))) (some (.ref p)) (some (.ref l)) o1 (some (.int (i : Nat))) (some (.ref rr)) o4 none none none none none) ?_ ?_
          · have skip : ∀ (a' c' : Int), 0 ≤ a' → a' ≤ 220 + 100 * (i : Int) → 0 ≤ c' → ∃ (a c : Int) (qs' : List Q) (rr : Addr) (o4' : Option D), 0 ≤ a ∧ a ≤ 240 + 100 * (i : Int) ∧ 0 ≤ c ∧ qs'.length ≤ 41 + i ∧ (∀ q ∈ qs', GoodQ (100 * (i + 1)) q) ∧ [(p, poolO a' c' ns), (l, MO.lst (rows.map dRow)), (rw0, MO.lst (qs.map rat))] = [(p, poolO a c ns), (l, MO.lst (rows.map dRow)), (rr, MO.lst (qs'.map rat))] ∧ E34 (some (.lsk (ns.map D.int))) (some (.ref p)) (some (.ref l)) o1 (some (.int (i : Nat))) (some (.ref rw0)) o4 none none none none none = E34 (some (.lsk (ns.map D.int))) (some (.ref p)) (some (.ref l)) o1 (some (.int (i : Nat))) (some (.ref rr)) o4' none none none none none :=
              fun a' c' x1 x2 x3 => ⟨a', c', qs, rw0, o4, x1, by omega, x3, by omega, fun q hq' => (hq q hq').up (by omega), rfl, rfl⟩
            have hjl : (rangeD 0 r2.toNat).length ≤ 7 := by rw [rangeD_len]; omega
            tm_at "S"
            refine o_neD hr.units (.inr ⟨1, l, _, rfl, rfl, rfl⟩) (.inl rfl) (nb_lst fun r _ => nb_rats 17 r) (by simp [NB]) ?_
            intro b hb
            tm_at "n"
            refine ⟨fun h => ?_, fun h => ?_⟩
            · tm_at "n"
              tm_at "tk"
              intro r5 a5 c5 h15 h25 h35 h45 h55
              tm_at "n"
              refine ⟨fun h6 => ?_, fun h6 => ?_⟩
              · have hrne : rows ≠ [] := fun z => by
                  subst z
                  simp at hb
                  rw [hb] at h
                  cases h
                have hrp : 0 < rows.length := List.length_pos_iff.mpr hrne
                tm_at "S"
                refine take0 (by assumption) (by simp <;> omega) (by simp <;> omega) (by omega) (by omega) (by assumption) ?_
                intro r7 a7 c7 h17 h27 h37 h47 h57
                simp only [List.length_map] at h27
                obtain ⟨j7, rfl⟩ := Int.eq_ofNat_of_zero_le h17
                have hj7 : j7 < rows.length := by omega
                have g7 : rows[j7]? = some rows[j7] := List.getElem?_eq_getElem hj7
                generalize rows[j7] = row7 at g7
                have good7 := hg row7 (List.mem_of_getElem? g7)
                refine i_lst (.inr ⟨1, l, rfl, rfl⟩) (atI_nat (by rw [List.getElem?_map, g7]; rfl)) ?_
                tm_at "S"
                have b7 := good7.1
                refine take0 (by assumption) (by simp <;> omega) (by simp <;> omega) (by omega) (by omega) (by assumption) ?_
                intro r8 a8 c8 h18 h28 h38 h48 h58
                obtain ⟨j8, rfl⟩ := Int.eq_ofNat_of_zero_le h18
                simp only [List.length_map] at h28
                tm_at "n"
                tm_at "tk"
                intro r9 a9 c9 h19 h29 h39 h49 h59
                obtain ⟨j9, rfl⟩ := Int.eq_ofNat_of_zero_le h19
                tm_at "n"
                have cut8 : DL.cutD (row7.map rat) none (some ((j8 : Nat) : Int)) = (row7.take j8).map rat := by rw [cutD_take (by rw [List.length_map]; omega), List.map_take]
                rw [cut8]
                have cut9 : ∃ k9, k9 ≤ 1 ∧ DL.cutD (qs.map rat) none (some ((j9 : Nat) : Int)) = (qs.take k9).map rat := by
                  by_cases hq9 : j9 ≤ qs.length
                  · exact ⟨j9, by omega, by rw [cutD_take (by rw [List.length_map]; omega), List.map_take]⟩
                  · refine ⟨qs.length, by omega, ?_⟩
                    unfold DL.cutD
                    rw [HT.sIx_none, HT.sIx_nat, List.length_map, Nat.min_eq_right (by omega), Nat.sub_zero, List.map_take]
                    rfl
                obtain ⟨k9, hk9, cut9⟩ := cut9
                rw [cut9]
                refine o_catM (.inl rfl) (.inl rfl) (by simp; omega) ?_
                intro rr
                simp only [List.cons_append, List.nil_append]
                tm_at "n1"
                refine s_drop (m2 := [(p, poolO a9 c9 ns), (l, MO.lst (rows.map dRow)), (rr, MO.lst ((row7.take j8).map rat ++ (qs.take k9).map rat))]) (by simp) ?_
                tm_at "n"
                refine ⟨a9, c9, row7.take j8 ++ qs.take k9, rr, _, by omega, by omega, h59, ?_, ?_, by rw [List.map_append], rfl⟩
                · simp only [List.length_append, List.length_take]; omega
                · intro q hq'
                  rcases List.mem_append.mp hq' with z | z
                  · exact good7.2 q (List.mem_of_mem_take z)
                  · exact (hq q (List.mem_of_mem_take z)).up (by omega)
              · tm_at "n"
                exact skip a5 c5 (by omega) (by omega) h55
            · tm_at "n"
              refine ⟨fun h6 => ?_, fun h6 => ?_⟩
              · cases h6
              · tm_at "n"
                exact skip a c ha (by omega) hc
          · rintro ρ' m' ⟨a, c, qs, rr, o4, ha, ha2, hc, hql, hq, rfl, rfl⟩
            -- if row != [] ..
            refine s_cut (fun ρ' m' => ∃ (a c : Int) (qs : List Q) (o1 : Option D), 0 ≤ a ∧ a ≤ 260 + 100 * (i : Int) ∧ 0 ≤ c ∧ qs.length ≤ 41 + i ∧ (∀ q ∈ qs, GoodQ (100 * (i + 2)) q) ∧ m' = [(p, poolO a c ns), (l, .lst (rows.map dRow)), (rr, .lst (qs.map rat))] ∧ ρ' = E34 (some (.lsk (ns.map D.int))) (some (.ref p)) (some (.ref l)) o1 (some (.int (i : Nat))) (some (.ref rr)) o4 none none none none none) ?_ ?_
            · have skip : ∀ (a' c' : Int), 0 ≤ a' → a' ≤ 260 + 100 * (i : Int) → 0 ≤ c' → ∃ (a c : Int) (qs' : List Q) (o1' : Option D), 0 ≤ a ∧ a ≤ 260 + 100 * (i : Int) ∧ 0 ≤ c ∧ qs'.length ≤ 41 + i ∧ (∀ q ∈ qs', GoodQ (100 * (i + 2)) q) ∧ [(p, poolO a' c' ns), (l, MO.lst (rows.map dRow)), (rr, MO.lst (qs.map rat))] = [(p, poolO a c ns), (l, MO.lst (rows.map dRow)), (rr, MO.lst (qs'.map rat))] ∧ E34 (some (.lsk (ns.map D.int))) (some (.ref p)) (some (.ref l)) o1 (some (.int (i : Nat))) (some (.ref rr)) o4 none none none none none = E34 (some (.lsk (ns.map D.int))) (some (.ref p)) (some (.ref l)) o1' (some (.int (i : Nat))) (some (.ref rr)) o4 none none none none none :=
                fun a' c' x1 x2 x3 => ⟨a', c', qs, o1, x1, x2, x3, hql, fun q hq' => (hq q hq').up (by omega), rfl, rfl⟩
              tm_at "S"
              refine o_neD hr.units (.inr ⟨2, rr, _, rfl, rfl, rfl⟩) (.inl rfl) (nb_rats 18 _) (by simp [NB]) ?_
              intro b hb
              tm_at "n"
              refine ⟨fun h => ?_, fun h => ?_⟩
              · tm_at "n"
                tm_at "tk"
                intro r5 a5 c5 h15 h25 h35 h45 h55
                tm_at "n"
                refine ⟨fun h6 => ?_, fun h6 => ?_⟩
                · have hqne : qs ≠ [] := fun z => by
                    subst z
                    simp at hb
                    rw [hb] at h
                    cases h
                  have hqp : 0 < qs.length := List.length_pos_iff.mpr hqne
                  tm_at "S"
                  refine take0 (by assumption) (by simp <;> omega) (by simp <;> omega) (by omega) (by omega) (by assumption) ?_
                  intro r7 a7 c7 h17 h27 h37 h47 h57
                  simp only [List.length_map] at h27
                  obtain ⟨j7, rfl⟩ := Int.eq_ofNat_of_zero_le h17
                  have hj7 : j7 < qs.length := by omega
                  have g7 : qs[j7]? = some qs[j7] := List.getElem?_eq_getElem hj7
                  generalize qs[j7] = q7 at g7
                  have good7 := hq q7 (List.mem_of_getElem? g7)
                  tm_at "S"
                  refine i_lst (.inr ⟨2, rr, rfl, rfl⟩) (atI_nat (by rw [List.getElem?_map, g7]; rfl)) ?_
                  tm_at "n"
                  tm_at "tk"
                  intro r8 a8 c8 h18 h28 h38 h48 h58
                  refine o_mul (.of_left (intBits_le_64 (by decide) (by decide))) ?_
                  tm_at "n"
                  have hb24 : Rb 3000 ((1 - 2 * r8, 10 ^ Int.toNat 24) : Q) := ⟨(show Bd 8 (1 - 2 * r8) by unfold Bd; omega).up (by decide), (show Bd 80 ((10 : Int) ^ Int.toNat 24) by unfold Bd; decide).up (by decide)⟩
                  have hq3 : Rb 3000 q7 := ⟨good7.2.1.up (by omega), good7.2.2.up (by omega)⟩
                  have hq0 : q7.2 ≠ 0 := Int.ne_of_gt good7.1.1
                  refine ⟨q7, (1 - 2 * r8, 10 ^ Int.toNat 24), rfl, hq3, hb24, hq0, (show (10 ^ Int.toNat 24 : Int) ≠ 0 by decide), ?_⟩
                  have newq : GoodQ (100 * (i + 2)) (plusQ q7 (1 - 2 * r8, 10 ^ Int.toNat 24)) := by
                    have hd : q7.2 * (10 ^ Int.toNat 24 : Int) ≠ 0 := Int.mul_ne_zero hq0 (by decide)
                    refine ⟨mkQ_nf hd, ?_⟩
                    have x1 : Bd 80 ((10 : Int) ^ Int.toNat 24) := by unfold Bd; decide
                    have x2 : Bd 2 (1 - 2 * r8) := by unfold Bd; omega
                    have b1 := ((good7.2.1.mulR x1).addR (x2.mulR good7.2.2)).up (show _ ≤ 100 * (i + 2) by omega)
                    have b2 := (good7.2.2.mulR x1).up (show _ ≤ 100 * (i + 2) by omega)
                    exact mkQ_rb hd b1 b2
                  tm_at "n"
                  refine st_lst (n := 2) (j := j7) rfl (by
                    unfold ixN
                    rw [if_pos (by omega), List.length_map, if_pos (by omega)]
                    rfl) ?_
                  tm_at "n"
                  refine ⟨a8, c8, qs.set j7 (plusQ q7 (1 - 2 * r8, 10 ^ Int.toNat 24)), _, by omega, by omega, h58, by rw [List.length_set]; exact hql, ?_, by rw [List.map_set]; rfl, rfl⟩
                  intro q hq'
                  rcases List.mem_or_eq_of_mem_set hq' with z | z
                  · exact (hq q z).up (by omega)
                  · rw [z]; exact newq
                · tm_at "n"
                  exact skip a5 c5 (by omega) (by omega) h55
              · tm_at "n"
                refine ⟨fun h6 => ?_, fun h6 => ?_⟩
                · cases h6
                · tm_at "n"
                  exact skip a c ha (by omega) hc
            · rintro ρ' m' ⟨a, c, qs, o1, ha, ha2, hc, hql, hq, rfl, rfl⟩
              -- lists.append(row)
              refine s_freeze (n := 2) rfl (by tm_at "look") (by tm_at "seta") ?_
              show SX _ _ _ [(p, poolO a c ns), (l, MO.lst (rows.map dRow))] _
              tm_at "n"
              refine s_expr (x_append ?_)
              tm_at "n"
              refine ⟨l, 1, _, rfl, rfl, ?_⟩
              tm_at "n"
              refine ⟨1, _, rfl, by simp; omega, ?_⟩
              tm_at "n"
              refine ⟨a, c, rows ++ [qs], _, _, _, _, ha, by omega, hc, by omega, by simp; omega, ?_, by simp, rfl⟩
              intro r hr'
              rcases List.mem_append.mp hr' with z | z
              · exact (hg r z).up (by omega) (by omega)
              · obtain rfl : r = qs := by simpa using z
                exact ⟨by omega, hq⟩
      · rintro ρ' m' ⟨a, c, rows, o1, o2, o3, o4, ha, ha2, hc, hi, hrl, hg, rfl, rfl⟩
        exact ⟨rows, _, o1, o2, o3, o4, fun r hr' => (hg r hr').up (by omega) (by omega), rfl, rfl⟩
    · rintro ρ' m' ⟨rows, x, o1, o2, o3, o4, hg, rfl, rfl⟩
      refine s_freeze (n := 1) rfl (by tm_at "look") (by tm_at "seta") ?_
      show SX _ _ _ [x] _
      have lists : ∀ r ∈ rows, r.length ≤ 50 ∧ (∀ q ∈ r, Nf q ∧ Rb 4000 q) := fun r hr' => ⟨(hg r hr').1, fun q hq => ⟨((hg r hr').2 q hq).1, ((hg r hr').2 q hq).2.1.up (by decide), ((hg r hr').2 q hq).2.2.up (by decide)⟩⟩
      tm_at "n"
      refine s_for ?_
      refine ix_lst ?_
      tm_at "n"
      refine ⟨fun i ρ' m' => m' = [x] ∧ ∃ o5 o6 o7 o8 o9 : Option D, ρ' = E34 (some (.lsk (ns.map D.int))) (some (.ref p)) (some (.lst (rows.map dRow))) o1 o2 o3 o4 o5 o6 o7 o8 o9, ⟨rfl, _, _, _, _, _, rfl⟩, ?_, ?_⟩
      · rintro i d ρ' m' hd ⟨rfl, o5, o6, o7, o8, o9, rfl⟩
        obtain ⟨one, h1, rfl⟩ := map_get hd
        have g1 := lists one (List.mem_of_getElem? h1)
        tm_at "n"
        refine s_for ?_
        refine ix_lst ?_
        tm_at "n"
        refine ⟨fun i ρ' m' => m' = [x] ∧ ∃ o6 o7 o8 o9 : Option D, ρ' = E34 (some (.lsk (ns.map D.int))) (some (.ref p)) (some (.lst (rows.map dRow))) o1 o2 o3 o4 (some (dRow one)) o6 o7 o8 o9, ⟨rfl, _, _, _, _, rfl⟩, ?_, ?_⟩
        · rintro i2 d ρ' m' hd ⟨rfl, o6, o7, o8, o9, rfl⟩
          obtain ⟨other, h2, rfl⟩ := map_get hd
          have g2 := lists other (List.mem_of_getElem? h2)
          tm_at "S"
          refine ⟨one, other, rfl, by omega, by omega, g1.2, g2.2, ?_⟩
          tm_at "n"
          refine s_for ?_
          refine ix_lst ?_
          tm_at "n"
          refine ⟨one, other, .inl rfl, fun q hq => (g1.2 q hq).2, fun q hq => (g2.2 q hq).2, ?_⟩
          tm_at "n"
          refine ⟨one, other, .inr rfl, fun q hq => (g1.2 q hq).2, fun q hq => (g2.2 q hq).2, ?_⟩
          tm_at "n"
          refine ⟨fun i ρ' m' => m' = [x] ∧ ∃ o9 : Option D, ρ' = E34 (some (.lsk (ns.map D.int))) (some (.ref p)) (some (.lst (rows.map dRow))) o1 o2 o3 o4 (some (dRow one)) (some (dRow other)) (some (.lst [dRow one, dRow other])) (some (.int (loR one other))) o9, ⟨rfl, _, rfl⟩, ?_, ?_⟩
          · rintro i3 d ρ' m' hd ⟨rfl, o9, rfl⟩
            obtain rfl : d = .int (loR one other) := by
              rcases i3 with _ | _ | i3 <;> simp at hd <;> exact hd.symm
            tm_at "S"
            refine ⟨_, rfl, rfl, ?_⟩
            tm_at "S"
            refine ⟨fun h => ?_, fun h => ?_⟩
            · cases h
            · tm_at "S"
              refine ⟨fun h => ?_, fun h => ?_⟩
              · simp at h
              · tm_at "S"
                exact ⟨rfl, _, rfl⟩
          · rintro ρ' m' ⟨rfl, o9, rfl⟩
            tm_at "S"
            refine ⟨other, one, .inl rfl, fun q hq => (g2.2 q hq).2, fun q hq => (g1.2 q hq).2, ?_⟩
            tm_at "S"
            refine ⟨fun h => ?_, fun h => ?_⟩
            · simp [lo_anti one other] at h
            · tm_at "S"
              refine o_neD hr.units (.inl rfl) (.inl rfl) (by intro z hz; simp at hz; rcases hz with rfl | rfl <;> exact nb_rats 17 _) (by intro z hz; simp at hz; rcases hz with rfl | rfl <;> exact nb_rats 17 _) ?_
              intro b hb
              have : b = true := hb.mpr rfl
              subst this
              tm_at "S"
              refine ⟨fun h => ?_, fun h => ?_⟩
              · cases h
              · tm_at "S"
                exact ⟨rfl, _, _, _, _, rfl⟩
        · rintro ρ' m' ⟨rfl, o6, o7, o8, o9, rfl⟩
          tm_at "n"
          exact ⟨rfl, _, _, _, _, _, rfl⟩
      · rintro ρ' m' ⟨rfl, o5, o6, o7, o8, o9, rfl⟩
        tm_at "S"
        exact ⟨_, List.Sublist.refl _, k _⟩

end
end K34

namespace K34
open PySem PySem.Spec PyProof.Rows L2 DL
theorem all_mk {l : PySem.W.OpenLaw} {w : World} {K : PySem.W.Frag} {h : Heap} {mg : Str → Option Value} {fa : Addr} (X : K.In h) (G : h.Ns mainGlobals mg) (hfa : mg "law" = some (.ref fa))
    {f0 : Addr} {od0 an0 : Option Addr} {sl0 : Array (Option Value)} {oc0 kV0 dc0 pm0 cd0 ct0 : Value}
    (a0 : PySem.W.nsIn K mainGlobals "_law_pool" = some (some (.ref f0))) (l0 : K.lookup f0 = some ⟨oc0, od0, .func (PySem.W.fnOf "_law_pool" "_law_pool" (defArgs s_law_pool) (defBody s_law_pool) (defScope s_law_pool) .none kV0 dc0 pm0 an0 cd0 ct0), sl0⟩) (c0 : PySem.W.codeIn K cd0 "_law_pool" = true) (k0 : PySem.W.keepIn K (.ref f0) = true)
    {f1 : Addr} {od1 an1 : Option Addr} {sl1 : Array (Option Value)} {oc1 kV1 dc1 pm1 cd1 ct1 : Value}
    (a1 : PySem.W.nsIn K mainGlobals "_law_take" = some (some (.ref f1))) (l1 : K.lookup f1 = some ⟨oc1, od1, .func (PySem.W.fnOf "_law_take" "_law_take" (defArgs s_law_take) (defBody s_law_take) (defScope s_law_take) .none kV1 dc1 pm1 an1 cd1 ct1), sl1⟩) (c1 : PySem.W.codeIn K cd1 "_law_take" = true) (k1 : PySem.W.keepIn K (.ref f1) = true)
    {f2 : Addr} {od2 an2 : Option Addr} {sl2 : Array (Option Value)} {oc2 kV2 dc2 pm2 cd2 ct2 : Value}
    (a2 : PySem.W.nsIn K mainGlobals "_law_divisor" = some (some (.ref f2))) (l2 : K.lookup f2 = some ⟨oc2, od2, .func (PySem.W.fnOf "_law_divisor" "_law_divisor" (defArgs s_law_divisor) (defBody s_law_divisor) (defScope s_law_divisor) .none kV2 dc2 pm2 an2 cd2 ct2), sl2⟩) (c2 : PySem.W.codeIn K cd2 "_law_divisor" = true) (k2 : PySem.W.keepIn K (.ref f2) = true)
    {f3 : Addr} {od3 an3 : Option Addr} {sl3 : Array (Option Value)} {oc3 kV3 dc3 pm3 cd3 ct3 : Value}
    (a3 : PySem.W.nsIn K mainGlobals "_law_ratio" = some (some (.ref f3))) (l3 : K.lookup f3 = some ⟨oc3, od3, .func (PySem.W.fnOf "_law_ratio" "_law_ratio" (defArgs s_law_ratio) (defBody s_law_ratio) (defScope s_law_ratio) .none kV3 dc3 pm3 an3 cd3 ct3), sl3⟩) (c3 : PySem.W.codeIn K cd3 "_law_ratio" = true) (k3 : PySem.W.keepIn K (.ref f3) = true)
    {f4 : Addr} {od4 an4 : Option Addr} {sl4 : Array (Option Value)} {oc4 kV4 dc4 pm4 cd4 ct4 : Value}
    (a4 : PySem.W.nsIn K mainGlobals "_law_plus" = some (some (.ref f4))) (l4 : K.lookup f4 = some ⟨oc4, od4, .func (PySem.W.fnOf "_law_plus" "_law_plus" (defArgs s_law_plus) (defBody s_law_plus) (defScope s_law_plus) .none kV4 dc4 pm4 an4 cd4 ct4), sl4⟩) (c4 : PySem.W.codeIn K cd4 "_law_plus" = true) (k4 : PySem.W.keepIn K (.ref f4) = true)
    {f5 : Addr} {od5 an5 : Option Addr} {sl5 : Array (Option Value)} {oc5 kV5 dc5 pm5 cd5 ct5 : Value}
    (a5 : PySem.W.nsIn K mainGlobals "_law_less" = some (some (.ref f5))) (l5 : K.lookup f5 = some ⟨oc5, od5, .func (PySem.W.fnOf "_law_less" "_law_less" (defArgs s_law_less) (defBody s_law_less) (defScope s_law_less) .none kV5 dc5 pm5 an5 cd5 ct5), sl5⟩) (c5 : PySem.W.codeIn K cd5 "_law_less" = true) (k5 : PySem.W.keepIn K (.ref f5) = true)
    {f6 : Addr} {od6 an6 : Option Addr} {sl6 : Array (Option Value)} {oc6 kV6 dc6 pm6 cd6 ct6 : Value}
    (a6 : PySem.W.nsIn K mainGlobals "_law_words_order" = some (some (.ref f6))) (l6 : K.lookup f6 = some ⟨oc6, od6, .func (PySem.W.fnOf "_law_words_order" "_law_words_order" (defArgs s_law_words_order) (defBody s_law_words_order) (defScope s_law_words_order) .none kV6 dc6 pm6 an6 cd6 ct6), sl6⟩) (c6 : PySem.W.codeIn K cd6 "_law_words_order" = true) (k6 : PySem.W.keepIn K (.ref f6) = true)
    {f7 : Addr} {od7 an7 : Option Addr} {sl7 : Array (Option Value)} {oc7 kV7 dc7 pm7 cd7 ct7 : Value}
    (a7 : PySem.W.nsIn K mainGlobals "_law_due" = some (some (.ref f7))) (l7 : K.lookup f7 = some ⟨oc7, od7, .func (PySem.W.fnOf "_law_due" "_law_due" (defArgs s_law_due) (defBody s_law_due) (defScope s_law_due) .none kV7 dc7 pm7 an7 cd7 ct7), sl7⟩) (c7 : PySem.W.codeIn K cd7 "_law_due" = true) (k7 : PySem.W.keepIn K (.ref f7) = true)
    {f8 : Addr} {od8 an8 : Option Addr} {sl8 : Array (Option Value)} {oc8 kV8 dc8 pm8 cd8 ct8 : Value}
    (a8 : PySem.W.nsIn K mainGlobals "compare" = some (some (.ref f8))) (l8 : K.lookup f8 = some ⟨oc8, od8, .func (PySem.W.fnOf "compare" "compare" (defArgs s_compare) (defBody s_compare) (defScope s_compare) .none kV8 dc8 pm8 an8 cd8 ct8), sl8⟩) (c8 : PySem.W.codeIn K cd8 "compare" = true) (k8 : PySem.W.keepIn K (.ref f8) = true)
    {f9 : Addr} {od9 an9 : Option Addr} {sl9 : Array (Option Value)} {oc9 kV9 dc9 pm9 cd9 ct9 : Value}
    (a9 : PySem.W.nsIn K mainGlobals "list_order" = some (some (.ref f9))) (l9 : K.lookup f9 = some ⟨oc9, od9, .func (PySem.W.fnOf "list_order" "list_order" (defArgs s_list_order) (defBody s_list_order) (defScope s_list_order) .none kV9 dc9 pm9 an9 cd9 ct9), sl9⟩) (c9 : PySem.W.codeIn K cd9 "list_order" = true) (k9 : PySem.W.keepIn K (.ref f9) = true)
    {f10 : Addr} {od10 an10 : Option Addr} {sl10 : Array (Option Value)} {oc10 kV10 dc10 pm10 cd10 ct10 : Value}
    (a10 : PySem.W.nsIn K mainGlobals "_law_is_number" = some (some (.ref f10))) (l10 : K.lookup f10 = some ⟨oc10, od10, .func (PySem.W.fnOf "_law_is_number" "_law_is_number" (defArgs s_law_is_number) (defBody s_law_is_number) (defScope s_law_is_number) .none kV10 dc10 pm10 an10 cd10 ct10), sl10⟩) (c10 : PySem.W.codeIn K cd10 "_law_is_number" = true) (k10 : PySem.W.keepIn K (.ref f10) = true)
    {f11 : Addr} {od11 an11 : Option Addr} {sl11 : Array (Option Value)} {oc11 kV11 dc11 pm11 cd11 ct11 : Value}
    (a11 : PySem.W.nsIn K mainGlobals "law" = some (some (.ref f11))) (l11 : K.lookup f11 = some ⟨oc11, od11, .func (PySem.W.fnOf "law" "law" (defArgs s_law) (defBody s_law) (defScope s_law) .none kV11 dc11 pm11 an11 cd11 ct11), sl11⟩) (c11 : PySem.W.codeIn K cd11 "law" = true) (k11 : PySem.W.keepIn K (.ref f11) = true)
    (z0 : PySem.W.nsIn K mainGlobals "abs" = some none)
    (z1 : PySem.W.nsIn K mainGlobals "bool" = some none)
    (z2 : PySem.W.nsIn K mainGlobals "int" = some none)
    (z3 : PySem.W.nsIn K mainGlobals "isinstance" = some none)
    (z4 : PySem.W.nsIn K mainGlobals "len" = some none)
    (z5 : PySem.W.nsIn K mainGlobals "list" = some none)
    (z6 : PySem.W.nsIn K mainGlobals "max" = some none)
    (z7 : PySem.W.nsIn K mainGlobals "min" = some none)
    (z8 : PySem.W.nsIn K mainGlobals "range" = some none)
    (z9 : PySem.W.nsIn K mainGlobals "tuple" = some none)
    (z10 : PySem.W.nsIn K mainGlobals "zip" = some none)
    : ∃ fd : FuncData, (∀ (s : Shared) (v : Value), BindsTo s fd ⟨[v], []⟩ [("_law_script", v)]) ∧ ∀ base : Heap, K.In base → base.Ns mainGlobals mg → FnOk l.prog w K mg base CX0 4 fa fd ["_law_script"] (lift K sp_law) := by
  have e := hfa.symm.trans (PySem.W.mg_of X G a11)
  cases e
  have mz_abs := PySem.W.mg_none_of X G z0
  have mz_bool := PySem.W.mg_none_of X G z1
  have mz_int := PySem.W.mg_none_of X G z2
  have mz_isinstance := PySem.W.mg_none_of X G z3
  have mz_len := PySem.W.mg_none_of X G z4
  have mz_list := PySem.W.mg_none_of X G z5
  have mz_max := PySem.W.mg_none_of X G z6
  have mz_min := PySem.W.mg_none_of X G z7
  have mz_range := PySem.W.mg_none_of X G z8
  have mz_tuple := PySem.W.mg_none_of X G z9
  have mz_zip := PySem.W.mg_none_of X G z10
  have F0 := fun_mk (st := s_law_pool) l0 c0 k0
  have F1 := fun_mk (st := s_law_take) l1 c1 k1
  have F2 := fun_mk (st := s_law_divisor) l2 c2 k2
  have F3 := fun_mk (st := s_law_ratio) l3 c3 k3
  have F4 := fun_mk (st := s_law_plus) l4 c4 k4
  have F5 := fun_mk (st := s_law_less) l5 c5 k5
  have F6 := fun_mk (st := s_law_words_order) l6 c6 k6
  have F7 := fun_mk (st := s_law_due) l7 c7 k7
  have F8 := fun_mk (st := s_compare) l8 c8 k8
  have F9 := fun_mk (st := s_list_order) l9 c9 k9
  have F10 := fun_mk (st := s_law_is_number) l10 c10 k10
  have F11 := fun_mk (st := s_law) l11 c11 k11
  refine ⟨PySem.W.fnOf "law" "law" (defArgs s_law) (defBody s_law) (defScope s_law) .none kV11 dc11 pm11 an11 cd11 ct11, fun s v => .of_eq rfl, fun base _ _ => ?_⟩
  have K_law_pool : Knows l.prog w K mg base 1 "_law_pool" 1 sp_law_pool := ⟨_, _, _, ok_law_pool (k := 0) F0 mz_list, PySem.W.mg_of X G a0, F0.kp, F0.binds (ps := ["_law_script"]) fun _ _ _ _ _ _ us hl => match us, hl with | [_], _ => rfl, rfl⟩
  have K_law_take : Knows l.prog w K mg base 1 "_law_take" 2 sp_law_take := ⟨_, _, _, ok_law_take (k := 0) F1 mz_int mz_max mz_len, PySem.W.mg_of X G a1, F1.kp, F1.binds (ps := ["_law_pool_here", "_law_many"]) fun _ _ _ _ _ _ us hl => match us, hl with | [_, _], _ => rfl, rfl⟩
  have K_law_divisor : Knows l.prog w K mg base 1 "_law_divisor" 1 sp_law_divisor := ⟨_, _, _, ok_law_divisor (k := 0) F2 mz_int mz_abs, PySem.W.mg_of X G a2, F2.kp, F2.binds (ps := ["_law_numbers"]) fun _ _ _ _ _ _ us hl => match us, hl with | [_], _ => rfl, rfl⟩
  have K_law_ratio : Knows l.prog w K mg base 2 "_law_ratio" 2 sp_law_ratio := ⟨_, _, _, ok_law_ratio (k := 1) F3 (K_law_divisor.mono (by decide)), PySem.W.mg_of X G a3, F3.kp, F3.binds (ps := ["_law_up", "_law_down"]) fun _ _ _ _ _ _ us hl => match us, hl with | [_, _], _ => rfl, rfl⟩
  have K_law_plus : Knows l.prog w K mg base 3 "_law_plus" 2 sp_law_plus := ⟨_, _, _, ok_law_plus (k := 2) F4 (K_law_ratio.mono (by decide)), PySem.W.mg_of X G a4, F4.kp, F4.binds (ps := ["_law_one", "_law_other"]) fun _ _ _ _ _ _ us hl => match us, hl with | [_, _], _ => rfl, rfl⟩
  have K_law_less : Knows l.prog w K mg base 1 "_law_less" 2 sp_law_less := ⟨_, _, _, ok_law_less (k := 0) F5 , PySem.W.mg_of X G a5, F5.kp, F5.binds (ps := ["_law_one", "_law_other"]) fun _ _ _ _ _ _ us hl => match us, hl with | [_, _], _ => rfl, rfl⟩
  have K_law_words_order : Knows l.prog w K mg base 2 "_law_words_order" 2 sp_law_words_order := ⟨_, _, _, ok_law_words_order (k := 1) F6 mz_int mz_len mz_range (K_law_less.mono (by decide)), PySem.W.mg_of X G a6, F6.kp, F6.binds (ps := ["_law_one", "_law_other"]) fun _ _ _ _ _ _ us hl => match us, hl with | [_, _], _ => rfl, rfl⟩
  have K_law_due : Knows l.prog w K mg base 3 "_law_due" 2 sp_law_due := ⟨_, _, _, ok_law_due (k := 2) F7 mz_int mz_len mz_min (K_law_words_order.mono (by decide)), PySem.W.mg_of X G a7, F7.kp, F7.binds (ps := ["_law_one", "_law_other"]) fun _ _ _ _ _ _ us hl => match us, hl with | [_, _], _ => rfl, rfl⟩
  have K_compare : Knows l.prog w K mg base 1 "compare" 2 sp_compare := ⟨_, _, _, ok_compare (k := 0) F8 mz_int, PySem.W.mg_of X G a8, F8.kp, F8.binds (ps := ["one", "other"]) fun _ _ _ _ _ _ us hl => match us, hl with | [_, _], _ => rfl, rfl⟩
  have K_list_order : Knows l.prog w K mg base 2 "list_order" 2 sp_list_order := ⟨_, _, _, ok_list_order (k := 1) F9 mz_int mz_len mz_zip (K_compare.mono (by decide)), PySem.W.mg_of X G a9, F9.kp, F9.binds (ps := ["one", "other"]) fun _ _ _ _ _ _ us hl => match us, hl with | [_, _], _ => rfl, rfl⟩
  have K_law_is_number : Knows l.prog w K mg base 1 "_law_is_number" 1 sp_law_is_number := ⟨_, _, _, ok_law_is_number (k := 0) F10 mz_isinstance mz_int mz_bool, PySem.W.mg_of X G a10, F10.kp, F10.binds (ps := ["_law_thing"]) fun _ _ _ _ _ _ us hl => match us, hl with | [_], _ => rfl, rfl⟩
  exact ok_law (k := 3) F11 mz_range mz_len mz_list mz_tuple (K_law_pool.mono (by decide)) (K_law_take.mono (by decide)) (K_law_ratio.mono (by decide)) (K_law_plus.mono (by decide)) (K_law_due.mono (by decide)) (K_list_order.mono (by decide)) (K_law_is_number.mono (by decide))
end K34
open PySem PySem.W PyProof.Rows
set_option maxHeartbeats 0 in
theorem PySem.Challenge.cw_leastcomplaint_k34_lists_in_order_holds : PySem.Challenge.rw_leastcomplaint_k34_lists_in_order.Holds := by
  w_on; o_law; k_head; (case hw => w_witness2)
  k_fill
  refine L2.walk_of (l := PySem.Challenge.rw_leastcomplaint_k34_lists_in_order) (n := 63) (k := 4) (x := "_law_script") (CX := fun _ => L2.CX0) (sp := fun w => DL.lift _ K34.sp_law) rfl (by decide) rfl ⟨rfl, by decide, by decide⟩ (fun w h Y => PySem.W.kIn_of Y) ?F (fun _ H a ns hl _ hS => DL.law_start hS fun R hR => ⟨ns, rfl, hl, rfl, hR⟩) (fun _ _ _ _ _ h => h)
  case F =>
    intro w mg fa h KX G hmg
    refine' K34.all_mk KX G hmg ?a0 ?l0 ?c0 ?k0 ?a1 ?l1 ?c1 ?k1 ?a2 ?l2 ?c2 ?k2 ?a3 ?l3 ?c3 ?k3 ?a4 ?l4 ?c4 ?k4 ?a5 ?l5 ?c5 ?k5 ?a6 ?l6 ?c6 ?k6 ?a7 ?l7 ?c7 ?k7 ?a8 ?l8 ?c8 ?k8 ?a9 ?l9 ?c9 ?k9 ?a10 ?l10 ?c10 ?k10 ?a11 ?l11 ?c11 ?k11 ?z0 ?z1 ?z2 ?z3 ?z4 ?z5 ?z6 ?z7 ?z8 ?z9 ?z10
    (case a0 => k_is); (case l0 => k_is); (case c0 => k_is); (case k0 => k_is); (case a1 => k_is); (case l1 => k_is); (case c1 => k_is); (case k1 => k_is); (case a2 => k_is); (case l2 => k_is); (case c2 => k_is); (case k2 => k_is); (case a3 => k_is); (case l3 => k_is); (case c3 => k_is); (case k3 => k_is); (case a4 => k_is); (case l4 => k_is); (case c4 => k_is); (case k4 => k_is); (case a5 => k_is); (case l5 => k_is); (case c5 => k_is); (case k5 => k_is); (case a6 => k_is); (case l6 => k_is); (case c6 => k_is); (case k6 => k_is); (case a7 => k_is); (case l7 => k_is); (case c7 => k_is); (case k7 => k_is); (case a8 => k_is); (case l8 => k_is); (case c8 => k_is); (case k8 => k_is); (case a9 => k_is); (case l9 => k_is); (case c9 => k_is); (case k9 => k_is); (case a10 => k_is); (case l10 => k_is); (case c10 => k_is); (case k10 => k_is); (case a11 => k_is); (case l11 => k_is); (case c11 => k_is); (case k11 => k_is); (case z0 => k_is); (case z1 => k_is); (case z2 => k_is); (case z3 => k_is); (case z4 => k_is); (case z5 => k_is); (case z6 => k_is); (case z7 => k_is); (case z8 => k_is); (case z9 => k_is); (case z10 => k_is)

