import PyProof.Rows.All
import Wide.All
import OpenK.AllK
import Wide.FinOn
import HandS.ForMost
import HandS.ForExc
import HandS.Walk
import HandS.Zip
import HandS.Wide
import HandS.IsInst
import HandS.Flow
import HandS.Exc
import HandS.ExcField
import HandS.TryOnly
import HandS.WordsExc
import HandS.ExcInit
import HandS.Defaults
import KE.KExcSuper
import KE.DataEq
import HandS.CallSlots
import HandS.HotCalls
import PySem.Challenge.RW_leastcomplaint_k11_ratios
set_option Elab.async false
set_option linter.all false
set_option maxRecDepth 100000
set_option maxHeartbeats 4000000
namespace DL
open PySem PySem.Spec PyProof.Rows L2

/-- data: what a value stands for -/
inductive D where
  | non | bl (b : Bool) | int (i : Int) | str (x : Str) | ty (n : String)
  | lst (xs : List D) | tup (xs : List D) | lsk (xs : List D)
  | dT (ks : List (List Key)) (vs : List D) | dK (ks : List Key) (vs : List D)
  | obj (C : Addr) (ns : List Str) (vs : List D)
  | ref (a : Addr)
  | exc (a dd : Addr) (f : Str) (x : D)

abbrev Frag := PySem.W.Frag

mutual
inductive Den (K : Frag) (F : Hp) : V → D → Prop
  | non : Den K F .non .non
  | bl (b : Bool) : Den K F (.bl b) (.bl b)
  | int (i : Int) : Den K F (.int i) (.int i)
  | str (x : Str) : Den K F (.str x) (.str x)
  | ty (n : String) : Den K F (.ty n) (.ty n)
  | lst {a : Addr} {xs : List V} {ds : List D} : Rd F a (.lst xs) → Dens K F xs ds → Den K F (.ref a) (.lst ds)
  | tup {a : Addr} {xs : List V} {ds : List D} : SqT K F a xs → Dens K F xs ds → Den K F (.ref a) (.tup ds)
  | lsk {a : Addr} {xs : List V} {ds : List D} : SqL K F a xs → Dens K F xs ds → Den K F (.ref a) (.lsk ds)
  | dT {a : Addr} {o : Obj} {kvs : List (List Key × V)} {ks : List (List Key)} {ds : List D} : F a = some (.frz o (.dT kvs)) → kvs.map (·.1) = ks → Dens K F (kvs.map (·.2)) ds → Den K F (.ref a) (.dT ks ds)
  | dK {a : Addr} {o : Obj} {kvs : List (Key × V)} {ks : List Key} {ds : List D} : F a = some (.frz o (.dK kvs)) → kvs.map (·.1) = ks → Dens K F (kvs.map (·.2)) ds → Den K F (.ref a) (.dK ks ds)
  | obj {a C dx : Addr} {fs : List (Str × V)} {ns : List Str} {ds : List D} : F a = some (.ins C dx fs) → fs.map (·.1) = ns → Dens K F (fs.map (·.2)) ds → Den K F (.ref a) (.obj C ns ds)
  | ref (a : Addr) : Den K F (.ref a) (.ref a)
  | exc {a dd : Addr} {f : Str} {v : V} {x : D} : F dd = some (.xd [(f, v)]) → Den K F v x → Den K F (.ref a) (.exc a dd f x)
inductive Dens (K : Frag) (F : Hp) : List V → List D → Prop
  | nil : Dens K F [] []
  | cons {v : V} {vs : List V} {d : D} {ds : List D} : Den K F v d → Dens K F vs ds → Dens K F (v :: vs) (d :: ds)
end

def Ex (H H' : Hp) : Prop := ∀ a o, H a = some o → H' a = some o
theorem Ex.refl (H : Hp) : Ex H H := fun _ _ h => h
theorem Ex.trans {H H1 H2 : Hp} (a : Ex H H1) (b : Ex H1 H2) : Ex H H2 := fun x o h => b x o (a x o h)
theorem Ex.new {H : Hp} {p : Addr} {o : HO} (h : H p = none) : Ex H (upd H p o) := fun a u e => by
  rw [upd_ne (ne_of_none e h)]
  exact e
theorem Ex.rd {H H' : Hp} {a : Addr} {u : HO} (e : Ex H H') (h : Rd H a u) : Rd H' a u := by
  rcases h with h | ⟨o, h⟩
  · exact .inl (e a _ h)
  · exact .inr ⟨o, e a _ h⟩
theorem Ex.sqL {K : Frag} {H H' : Hp} {a : Addr} {xs : List V} (e : Ex H H') (h : SqL K H a xs) : SqL K H' a xs := by
  rcases h with h | h
  · exact .inl (e.rd h)
  · exact .inr h
theorem Ex.sqT {K : Frag} {H H' : Hp} {a : Addr} {xs : List V} (e : Ex H H') (h : SqT K H a xs) : SqT K H' a xs := by
  rcases h with h | h
  · exact .inl (e.rd h)
  · exact .inr h
theorem Ex.free {H H' : Hp} {p : Addr} (e : Ex H H') (h : H' p = none) : H p = none := by
  cases h1 : H p with
  | none => rfl
  | some o => rw [e p o h1] at h; cases h

mutual
theorem Den.mono {K : Frag} {F F' : Hp} (e : Ex F F') : ∀ {v : V} {d : D}, Den K F v d → Den K F' v d
  | _, _, .non => .non
  | _, _, .bl b => .bl b
  | _, _, .int i => .int i
  | _, _, .str x => .str x
  | _, _, .ty n => .ty n
  | _, _, .lst h hs => .lst (e.rd h) (Dens.mono e hs)
  | _, _, .tup h hs => .tup (e.sqT h) (Dens.mono e hs)
  | _, _, .lsk h hs => .lsk (e.sqL h) (Dens.mono e hs)
  | _, _, .dT h hk hs => .dT (e _ _ h) hk (Dens.mono e hs)
  | _, _, .dK h hk hs => .dK (e _ _ h) hk (Dens.mono e hs)
  | _, _, .obj h hk hs => .obj (e _ _ h) hk (Dens.mono e hs)
  | _, _, .ref a => .ref a
  | _, _, .exc h q => .exc (e _ _ h) (Den.mono e q)
theorem Dens.mono {K : Frag} {F F' : Hp} (e : Ex F F') : ∀ {vs : List V} {ds : List D}, Dens K F vs ds → Dens K F' vs ds
  | _, _, .nil => .nil
  | _, _, .cons h hs => .cons (Den.mono e h) (Dens.mono e hs)
end
section
variable {K : Frag} {F : Hp}
theorem Dens.length : ∀ {vs : List V} {ds : List D}, Dens K F vs ds → vs.length = ds.length
  | _, _, .nil => rfl
  | _, _, .cons _ hs => by rw [List.length_cons, List.length_cons, Dens.length hs]
theorem Dens.get : ∀ {vs : List V} {ds : List D} {i : Nat} {d : D}, Dens K F vs ds → ds[i]? = some d → ∃ v, vs[i]? = some v ∧ Den K F v d
  | _, _, _, _, .nil, e => by simp at e
  | _, _, 0, _, .cons h _, e => by simp at e; subst e; exact ⟨_, rfl, h⟩
  | _, _, i + 1, d, .cons _ hs, e => by
    obtain ⟨v, h1, h2⟩ := Dens.get (i := i) (d := d) hs (by simpa using e)
    exact ⟨v, by simpa using h1, h2⟩
theorem Dens.getV : ∀ {vs : List V} {ds : List D} {i : Nat} {v : V}, Dens K F vs ds → vs[i]? = some v → ∃ d, ds[i]? = some d ∧ Den K F v d
  | _, _, _, _, .nil, e => by simp at e
  | _, _, 0, _, .cons h _, e => by simp at e; subst e; exact ⟨_, rfl, h⟩
  | _, _, i + 1, v, .cons _ hs, e => by
    obtain ⟨d, h1, h2⟩ := Dens.getV (i := i) (v := v) hs (by simpa using e)
    exact ⟨d, by simpa using h1, h2⟩
theorem Dens.append : ∀ {vs ws : List V} {ds es : List D}, Dens K F vs ds → Dens K F ws es → Dens K F (vs ++ ws) (ds ++ es)
  | _, _, _, _, .nil, s => s
  | _, _, _, _, .cons h t, s => .cons h (Dens.append t s)
theorem Dens.snoc {vs : List V} {ds : List D} {v : V} {d : D} (h : Dens K F vs ds) (h1 : Den K F v d) : Dens K F (vs ++ [v]) (ds ++ [d]) := h.append (.cons h1 .nil)
theorem Dens.set : ∀ {vs : List V} {ds : List D} {v : V} {d : D} (i : Nat), Dens K F vs ds → Den K F v d → Dens K F (vs.set i v) (ds.set i d)
  | _, _, _, _, _, .nil, _ => .nil
  | _, _, _, _, 0, .cons _ t, h => .cons h t
  | _, _, _, _, i + 1, .cons q t, h => .cons q (Dens.set i t h)
theorem Dens.take : ∀ {vs : List V} {ds : List D} (n : Nat), Dens K F vs ds → Dens K F (vs.take n) (ds.take n)
  | _, _, 0, _ => .nil
  | _, _, _ + 1, .nil => .nil
  | _, _, n + 1, .cons r t => .cons r (Dens.take n t)
theorem Dens.drop : ∀ {vs : List V} {ds : List D} (n : Nat), Dens K F vs ds → Dens K F (vs.drop n) (ds.drop n)
  | _, _, 0, r => r
  | _, _, _ + 1, .nil => .nil
  | _, _, n + 1, .cons _ t => Dens.drop n t
theorem Dens.ints : ∀ {ns : List Int} {vs : List V}, Dens K F vs (ns.map D.int) → vs = ns.map V.int
  | [], _, .nil => rfl
  | n :: ns, _, .cons (.int _) t => by rw [Dens.ints t]; rfl
theorem Dens.of_ints : ∀ {ns : List Int}, Dens K F (ns.map V.int) (ns.map D.int)
  | [] => .nil
  | n :: ns => .cons (.int n) Dens.of_ints
theorem Dens.bls : ∀ {bs : List Bool} {vs : List V}, Dens K F vs (bs.map D.bl) → vs = bs.map V.bl
  | [], _, .nil => rfl
  | b :: bs, _, .cons (.bl _) t => by rw [Dens.bls t]; rfl
theorem Dens.strs : ∀ {bs : List Str} {vs : List V}, Dens K F vs (bs.map D.str) → vs = bs.map V.str
  | [], _, .nil => rfl
  | b :: bs, _, .cons (.str _) t => by rw [Dens.strs t]; rfl
theorem Dens.of_strs : ∀ {ns : List Str}, Dens K F (ns.map V.str) (ns.map D.str)
  | [] => .nil
  | n :: ns => .cons (.str n) Dens.of_strs
end

/-! ### the ledger: objects that may change -/
inductive MO where
  | lst (ds : List D)
  | ins (C dx : Addr) (ns : List Str) (ds : List D)
  | own (x : Addr)
  | dT (ks : List (List Key)) (ds : List D)
  | dK (ks : List Key) (ds : List D)
abbrev Led := List (Addr × MO)
def MDen (K : Frag) (F : Hp) : MO → HO → Prop
  | .lst ds, h => ∃ xs, h = .lst xs ∧ Dens K F xs ds
  | .ins C dx ns ds, h => ∃ fs : List (Str × V), h = .ins C dx fs ∧ fs.map (·.1) = ns ∧ Dens K F (fs.map (·.2)) ds
  | .own x, h => h = .own x
  | .dT ks ds, h => ∃ kvs : List (List Key × V), h = .dT kvs ∧ kvs.map (·.1) = ks ∧ Dens K F (kvs.map (·.2)) ds
  | .dK ks ds, h => ∃ kvs : List (Key × V), h = .dK kvs ∧ kvs.map (·.1) = ks ∧ Dens K F (kvs.map (·.2)) ds
theorem MDen.mono {K : Frag} {F F' : Hp} (e : Ex F F') : ∀ {o : MO} {h : HO}, MDen K F o h → MDen K F' o h
  | .lst _, _, ⟨xs, q, hs⟩ => ⟨xs, q, hs.mono e⟩
  | .ins .., _, ⟨fs, q, k, hs⟩ => ⟨fs, q, k, hs.mono e⟩
  | .own _, _, q => q
  | .dT .., _, ⟨fs, q, k, hs⟩ => ⟨fs, q, k, hs.mono e⟩
  | .dK .., _, ⟨fs, q, k, hs⟩ => ⟨fs, q, k, hs.mono e⟩

abbrev keys (m : Led) : List Addr := m.map (·.1)
structure At (K : Frag) (F : Hp) (m : Led) (H : Hp) : Prop where
  sub : Ex F H
  led : ∀ p ∈ m, ∃ h, MDen K F p.2 h ∧ H p.1 = some h
  dis : ∀ p ∈ m, F p.1 = none
  nod : (keys m).Nodup
structure Step (K : Frag) (F : Hp) (m : Led) (H : Hp) (F2 : Hp) (m2 : Led) (H2 : Hp) : Prop where
  at2 : At K F2 m2 H2
  ex : Ex F F2
  keep : ∀ a o, H a = some o → a ∉ keys m → H2 a = some o
  frF : ∀ a o, F2 a = some o → F a = none → H a = none ∨ a ∈ keys m
  frM : ∀ a ∈ keys m2, a ∈ keys m ∨ H a = none
section
variable {K : Frag} {F F1 F2 H H1 H2 : Hp} {m m1 m2 : Led}
theorem Step.refl (a : At K F m H) : Step K F m H F m H := ⟨a, Ex.refl _, fun _ _ h _ => h, fun a o h n => (by rw [n] at h; cases h), fun _ h => .inl h⟩
theorem Step.trans (a : Step K F m H F1 m1 H1) (b : Step K F1 m1 H1 F2 m2 H2) : Step K F m H F2 m2 H2 := by
  have nk : ∀ x o, H x = some o → x ∉ keys m → x ∉ keys m1 := fun x o h n z => by
    rcases a.frM x z with q | q
    · exact n q
    · rw [h] at q; cases q
  have nn : ∀ x, H1 x = none → H x = none ∨ x ∈ keys m := fun x h => by
    by_cases n : x ∈ keys m
    · exact .inr n
    · left
      cases q : H x with
      | none => rfl
      | some o => rw [a.keep x o q n] at h; cases h
  refine ⟨b.at2, a.ex.trans b.ex, fun x o h n => b.keep x o (a.keep x o h n) (nk x o h n), fun x o h n => ?_, fun x h => ?_⟩
  · cases q : F1 x with
    | some o1 => exact a.frF x o1 q n
    | none =>
      rcases b.frF x o h q with z | z
      · exact nn x z
      · exact (a.frM x z).symm
  · rcases b.frM x h with z | z
    · exact a.frM x z
    · exact (nn x z).symm
/-- a new frozen object -/
theorem Step.new {p : Addr} {o : HO} (a : At K F m H) (h : H p = none) : Step K F m H (upd F p o) m (upd H p o) := by
  have hF : F p = none := a.sub.free h
  have np : p ∉ keys m := fun z => by
    obtain ⟨q, hq, e⟩ := List.mem_map.mp z
    obtain ⟨hh, _, e2⟩ := a.led q hq
    rw [e, h] at e2; cases e2
  refine ⟨⟨fun x u e => ?_, fun q hq => ?_, fun q hq => ?_, a.nod⟩, Ex.new hF, fun x u e _ => by rw [upd_ne (ne_of_none e h)]; exact e, fun x u e n => ?_, fun x h => .inl h⟩
  · by_cases hx : x = p
    · subst hx; rw [upd_same] at e ⊢; exact e
    · rw [upd_ne hx] at e ⊢; exact a.sub x u e
  · obtain ⟨hh, e1, e2⟩ := a.led q hq
    exact ⟨hh, e1.mono (Ex.new hF), by rw [upd_ne (ne_of_none e2 h)]; exact e2⟩
  · have : q.1 ≠ p := fun z => np (z ▸ List.mem_map.mpr ⟨q, hq, rfl⟩)
    rw [upd_ne this]; exact a.dis q hq
  · by_cases hx : x = p
    · subst hx; exact .inl h
    · rw [upd_ne hx, n] at e; cases e
/-- a new object in the ledger -/
theorem Step.newM {p : Addr} {o : HO} {mo : MO} (a : At K F m H) (h : H p = none) (hm : MDen K F mo o) : Step K F m H F (m ++ [(p, mo)]) (upd H p o) := by
  have hF : F p = none := a.sub.free h
  have np : p ∉ keys m := fun z => by
    obtain ⟨q, hq, e⟩ := List.mem_map.mp z
    obtain ⟨hh, _, e2⟩ := a.led q hq
    rw [e, h] at e2; cases e2
  refine ⟨⟨fun x u e => ?_, fun q hq => ?_, fun q hq => ?_, ?_⟩, Ex.refl _, fun x u e _ => by rw [upd_ne (ne_of_none e h)]; exact e, fun x u e n => (by rw [n] at e; cases e), fun x hx => ?_⟩
  · rw [upd_ne (ne_of_none e hF)]; exact a.sub x u e
  · rcases List.mem_append.mp hq with hq | hq
    · obtain ⟨hh, e1, e2⟩ := a.led q hq
      exact ⟨hh, e1, by rw [upd_ne (ne_of_none e2 h)]; exact e2⟩
    · obtain rfl : q = (p, mo) := by simpa using hq
      exact ⟨o, hm, upd_same⟩
  · rcases List.mem_append.mp hq with hq | hq
    · exact a.dis q hq
    · obtain rfl : q = (p, mo) := by simpa using hq
      exact hF
  · show (List.map (·.1) (m ++ [(p, mo)])).Nodup
    rw [List.map_append]
    refine List.nodup_append.mpr ⟨a.nod, by simp, fun x hx y hy => ?_⟩
    obtain rfl : y = p := by simpa using hy
    exact fun z => np (z ▸ hx)
  · have hx' : x ∈ List.map (·.1) (m ++ [(p, mo)]) := hx
    rw [List.map_append] at hx'
    rcases List.mem_append.mp hx' with q | q
    · exact .inl q
    · obtain rfl : x = p := by simpa using q
      exact .inr h
theorem At.get {i : Nat} {p : Addr} {o : MO} (a : At K F m H) (h : m[i]? = some (p, o)) : ∃ hh, MDen K F o hh ∧ H p = some hh := a.led (p, o) (List.mem_of_getElem? h)
theorem keys_set {i : Nat} {p : Addr} {o o' : MO} (h : m[i]? = some (p, o)) : keys (m.set i (p, o')) = keys m := by
  show List.map (·.1) (m.set i (p, o')) = _
  rw [List.map_set]
  apply List.ext_getElem?
  intro j
  by_cases hj : i = j
  · subst hj
    have hl : i < m.length := (List.getElem?_eq_some_iff.mp h).1
    rw [List.getElem?_set_self (by simpa using hl), List.getElem?_map, h]; rfl
  · rw [List.getElem?_set_ne hj]
/-- an object of the ledger written -/
theorem Step.write {i : Nat} {p : Addr} {o o' : MO} {u : HO} (a : At K F m H) (h : m[i]? = some (p, o)) (hm : MDen K F o' u) : Step K F m H F (m.set i (p, o')) (upd H p u) := by
  have hin : (p, o) ∈ m := List.mem_of_getElem? h
  have hF : F p = none := a.dis _ hin
  have pk : p ∈ keys m := List.mem_map.mpr ⟨_, hin, rfl⟩
  have hl : i < m.length := (List.getElem?_eq_some_iff.mp h).1
  have ek := keys_set (o' := o') h
  refine ⟨⟨fun x u e => ?_, fun q hq => ?_, fun q hq => ?_, by rw [ek]; exact a.nod⟩, Ex.refl _, fun x u e n => ?_, fun x u e n => (by rw [n] at e; cases e), fun x hx => .inl (ek ▸ hx)⟩
  · rw [upd_ne (ne_of_none e hF)]; exact a.sub x u e
  · obtain ⟨j, hj⟩ := List.mem_iff_getElem?.mp hq
    by_cases hij : i = j
    · subst hij
      rw [List.getElem?_set_self hl] at hj
      cases hj
      exact ⟨u, hm, upd_same⟩
    · rw [List.getElem?_set_ne hij] at hj
      obtain ⟨hh, e1, e2⟩ := a.led q (List.mem_of_getElem? hj)
      have : q.1 ≠ p := fun z => by
        have k1 : (keys m)[j]? = some p := by rw [List.getElem?_map, hj]; exact congrArg some z
        have k2 : (keys m)[i]? = some p := by rw [List.getElem?_map, h]; rfl
        exact hij (nd_ix a.nod k2 k1)
      exact ⟨hh, e1, by rw [upd_ne this]; exact e2⟩
  · obtain ⟨j, hj⟩ := List.mem_iff_getElem?.mp hq
    by_cases hij : i = j
    · subst hij
      rw [List.getElem?_set_self hl] at hj
      cases hj
      exact hF
    · rw [List.getElem?_set_ne hij] at hj
      exact a.dis q (List.mem_of_getElem? hj)
  · have : x ≠ p := fun z => n (z ▸ pk)
    rw [upd_ne this]; exact e
/-- part of the ledger forgotten -/
theorem Step.drop (a : At K F m H) (h : m2.Sublist m) : Step K F m H F m2 H :=
  ⟨⟨a.sub, fun p hp => a.led p (h.subset hp), fun p hp => a.dis p (h.subset hp), a.nod.sublist (h.map _)⟩, Ex.refl _, fun _ _ e _ => e, fun x u e n => (by rw [n] at e; cases e),
    fun x hx => .inl ((h.map _).subset hx)⟩
/-- a list of the ledger frozen -/
theorem Step.freeze {i : Nat} {p : Addr} {ds : List D} (a : At K F m H) (h : m[i]? = some (p, .lst ds)) : ∃ F2, Step K F m H F2 (m.eraseIdx i) H ∧ Den K F2 (.ref p) (.lst ds) := by
  obtain ⟨hh, ⟨xs, rfl, hs⟩, e⟩ := a.get h
  have hin : (p, MO.lst ds) ∈ m := List.mem_of_getElem? h
  have hF : F p = none := a.dis _ hin
  have sl : (m.eraseIdx i).Sublist m := List.eraseIdx_sublist ..
  refine ⟨upd F p (.lst xs), ⟨⟨fun x u q => ?_, fun q hq => ?_, fun q hq => ?_, a.nod.sublist (sl.map _)⟩, Ex.new hF, fun _ _ e _ => e, fun x u q n => ?_, fun x hx => .inl ((sl.map _).subset hx)⟩, .lst (.inl upd_same) (hs.mono (Ex.new hF))⟩
  · by_cases hx : x = p
    · subst hx; rw [upd_same] at q; cases q; exact e
    · rw [upd_ne hx] at q; exact a.sub x u q
  · obtain ⟨hh, e1, e2⟩ := a.led q (sl.subset hq)
    exact ⟨hh, e1.mono (Ex.new hF), e2⟩
  · have : q.1 ≠ p := fun z => by
      obtain ⟨j, hj⟩ := List.mem_iff_getElem?.mp hq
      rw [List.getElem?_eraseIdx] at hj
      split at hj
      · have k1 : (keys m)[j]? = some p := by rw [List.getElem?_map, hj]; exact congrArg some z
        have k2 : (keys m)[i]? = some p := by rw [List.getElem?_map, h]; rfl
        have := nd_ix a.nod k2 k1
        omega
      · have k1 : (keys m)[j + 1]? = some p := by rw [List.getElem?_map, hj]; exact congrArg some z
        have k2 : (keys m)[i]? = some p := by rw [List.getElem?_map, h]; rfl
        have := nd_ix a.nod k2 k1
        omega
    rw [upd_ne this]; exact a.dis q (sl.subset hq)
  · by_cases hx : x = p
    · subst hx; exact .inr (List.mem_map.mpr ⟨_, hin, rfl⟩)
    · rw [upd_ne hx, n] at q; cases q
end
/-- a list that may be read: frozen or of the ledger -/
def LstV (m : Led) (d : D) (ds : List D) : Prop := d = .lst ds ∨ ∃ (i : Nat) (a : Addr), d = .ref a ∧ m[i]? = some (a, .lst ds)
theorem LstV.read {K : Frag} {F H : Hp} {m : Led} {d : D} {ds : List D} {v : V} (h : LstV m d ds) (a : At K F m H) (q : Den K F v d) : ∃ p xs, v = .ref p ∧ Rd H p (.lst xs) ∧ Dens K F xs ds := by
  rcases h with rfl | ⟨i, p, rfl, hi⟩
  · cases q with
    | lst h hs => exact ⟨_, _, rfl, a.sub.rd h, hs⟩
  · cases q
    obtain ⟨hh, ⟨xs, rfl, hs⟩, e⟩ := a.get hi
    exact ⟨p, xs, rfl, .inl e, hs⟩
theorem tup_read {K : Frag} {F H : Hp} {m : Led} {ds : List D} {v : V} (a : At K F m H) (q : Den K F v (.tup ds)) : ∃ p xs, v = .ref p ∧ SqT K H p xs ∧ Dens K F xs ds := by
  cases q with
  | tup h hs => exact ⟨_, _, rfl, a.sub.sqT h, hs⟩

/-! ### slots -/
abbrev Rho := List (Option D)
structure Envs (K : Frag) (F : Hp) (σ : L2.St) (ρ : Rho) : Prop where
  len : σ.length = ρ.length
  get : ∀ (i : Nat) (d : D), ρ[i]? = some (some d) → ∃ v, σ[i]? = some (some v) ∧ Den K F v d
theorem Envs.mono {K : Frag} {F F' : Hp} {σ : L2.St} {ρ : Rho} (h : Envs K F σ ρ) (e : Ex F F') : Envs K F' σ ρ := ⟨h.len, fun i d q => let ⟨v, a, b⟩ := h.get i d q; ⟨v, a, b.mono e⟩⟩
theorem Envs.set {K : Frag} {F : Hp} {σ : L2.St} {ρ : Rho} {v : V} {d : D} (h : Envs K F σ ρ) (q : Den K F v d) (i : Nat) : Envs K F (σ.set i (some v)) (ρ.set i (some d)) := by
  refine ⟨by simpa using h.len, fun j e hj => ?_⟩
  by_cases hij : i = j
  · subst hij
    by_cases hl : i < ρ.length
    · rw [List.getElem?_set_self hl] at hj
      cases hj
      exact ⟨v, by rw [List.getElem?_set_self (by rw [h.len]; exact hl)], q⟩
    · rw [List.getElem?_eq_none (by simpa using hl)] at hj; cases hj
  · rw [List.getElem?_set_ne hij] at hj ⊢
    exact h.get j e hj
def wipeD (ρ : Rho) : List Nat → Rho
  | [] => ρ
  | v :: vs => (wipeD ρ vs).set v none
theorem Envs.unset {K : Frag} {F : Hp} {σ : L2.St} {ρ : Rho} (h : Envs K F σ ρ) (i : Nat) : Envs K F (σ.set i none) (ρ.set i none) := by
  refine ⟨by simpa using h.len, fun j e hj => ?_⟩
  by_cases hij : i = j
  · subst hij
    by_cases hl : i < ρ.length
    · rw [List.getElem?_set_self hl] at hj; cases hj
    · rw [List.getElem?_eq_none (by simpa using hl)] at hj; cases hj
  · rw [List.getElem?_set_ne hij] at hj ⊢
    exact h.get j e hj
theorem Envs.wipe {K : Frag} {F : Hp} {σ : L2.St} {ρ : Rho} (h : Envs K F σ ρ) : ∀ vs : List Nat, Envs K F (L2.wipe σ vs) (wipeD ρ vs)
  | [] => h
  | v :: vs => (h.wipe vs).unset v
theorem wipe_set_none {σ : L2.St} {j : Nat} : ∀ {vs : List Nat}, j ∈ vs → (L2.wipe σ vs).set j none = L2.wipe σ vs
  | v :: vs, h => by
    show ((L2.wipe σ vs).set v none).set j none = (L2.wipe σ vs).set v none
    by_cases e : v = j
    · subst e; rw [List.set_set]
    · rw [List.set_comm _ _ e]
      have : j ∈ vs := by
        rcases List.mem_cons.mp h with z | z
        · exact absurd z.symm e
        · exact z
      rw [wipe_set_none this]
theorem wipe_wipe {σ : L2.St} : ∀ (ws vs : List Nat), (∀ j ∈ ws, j ∈ vs) → L2.wipe (L2.wipe σ vs) ws = L2.wipe σ vs
  | [], _, _ => rfl
  | w :: ws, vs, h => by
    show (L2.wipe (L2.wipe σ vs) ws).set w none = _
    rw [wipe_wipe ws vs fun j hj => h j (List.mem_cons_of_mem _ hj)]
    exact wipe_set_none (h w List.mem_cons_self)
theorem wipe_set {y : Option V} {j : Nat} : ∀ {σ : L2.St} {vs : List Nat}, j ∈ vs → L2.wipe (σ.set j y) vs = L2.wipe σ vs
  | σ, v :: vs, h => by
    show (L2.wipe (σ.set j y) vs).set v none = (L2.wipe σ vs).set v none
    by_cases e : j ∈ vs
    · rw [wipe_set e]
    · have ej : v = j := by
        rcases List.mem_cons.mp h with z | z
        · exact z.symm
        · exact absurd z e
      subst ej
      have key : ∀ (ws : List Nat) (τ : L2.St), v ∉ ws → L2.wipe (τ.set v y) ws = (L2.wipe τ ws).set v y := by
        intro ws
        induction ws with
        | nil => intro τ _; rfl
        | cons w ws ih =>
          intro τ hn
          show (L2.wipe (τ.set v y) ws).set w none = ((L2.wipe τ ws).set w none).set v y
          rw [ih τ fun z => hn (List.mem_cons_of_mem _ z), List.set_comm]
          exact fun z => hn (z ▸ List.mem_cons_self)
      rw [key vs σ e, List.set_set]
theorem wipe_back {y : Option V} {j : Nat} {σ : L2.St} {vs : List Nat} (h : j ∈ vs) : L2.wipe ((L2.wipe σ vs).set j y) vs = L2.wipe σ vs := by
  rw [wipe_set h, wipe_wipe vs vs fun _ q => q]
end DL

namespace DL
open PySem PySem.Spec PyProof.Rows L2

/-! ### slots by name -/
abbrev Rn := List (Str × Option D)
/-- the slots: names and what they hold -/
structure Env (X : Cx) (F : Hp) (σ : L2.St) (ρ : Rn) : Prop where
  nd : X.N.Nodup
  nm : ρ.map (·.1) = X.N
  ev : Envs X.K F σ (ρ.map (·.2))
inductive LookAt : Rn → Nat → Str → D → Prop
  | here {x : Str} {d : D} {r : Rn} : LookAt ((x, some d) :: r) 0 x d
  | there {x : Str} {d : D} {r : Rn} {q : Str × Option D} {i : Nat} : LookAt r i x d → LookAt (q :: r) (i + 1) x d
inductive SetAt : Rn → Nat → Str → D → Rn → Prop
  | here {x : Str} {d : D} {o : Option D} {r : Rn} : SetAt ((x, o) :: r) 0 x d ((x, some d) :: r)
  | there {x : Str} {d : D} {r r' : Rn} {q : Str × Option D} {i : Nat} : SetAt r i x d r' → SetAt (q :: r) (i + 1) x d (q :: r')
theorem LookAt.get : ∀ {ρ : Rn} {i : Nat} {x : Str} {d : D}, LookAt ρ i x d → ρ[i]? = some (x, some d)
  | _, _, _, _, .here => rfl
  | _, _, _, _, .there h => by rw [List.getElem?_cons_succ]; exact h.get
theorem SetAt.eq : ∀ {ρ ρ' : Rn} {i : Nat} {x : Str} {d : D}, SetAt ρ i x d ρ' → ρ' = ρ.set i (x, some d) ∧ (ρ.map (·.1))[i]? = some x
  | _, _, _, _, _, .here => ⟨rfl, rfl⟩
  | _, _, _, _, _, .there h => by
    obtain ⟨h1, h2⟩ := h.eq
    exact ⟨by rw [List.set_cons_succ, h1], by rw [List.map_cons, List.getElem?_cons_succ]; exact h2⟩
section
variable {X : Cx} {F F' : Hp} {σ : L2.St} {ρ ρ' : Rn} {i : Nat} {x : Str} {d : D}
theorem Env.look (e : Env X F σ ρ) (h : LookAt ρ i x d) : X.N[i]? = some x ∧ ∃ v, σ[i]? = some (some v) ∧ Den X.K F v d := by
  have g := h.get
  refine ⟨by rw [← e.nm, List.getElem?_map, g]; rfl, e.ev.get i d (by rw [List.getElem?_map, g]; rfl)⟩
theorem Env.mono (e : Env X F σ ρ) (h : Ex F F') : Env X F' σ ρ := ⟨e.nd, e.nm, e.ev.mono h⟩
theorem Env.set {v : V} (e : Env X F σ ρ) (h : SetAt ρ i x d ρ') (q : Den X.K F v d) : Env X F (σ.set i (some v)) ρ' := by
  obtain ⟨rfl, hx⟩ := h.eq
  refine ⟨e.nd, ?_, by rw [List.map_set]; exact e.ev.set q i⟩
  rw [List.map_set, ← e.nm]
  apply List.ext_getElem?
  intro j
  by_cases hj : i = j
  · subst hj
    rw [hx, List.getElem?_set_self (List.getElem?_eq_some_iff.mp hx).1]
  · rw [List.getElem?_set_ne hj]
theorem Env.ix (e : Env X F σ ρ) (h : SetAt ρ i x d ρ') : X.N[i]? = some x := by rw [← e.nm]; exact h.eq.2
end

/-! ### what is wanted of code, in the model's own terms -/
def SE (X : Cx) (e : Expr) (σ : L2.St) (H : Hp) (Q : VK) : Prop := ∀ pins s, Inv X pins σ H s → wpAny (model X.prog X.w) X.A (eval e X.env) (EP X pins σ Q) X.xe s
def ST (X : Cx) (e : Expr) (σ : L2.St) (H : Hp) (Q : Bool → Hp → Prop) : Prop := ∀ pins s, Inv X pins σ H s → wpAny (model X.prog X.w) X.A (isTrue e X.env (eval e X.env)) (TP X pins σ Q) X.xe s
def SW (X : Cx) (e : Expr) (σ : L2.St) (H : Hp) (Q : Bool → Hp → Prop) : Prop := ∀ whole pins s, Inv X pins σ H s → wpAny (model X.prog X.w) X.A (isTrue e X.env whole) (TP X pins σ Q) X.xe s
def SA (X : Cx) (es : List Expr) (σ : L2.St) (H : Hp) (Q : List V → Hp → Prop) : Prop := ∀ pos pins s, Inv X pins σ H s → wpAny (model X.prog X.w) X.A (spliced (backTo pos (starEach es X.env))) (AP X pins σ Q) X.xe s
def SS (X : Cx) (st : Stmt) (D : Ends) (σ : L2.St) (H : Hp) : Prop := ∀ pins s, Inv X pins σ H s → wpAny (model X.prog X.w) X.A (exec st X.env) (SP X pins D) X.xe s
def SSs (X : Cx) (st : List Stmt) (D : Ends) (σ : L2.St) (H : Hp) : Prop := ∀ pins s, Inv X pins σ H s → wpAny (model X.prog X.w) X.A (execs st X.env) (SP X pins D) X.xe s
def SI (X : Cx) (tg it : Expr) (σ : L2.St) (H : Hp) (R : It → Hp → Prop) : Prop := ∀ pins s, Inv X pins σ H s →
  wpAny (model X.prog X.w) X.A (eval it X.env) (fun v s1 => wpAny (model X.prog X.w) X.A (pyIter v) (PIE X pins σ tg R) X.xe s1) X.xe s
def SG (X : Cx) (tg : Expr) (v : V) (σ : L2.St) (H : Hp) (Q : L2.St → Hp → Prop) : Prop := ∀ pins s u, Inv X pins σ H s → RelV v u →
  wpAny (model X.prog X.w) X.A (assign tg X.env u) (fun _ s' => ∃ σ' H', Inv X pins σ' H' s' ∧ Q σ' H') X.xe s
section
variable {X : Cx} {e : Expr} {es : List Expr} {st : Stmt} {sts : List Stmt} {σ : L2.St} {H : Hp}
theorem pe_SE : PE X e (SE X e) := ⟨fun pins s σ H Q I h => h pins s I⟩
theorem pt_ST : PT X e (ST X e) := ⟨fun pins s σ H Q I h => h pins s I⟩
theorem pw_SW : PW X e (SW X e) := ⟨fun wh pins s σ H Q I h => h wh pins s I⟩
theorem pa_SA : PA X es (SA X es) := ⟨fun pos pins s σ H Q I h => h pos pins s I⟩
theorem ps_SS : PS X st (SS X st) := ⟨fun pins s σ H D I h => h pins s I⟩
theorem pss_SS : PSs X sts (SSs X sts) := ⟨fun pins s σ H D I h => h pins s I⟩
theorem pi_SI {tg it : Expr} : PI X tg it (SI X tg it) := ⟨fun pins s σ H R I h => h pins s I⟩
theorem pg_SG {tg : Expr} : PG X tg (SG X tg) := ⟨fun pins s σ H v u Q I r h => h pins s u I r⟩
theorem SE.of {t : TE} {Q : VK} (h : PE X e t) (q : t σ H Q) : SE X e σ H Q := fun pins s I => h.run pins s σ H Q I q
theorem ST.of {t : TT} {Q : Bool → Hp → Prop} (h : PT X e t) (q : t σ H Q) : ST X e σ H Q := fun pins s I => h.run pins s σ H Q I q
theorem SW.of {t : TT} {Q : Bool → Hp → Prop} (h : PW X e t) (q : t σ H Q) : SW X e σ H Q := fun wh pins s I => h.run wh pins s σ H Q I q
theorem SA.of {t : TA} {Q : List V → Hp → Prop} (h : PA X es t) (q : t σ H Q) : SA X es σ H Q := fun pos pins s I => h.run pos pins s σ H Q I q
theorem SS.of {t : TS} {D : Ends} (h : PS X st t) (q : t D σ H) : SS X st D σ H := fun pins s I => h.run pins s σ H D I q
theorem SSs.of {t : TS} {D : Ends} (h : PSs X sts t) (q : t D σ H) : SSs X sts D σ H := fun pins s I => h.run pins s σ H D I q
theorem SI.of {tg it : Expr} {t : TI} {R : It → Hp → Prop} (h : PI X tg it t) (q : t σ H R) : SI X tg it σ H R := fun pins s I => h.run pins s σ H R I q
theorem SG.of {tg : Expr} {t : TG} {v : V} {Q : L2.St → Hp → Prop} (h : PG X tg t) (q : t v σ H Q) : SG X tg v σ H Q := fun pins s u I r => h.run pins s σ H v u Q I r q
theorem SE.mono {Q Q' : VK} (h : SE X e σ H Q) (q : ∀ v H', Q v H' → Q' v H') : SE X e σ H Q' := fun pins s I => thn (h pins s I) fun u s' ⟨v, H', I', r, k⟩ => ⟨v, H', I', r, q v H' k⟩
theorem ST.mono {Q Q' : Bool → Hp → Prop} (h : ST X e σ H Q) (q : ∀ v H', Q v H' → Q' v H') : ST X e σ H Q' := fun pins s I => thn (h pins s I) fun u s' ⟨H', I', k⟩ => ⟨H', I', q _ H' k⟩
theorem SW.mono {Q Q' : Bool → Hp → Prop} (h : SW X e σ H Q) (q : ∀ v H', Q v H' → Q' v H') : SW X e σ H Q' := fun wh pins s I => thn (h wh pins s I) fun u s' ⟨H', I', k⟩ => ⟨H', I', q _ H' k⟩
theorem SA.mono {Q Q' : List V → Hp → Prop} (h : SA X es σ H Q) (q : ∀ v H', Q v H' → Q' v H') : SA X es σ H Q' := fun pos pins s I => thn (h pos pins s I) fun u s' ⟨v, H', I', r, k⟩ => ⟨v, H', I', r, q v H' k⟩
theorem SI.mono {tg it : Expr} {Q Q' : It → Hp → Prop} (h : SI X tg it σ H Q) (q : ∀ v H', Q v H' → Q' v H') : SI X tg it σ H Q' := fun pins s I => thn (h pins s I) fun u s' k => thn k fun w s2 ⟨a, fp, tn, J, H', e1, I', T, t0, f, r⟩ => ⟨a, fp, tn, J, H', e1, I', T, t0, f, q J H' r⟩
theorem SG.mono {tg : Expr} {v : V} {Q Q' : L2.St → Hp → Prop} (h : SG X tg v σ H Q) (q : ∀ v H', Q v H' → Q' v H') : SG X tg v σ H Q' := fun pins s u I r => thn (h pins s u I r) fun _ s' ⟨σ', H', I', k⟩ => ⟨σ', H', I', q σ' H' k⟩
theorem SP.imp {pins : List (Addr × Obj)} {E E' : Ends} {f : Flow} {s : Shared} (h : SP X pins E f s) (h1 : ∀ σ H, E.nx σ H → E'.nx σ H) (h2 : ∀ v H, E.rt v H → E'.rt v H) (h3 : ∀ σ H, E.bk σ H → E'.bk σ H) (h4 : ∀ σ H, E.ct σ H → E'.ct σ H) : SP X pins E' f s := by
  cases f with
  | next => obtain ⟨σ, H, I, q⟩ := h; exact ⟨σ, H, I, h1 _ _ q⟩
  | brk => obtain ⟨σ, H, I, q⟩ := h; exact ⟨σ, H, I, h3 _ _ q⟩
  | cont => obtain ⟨σ, H, I, q⟩ := h; exact ⟨σ, H, I, h4 _ _ q⟩
  | ret u => obtain ⟨v, σ, H, I, r, q⟩ := h; exact ⟨v, σ, H, I, r, h2 _ _ q⟩
theorem SS.mono {E E' : Ends} (h : SS X st E σ H) (h1 : ∀ σ H, E.nx σ H → E'.nx σ H) (h2 : ∀ v H, E.rt v H → E'.rt v H) (h3 : ∀ σ H, E.bk σ H → E'.bk σ H) (h4 : ∀ σ H, E.ct σ H → E'.ct σ H) : SS X st E' σ H := fun pins s I => thn (h pins s I) fun f s' q => SP.imp q h1 h2 h3 h4
theorem SSs.mono {E E' : Ends} (h : SSs X sts E σ H) (h1 : ∀ σ H, E.nx σ H → E'.nx σ H) (h2 : ∀ v H, E.rt v H → E'.rt v H) (h3 : ∀ σ H, E.bk σ H → E'.bk σ H) (h4 : ∀ σ H, E.ct σ H → E'.ct σ H) : SSs X sts E' σ H := fun pins s I => thn (h pins s I) fun f s' q => SP.imp q h1 h2 h3 h4
end


/-! ### the context over data: what is wished of an exception -/
abbrev XQ := Str → Option (Str × D) → Rn → Led → Prop
structure CD extends Cx where
  xq : XQ
instance : CoeOut CD Cx := ⟨CD.toCx⟩
/-- the field of an exception -/
def FdD (K : Frag) (F : Hp) (d : Option Addr) : Option (Str × D) → Prop
  | none => d = none
  | some (f, x) => ∃ (dd : Addr) (v : V), d = some dd ∧ F dd = some (.xd [(f, v)]) ∧ Den K F v x
/-- an exception of a class of the program, told over data -/
def WD (X : Cx) (F : Hp) (m : Led) (H : Hp) (q : XQ) : L2.WX := fun cls d σ H2 => ∃ (nm : Str) (C : Addr) (fd : Option (Str × D)) (ρ2 : Rn) (F2 : Hp) (m2 : Led),
  X.mg nm = some (.ref C) ∧ cls = .ref C ∧ Step X.K F m H F2 m2 H2 ∧ Env X F2 σ ρ2 ∧ FdD X.K F2 d fd ∧ q nm fd ρ2 m2
theorem WD.step {X : Cx} {F F1 H H1 : Hp} {m m1 : Led} {q : XQ} {cls : Value} {d : Option Addr} {σ : L2.St} {H2 : Hp} (s : Step X.K F m H F1 m1 H1) (h : WD X F1 m1 H1 q cls d σ H2) : WD X F m H q cls d σ H2 := by
  obtain ⟨nm, C, fd, ρ2, F2, m2, h1, h2, h3, h4⟩ := h
  exact ⟨nm, C, fd, ρ2, F2, m2, h1, h2, s.trans h3, h4⟩
structure AtX (X : CD) (F : Hp) (m : Led) (H : Hp) : Prop extends At X.K F m H where
  tk : L2.Takes X.toCx (WD X.toCx F m H X.xq)
  po : PassesOwn (model X.prog X.w) X.A X.env X.xe
structure StepX (X : CD) (F : Hp) (m : Led) (H : Hp) (F2 : Hp) (m2 : Led) (H2 : Hp) : Prop where
  st : Step X.K F m H F2 m2 H2
  tk2 : L2.Takes X.toCx (WD X.toCx F2 m2 H2 X.xq)
  po : PassesOwn (model X.prog X.w) X.A X.env X.xe
section
variable {X : CD} {F F1 F2 H H1 H2 : Hp} {m m1 m2 : Led}
instance : CoeOut (AtX X F m H) (At X.K F m H) := ⟨AtX.toAt⟩
instance : CoeOut (StepX X F m H F1 m1 H1) (Step X.K F m H F1 m1 H1) := ⟨StepX.st⟩
theorem StepX.at2 (s : StepX X F m H F1 m1 H1) : AtX X F1 m1 H1 := ⟨s.st.at2, s.tk2, s.po⟩
theorem StepX.ex (s : StepX X F m H F1 m1 H1) : Ex F F1 := s.st.ex
theorem AtX.step (a : AtX X F m H) (s : Step X.K F m H F1 m1 H1) : StepX X F m H F1 m1 H1 := ⟨s, a.tk.imp fun _ _ _ _ h => WD.step s h, a.po⟩
theorem AtX.to (a : AtX X F m H) (s : Step X.K F m H F1 m1 H1) : AtX X F1 m1 H1 := (a.step s).at2
theorem StepX.trans (a : StepX X F m H F1 m1 H1) (b : Step X.K F1 m1 H1 F2 m2 H2) : Step X.K F m H F2 m2 H2 := a.st.trans b
theorem StepX.refl (a : AtX X F m H) : StepX X F m H F m H := ⟨Step.refl a.toAt, a.tk, a.po⟩
/-- where nothing may be raised -/
theorem AtX.quiet {K0 : Cx} (a : At K0.K F m H) (hx : K0.xe = fun _ _ => False := by rfl) : AtX ⟨K0, fun _ _ _ _ => False⟩ F m H := ⟨a, fun u s' x => by
  obtain ⟨_, _, _, _, _, _, _, _, _, _, _, _, _, _, _, _, _, _, _, _, _, _, _, _, _, _, _, z⟩ := x
  exact z.elim, by
  show PassesOwn (model K0.prog K0.w) K0.A K0.env K0.xe
  rw [hx]
  exact PassesOwn.never⟩
end

/-! ### the judgements over data -/
section
variable (K : Frag) (F : Hp) (m : Led) (H : Hp)
def PQ (R : D → Led → Prop) : VK := fun v H2 => ∃ d F2 m2, Step K F m H F2 m2 H2 ∧ Den K F2 v d ∧ R d m2
def PB (R : Bool → Led → Prop) : Bool → Hp → Prop := fun b H2 => ∃ F2 m2, Step K F m H F2 m2 H2 ∧ R b m2
def PL (R : List D → Led → Prop) : List V → Hp → Prop := fun vs H2 => ∃ ds F2 m2, Step K F m H F2 m2 H2 ∧ Dens K F2 vs ds ∧ R ds m2
end
structure EndsD where
  nx : Rn → Led → Prop
  rt : D → Led → Prop
  bk : Rn → Led → Prop := fun _ _ => False
  ct : Rn → Led → Prop := fun _ _ => False
def PN (X : CD) (F : Hp) (m : Led) (H : Hp) (R : Rn → Led → Prop) : L2.St → Hp → Prop := fun σ2 H2 => ∃ ρ2 F2 m2, Step X.K F m H F2 m2 H2 ∧ Env X F2 σ2 ρ2 ∧ R ρ2 m2
def ED (X : CD) (F : Hp) (m : Led) (H : Hp) (E : EndsD) : Ends := { nx := PN X F m H E.nx, rt := PQ X.K F m H E.rt, bk := PN X F m H E.bk, ct := PN X F m H E.ct }
structure EX (X : CD) (e : Expr) (ρ : Rn) (m : Led) (R : D → Led → Prop) : Prop where
  run : ∀ F σ H, Env X F σ ρ → AtX X F m H → SE X e σ H (PQ X.K F m H R)
structure TX (X : CD) (e : Expr) (ρ : Rn) (m : Led) (R : Bool → Led → Prop) : Prop where
  run : ∀ F σ H, Env X F σ ρ → AtX X F m H → ST X e σ H (PB X.K F m H R)
structure WX (X : CD) (e : Expr) (ρ : Rn) (m : Led) (R : Bool → Led → Prop) : Prop where
  run : ∀ F σ H, Env X F σ ρ → AtX X F m H → SW X e σ H (PB X.K F m H R)
structure AX (X : CD) (es : List Expr) (ρ : Rn) (m : Led) (R : List D → Led → Prop) : Prop where
  run : ∀ F σ H, Env X F σ ρ → AtX X F m H → SA X es σ H (PL X.K F m H R)
structure S1 (X : CD) (st : Stmt) (ρ : Rn) (m : Led) (E : EndsD) : Prop where
  run : ∀ F σ H, Env X F σ ρ → AtX X F m H → SS X st (ED X F m H E) σ H
structure SX (X : CD) (st : List Stmt) (ρ : Rn) (m : Led) (E : EndsD) : Prop where
  run : ∀ F σ H, Env X F σ ρ → AtX X F m H → SSs X st (ED X F m H E) σ H
structure GX (X : CD) (tg : Expr) (d : D) (ρ : Rn) (m : Led) (R : Rn → Led → Prop) : Prop where
  run : ∀ F σ H v, Env X F σ ρ → AtX X F m H → Den X.K F v d → SG X tg v σ H (PN X F m H R)
/-- what an iterator gives: the items ds, one by one -/
def YD (K : Frag) (F1 : Hp) (ds : List D) (i : Nat) (H2 : Hp) (x : V) (H3 : Hp) : Prop := ∀ F2 m2, Ex F1 F2 → At K F2 m2 H2 → ∃ F3 d, ds[i]? = some d ∧ Step K F2 m2 H2 F3 m2 H3 ∧ Den K F3 x d
structure IX (X : CD) (tg it : Expr) (ρ : Rn) (m : Led) (R : List D → Led → Prop) : Prop where
  run : ∀ F σ H, Env X F σ ρ → AtX X F m H →
  SI X tg it σ H fun J H1 => ∃ ds F1 m1, Step X.K F m H F1 m1 H1 ∧ R ds m1 ∧ Walk J ds.length (fun H2 => Ex F1 H2) (YD X.K F1 ds)
/-- an operation on data -/
structure OX (X : CD) (f : Value → Value → Sem Value) (d1 d2 : D) (m : Led) (R : D → Led → Prop) : Prop where
  run : ∀ F σ H x y pins s v u, Den X.K F x d1 → Den X.K F y d2 → AtX X F m H → Inv X pins σ H s → RelV x v → RelV y u →
  wpAny (model X.prog X.w) X.A (f v u) (EP X pins σ (PQ X.K F m H R)) X.xe s
structure UX (X : CD) (f : Value → Sem Value) (d1 : D) (m : Led) (R : D → Led → Prop) : Prop where
  run : ∀ F σ H x pins s v, Den X.K F x d1 → AtX X F m H → Inv X pins σ H s → RelV x v →
  wpAny (model X.prog X.w) X.A (f v) (EP X pins σ (PQ X.K F m H R)) X.xe s
structure BX (X : CD) (f : Value) (ds : List D) (m : Led) (R : D → Led → Prop) : Prop where
  run : ∀ F σ H xs pins s us, Dens X.K F xs ds → AtX X F m H → Inv X pins σ H s → Vals xs us →
  wpAny (model X.prog X.w) X.A (call f us) (EP X pins σ (PQ X.K F m H R)) X.xe s
section
variable {X : CD} {K : Frag} {F F1 F2 H H1 H2 : Hp} {m m1 m2 : Led} {σ : L2.St} {ρ : Rn}
theorem PQ.step {R : D → Led → Prop} {v : V} (a : Step K F m H F1 m1 H1) (h : PQ K F1 m1 H1 R v H2) : PQ K F m H R v H2 := let ⟨d, F2, m2, s, q, r⟩ := h; ⟨d, F2, m2, a.trans s, q, r⟩
theorem PB.step {R : Bool → Led → Prop} {v : Bool} (a : Step K F m H F1 m1 H1) (h : PB K F1 m1 H1 R v H2) : PB K F m H R v H2 := let ⟨F2, m2, s, r⟩ := h; ⟨F2, m2, a.trans s, r⟩
theorem PL.step {R : List D → Led → Prop} {v : List V} (a : Step K F m H F1 m1 H1) (h : PL K F1 m1 H1 R v H2) : PL K F m H R v H2 := let ⟨d, F2, m2, s, q, r⟩ := h; ⟨d, F2, m2, a.trans s, q, r⟩
theorem PN.step {R : Rn → Led → Prop} (a : Step X.K F m H F1 m1 H1) (h : PN X F1 m1 H1 R σ H2) : PN X F m H R σ H2 := let ⟨d, F2, m2, s, q, r⟩ := h; ⟨d, F2, m2, a.trans s, q, r⟩
theorem PQ.now {R : D → Led → Prop} {v : V} {d : D} (a : At K F m H) (q : Den K F v d) (r : R d m) : PQ K F m H R v H := ⟨d, F, m, Step.refl a, q, r⟩
theorem SS.step {st : Stmt} {E : EndsD} (a : Step X.K F m H F1 m1 H1) (h : SS X st (ED X F1 m1 H1 E) σ H2) : SS X st (ED X F m H E) σ H2 := h.mono (fun _ _ q => PN.step a q) (fun _ _ q => PQ.step a q) (fun _ _ q => PN.step a q) fun _ _ q => PN.step a q
theorem SSs.step {st : List Stmt} {E : EndsD} (a : Step X.K F m H F1 m1 H1) (h : SSs X st (ED X F1 m1 H1 E) σ H2) : SSs X st (ED X F m H E) σ H2 := h.mono (fun _ _ q => PN.step a q) (fun _ _ q => PQ.step a q) (fun _ _ q => PN.step a q) fun _ _ q => PN.step a q
/-- going on from a judgement -/
theorem EX.go {e : Expr} {R : D → Led → Prop} {Q : VK} (h : EX X e ρ m R) (en : Env X F σ ρ) (a : AtX X F m H) (k : ∀ v d F1 m1 H1, StepX X F m H F1 m1 H1 → Env X F1 σ ρ → Den X.K F1 v d → R d m1 → Q v H1) : SE X e σ H Q :=
  (h.run F σ H en a).mono fun v H1 ⟨d, F1, m1, s, q, r⟩ => k v d F1 m1 H1 (a.step s) (en.mono s.ex) q r
theorem AX.go {es : List Expr} {R : List D → Led → Prop} {Q : List V → Hp → Prop} (h : AX X es ρ m R) (en : Env X F σ ρ) (a : AtX X F m H) (k : ∀ v d F1 m1 H1, StepX X F m H F1 m1 H1 → Env X F1 σ ρ → Dens X.K F1 v d → R d m1 → Q v H1) : SA X es σ H Q :=
  (h.run F σ H en a).mono fun v H1 ⟨d, F1, m1, s, q, r⟩ => k v d F1 m1 H1 (a.step s) (en.mono s.ex) q r
theorem TX.go {e : Expr} {R : Bool → Led → Prop} {Q : Bool → Hp → Prop} (h : TX X e ρ m R) (en : Env X F σ ρ) (a : AtX X F m H) (k : ∀ b F1 m1 H1, StepX X F m H F1 m1 H1 → Env X F1 σ ρ → R b m1 → Q b H1) : ST X e σ H Q :=
  (h.run F σ H en a).mono fun b H1 ⟨F1, m1, s, r⟩ => k b F1 m1 H1 (a.step s) (en.mono s.ex) r
theorem EX.mono {e : Expr} {R R' : D → Led → Prop} (h : EX X e ρ m R) (q : ∀ d m', R d m' → R' d m') : EX X e ρ m R' := .mk fun F σ H en a => (h.run F σ H en a).mono fun v H1 ⟨d, F1, m1, s, k, r⟩ => ⟨d, F1, m1, s, k, q d m1 r⟩
theorem TX.mono {e : Expr} {R R' : Bool → Led → Prop} (h : TX X e ρ m R) (q : ∀ d m', R d m' → R' d m') : TX X e ρ m R' := .mk fun F σ H en a => (h.run F σ H en a).mono fun v H1 ⟨F1, m1, s, r⟩ => ⟨F1, m1, s, q v m1 r⟩
theorem SX.mono {sts : List Stmt} {E E' : EndsD} (h : SX X sts ρ m E) (h1 : ∀ ρ m, E.nx ρ m → E'.nx ρ m) (h2 : ∀ d m, E.rt d m → E'.rt d m) (h3 : ∀ ρ m, E.bk ρ m → E'.bk ρ m) (h4 : ∀ ρ m, E.ct ρ m → E'.ct ρ m) : SX X sts ρ m E' := .mk fun F σ H en a =>
  (h.run F σ H en a).mono (fun σ H ⟨ρ, F2, m2, s, e, r⟩ => ⟨ρ, F2, m2, s, e, h1 _ _ r⟩) (fun v H ⟨d, F2, m2, s, e, r⟩ => ⟨d, F2, m2, s, e, h2 _ _ r⟩) (fun σ H ⟨ρ, F2, m2, s, e, r⟩ => ⟨ρ, F2, m2, s, e, h3 _ _ r⟩) (fun σ H ⟨ρ, F2, m2, s, e, r⟩ => ⟨ρ, F2, m2, s, e, h4 _ _ r⟩)
end

/-! ### rules for expressions -/
section
variable {X : CD} {e a b c : Expr} {es : List Expr} {ρ : Rn} {m : Led} {R : D → Led → Prop} {pos : Pos}
theorem x_var {i : Nat} {x : Str} {d : D} (h : LookAt ρ i x d) (k : R d m) (hv : Vis X.env.scope x := by first | exact Or.inl rfl | exact Or.inr (Or.inl rfl) | exact Or.inr (Or.inr rfl)) (hd : (x == ("__debug__" : Str)) = false := by decide)
    (hcd : (x == ("__classdict__" : Str)) = false := by decide) : EX X (.Name x pos) ρ m R := .mk fun F σ H en at_ => by
  obtain ⟨hN, v, hs, q⟩ := en.look h
  exact SE.of (pe_var hN hv hd hcd) ⟨v, hs, PQ.now at_ q k⟩
theorem x_int {i : Int} {j : Nat} (k : R (.int i) m) : EX X (.Constant (.int i) j pos) ρ m R := .mk fun F σ H en at_ => SE.of pe_int (PQ.now at_ (.int i) k)
theorem x_bl {i : Bool} {j : Nat} (k : R (.bl i) m) : EX X (.Constant (.bool i) j pos) ρ m R := .mk fun F σ H en at_ => SE.of pe_bl (PQ.now at_ (.bl i) k)
theorem x_non {j : Nat} (k : R .non m) : EX X (.Constant .none j pos) ρ m R := .mk fun F σ H en at_ => SE.of pe_non (PQ.now at_ .non k)
theorem x_str {x : Str} {j : Nat} (k : R (.str x) m) : EX X (.Constant (.str x) j pos) ρ m R := .mk fun F σ H en at_ => SE.of pe_str (PQ.now at_ (.str x) k)
/-- a constant of the module -/
def GC (K : Frag) (mg : Str → Option Value) (x : Str) (d : D) : Prop := ∃ v u, mg x = some u ∧ RelV v u ∧ ∀ F, Den K F v d
theorem x_glob {x : Str} {d : D} (hg : GC X.K X.mg x d) (k : R d m) (h : Gl X x := by rfl) (hd : (x == ("__debug__" : Str)) = false := by decide) : EX X (.Name x pos) ρ m R := .mk fun F σ H en at_ => by
  obtain ⟨v, u, hm, r, q⟩ := hg
  exact SE.of (pe_glob h hm r hd) (PQ.now at_ (q F) k)
/-- a built-in class as a value -/
theorem x_ty {x : Str} {n : String} (k : R (.ty n) m) (hm : X.mg x = none) (hv : bootBuiltins x = some (.type n) := by decide +kernel) (h : Gl X x := by rfl) (hn : x ≠ "__name__" := by decide) (hd : (x == ("__debug__" : Str)) = false := by decide) : EX X (.Name x pos) ρ m R := .mk fun F σ H en at_ =>
  SE.of (pe_bltn (v := .ty n) h hm hv rfl hn hd) (PQ.now at_ (.ty n) k)
theorem x_bin {op : Operator} (h : EX X a ρ m fun d1 m1 => EX X b ρ m1 fun d2 m2 => OX X (binaryOp op) d1 d2 m2 R) : EX X (.BinOp a op b pos) ρ m R := .mk fun F σ H en at_ => by
  intro pins s I
  refine wpAny_BinOp (binT (R := fun x y H2 => ∃ d1 d2 F2 m2, Step X.K F m H F2 m2 H2 ∧ Den X.K F2 x d1 ∧ Den X.K F2 y d2 ∧ OX X (binaryOp op) d1 d2 m2 R) (pe_SE (e := a)) (pe_SE (e := b)) I ?_ ?_)
  · exact h.go en at_ fun v d F1 m1 H1 s1 en1 q1 r1 => r1.go en1 s1.at2 fun v2 d2 F2 m2 H2 s2 en2 q2 r2 => ⟨d, d2, F2, m2, s1.trans s2, q1.mono s2.ex, q2, r2⟩
  · intro v u s2 x y H2 I2 rx ry ⟨d1, d2, F2, m2, st, q1, q2, r⟩
    exact thn (r.run F2 σ H2 x y pins s2 v u q1 q2 (at_.to st) I2 rx ry) fun w s3 ⟨v3, H3, I3, r3, k⟩ => ⟨v3, H3, I3, r3, PQ.step st k⟩
theorem x_un {op : UnaryOp} (h : EX X a ρ m fun d1 m1 => UX X (unaryOp op) d1 m1 R) : EX X (.UnaryOp op a pos) ρ m R := .mk fun F σ H en at_ => by
  intro pins s I
  refine UnaryOp_ (thn (h.run F σ H en at_ pins s I) fun v s1 ⟨x, H1, I1, r1, d, F1, m1, st, q, k⟩ => ?_)
  exact thn (UX.run k F1 σ H1 x pins s1 v q (at_.to st) I1 r1) fun w s3 ⟨v3, H3, I3, r3, k⟩ => ⟨v3, H3, I3, r3, PQ.step st k⟩
theorem x_cmp {op : CmpOp} (h : EX X a ρ m fun d1 m1 => EX X b ρ m1 fun d2 m2 => OX X (compareOp op) d1 d2 m2 R) (hm : behindInMarks op b = false := by first | exact nobehind _ (by decide) (by decide) | rfl | with_unfolding_all rfl) : EX X (.Compare a [op] [b] pos) ρ m R := .mk fun F σ H en at_ => by
  intro pins s I
  refine wpAny_Compare1 (binT (R := fun x y H2 => ∃ d1 d2 F2 m2, Step X.K F m H F2 m2 H2 ∧ Den X.K F2 x d1 ∧ Den X.K F2 y d2 ∧ OX X (compareOp op) d1 d2 m2 R) (pe_SE (e := a)) (pe_SE (e := b)) I ?_ ?_) hm
  · exact h.go en at_ fun v d F1 m1 H1 s1 en1 q1 r1 => r1.go en1 s1.at2 fun v2 d2 F2 m2 H2 s2 en2 q2 r2 => ⟨d, d2, F2, m2, s1.trans s2, q1.mono s2.ex, q2, r2⟩
  · intro v u s2 x y H2 I2 rx ry ⟨d1, d2, F2, m2, st, q1, q2, r⟩
    exact thn (r.run F2 σ H2 x y pins s2 v u q1 q2 (at_.to st) I2 rx ry) fun w s3 ⟨v3, H3, I3, r3, k⟩ => ⟨v3, H3, I3, r3, PQ.step st k⟩
/-- a comparison as a test -/
theorem t_cmp {op : CmpOp} {R : Bool → Led → Prop} (h : EX X a ρ m fun d1 m1 => EX X b ρ m1 fun d2 m2 => OX X (compareOp op) d1 d2 m2 fun d m3 => ∃ k, d = .bl k ∧ R k m3) (hm : behindInMarks op b = false := by first | exact nobehind _ (by decide) (by decide) | rfl | with_unfolding_all rfl) : TX X (.Compare a [op] [b] pos) ρ m R := .mk fun F σ H en at_ => by
  intro pins s I
  refine wpAny_isTrue_Compare1 ?_ hm
  refine binT (R := fun x y H2 => ∃ d1 d2 F2 m2, Step X.K F m H F2 m2 H2 ∧ Den X.K F2 x d1 ∧ Den X.K F2 y d2 ∧ OX X (compareOp op) d1 d2 m2 fun d m3 => ∃ k, d = .bl k ∧ R k m3) (f := fun v u => compareOp op v u) (Q := fun c s3 => wpAny (model X.prog X.w) X.A (truthy c) (TP X pins σ (PB X.K F m H R)) X.xe s3) (pe_SE (e := a)) (pe_SE (e := b)) I ?_ ?_
  · exact h.go en at_ fun v d F1 m1 H1 s1 en1 q1 r1 => r1.go en1 s1.at2 fun v2 d2 F2 m2 H2 s2 en2 q2 r2 => ⟨d, d2, F2, m2, s1.trans s2, q1.mono s2.ex, q2, r2⟩
  · intro v u s2 x y H2 I2 rx ry ⟨d1, d2, F2, m2, st, q1, q2, r⟩
    refine thn (r.run F2 σ H2 x y pins s2 v u q1 q2 (at_.to st) I2 rx ry) fun w s3 ⟨v3, H3, I3, r3, d, F3, m3, st3, q3, kk, ek, k⟩ => ?_
    subst ek
    cases q3
    cases r3
    exact wpAny_truthy_bool ⟨H3, I3, F3, m3, st.trans st3, k⟩
/-- a value that is a bool as a test -/
theorem t_val {R : Bool → Led → Prop} (h : EX X a ρ m fun d m1 => ∃ k, d = .bl k ∧ R k m1) (he : ∀ whole, isTrue a X.env whole = (do let v ← whole; standAt a.pos; holding [v] (truthy v)) := by intro _; rfl) : TX X a ρ m R := .mk fun F σ H en at_ =>
  ST.of (pt_val (pe_SE (e := a)) he) (h.go en at_ fun v d F1 m1 H1 s1 en1 q1 ⟨k, ek, r⟩ => by
    subst ek
    cases q1
    exact ⟨k, rfl, F1, m1, s1, r⟩)
/-- truth of data -/
def TruD (m : Led) (d : D) (k : Bool) : Prop := match d with
  | .non => k = false
  | .bl b => k = b
  | .int i => k = (i != 0)
  | .str y => y.length ≤ sizeLine ∧ k = ((y.length : Int) != 0)
  | .lst xs => k = !xs.isEmpty
  | .tup xs => k = !xs.isEmpty
  | .ref a => ∃ (i : Nat) (ds : List D), m[i]? = some (a, .lst ds) ∧ k = !ds.isEmpty
  | _ => False
theorem Dens.empty {K : Frag} {F : Hp} {xs : List V} {ds : List D} (h : Dens K F xs ds) : xs.isEmpty = ds.isEmpty := by cases h <;> rfl
theorem TruD.v {K : Frag} {F H : Hp} {d : D} {k : Bool} {v : V} (h : TruD m d k) (q : Den K F v d) (at_ : At K F m H) : TruV K v H k := by
  cases q with
  | non => exact h
  | bl b => exact h
  | int i => exact h
  | str x => exact h
  | ty n => exact h
  | lst h1 hs => exact .inl ⟨_, .inl (at_.sub.rd h1), by rw [hs.empty]; exact h⟩
  | tup h1 hs => exact .inr (.inl ⟨_, at_.sub.sqT h1, by rw [hs.empty]; exact h⟩)
  | lsk => exact h.elim
  | dT => exact h.elim
  | dK => exact h.elim
  | obj => exact h.elim
  | exc => exact h.elim
  | ref a =>
    obtain ⟨i, ds, hi, e⟩ := h
    obtain ⟨hh, ⟨xs, rfl, hs⟩, e2⟩ := at_.get hi
    exact .inl ⟨xs, .inl (.inl e2), by rw [hs.empty]; exact e⟩
theorem t_tru {R : Bool → Led → Prop} (h : EX X a ρ m fun d m1 => ∃ k, TruD m1 d k ∧ R k m1) (he : ∀ whole, isTrue a X.env whole = (do let v ← whole; standAt a.pos; holding [v] (truthy v)) := by intro _; rfl) : TX X a ρ m R := .mk fun F σ H en at_ =>
  ST.of (pt_truth (pe_SE (e := a)) he) (h.go en at_ fun v d F1 m1 H1 s1 en1 q1 ⟨k, tk, r⟩ => ⟨k, tk.v q1 s1.at2, F1, m1, s1, r⟩)
theorem t_not {R : Bool → Led → Prop} (h : TX X a ρ m fun k m1 => R (!k) m1) : TX X (.UnaryOp .Not a pos) ρ m R := .mk fun F σ H en at_ =>
  ST.of (pt_not (pt_ST (e := a))) (h.run F σ H en at_)
theorem w_and1 {R : Bool → Led → Prop} (h : TX X a ρ m R) : WX X (.BoolOp .And [a] pos) ρ m R := .mk fun F σ H en at_ => SW.of (pw_and1 (pt_ST (e := a))) (h.run F σ H en at_)
theorem w_or1 {R : Bool → Led → Prop} (h : TX X a ρ m R) : WX X (.BoolOp .Or [a] pos) ρ m R := .mk fun F σ H en at_ => SW.of (pw_or1 (pt_ST (e := a))) (h.run F σ H en at_)
theorem w_and {R : Bool → Led → Prop} {rest : List Expr} (h : TX X a ρ m fun k m1 => (k = true → WX X (.BoolOp .And (b :: rest) pos) ρ m1 R) ∧ (k = false → R false m1)) : WX X (.BoolOp .And (a :: b :: rest) pos) ρ m R := .mk fun F σ H en at_ =>
  SW.of (pw_and (pt_ST (e := a)) (pw_SW (e := .BoolOp .And (b :: rest) pos))) (h.go en at_ fun k F1 m1 H1 s1 en1 r => by
    cases k with
    | true => exact ((r.1 rfl).run F1 σ H1 en1 s1.at2).mono fun v H' q => PB.step s1 q
    | false => exact ⟨F1, m1, s1, r.2 rfl⟩)
theorem w_or {R : Bool → Led → Prop} {rest : List Expr} (h : TX X a ρ m fun k m1 => (k = true → R true m1) ∧ (k = false → WX X (.BoolOp .Or (b :: rest) pos) ρ m1 R)) : WX X (.BoolOp .Or (a :: b :: rest) pos) ρ m R := .mk fun F σ H en at_ =>
  SW.of (pw_or (pt_ST (e := a)) (pw_SW (e := .BoolOp .Or (b :: rest) pos))) (h.go en at_ fun k F1 m1 H1 s1 en1 r => by
    cases k with
    | true => exact ⟨F1, m1, s1, r.1 rfl⟩
    | false => exact ((r.2 rfl).run F1 σ H1 en1 s1.at2).mono fun v H' q => PB.step s1 q)
theorem t_w {R : Bool → Led → Prop} (h : WX X a ρ m R) : TX X a ρ m R := .mk fun F σ H en at_ pins s I => h.run F σ H en at_ _ pins s I
/-- and, or as values: bools ahead of the last -/
theorem x_one {op : BoolOp} (h : EX X a ρ m R) : EX X (.BoolOp op [a] pos) ρ m R := .mk fun F σ H en at_ => SE.of (pe_one (pe_SE (e := a))) (h.run F σ H en at_)
theorem x_and {rest : List Expr} (h : EX X a ρ m fun d m1 => ∃ k, d = .bl k ∧ (k = true → EX X (.BoolOp .And (b :: rest) pos) ρ m1 R) ∧ (k = false → R (.bl false) m1)) : EX X (.BoolOp .And (a :: b :: rest) pos) ρ m R := .mk fun F σ H en at_ =>
  SE.of (pe_and (pe_SE (e := a)) (pe_SE (e := .BoolOp .And (b :: rest) pos))) (h.go en at_ fun v d F1 m1 H1 s1 en1 q ⟨k, ek, r⟩ => by
    subst ek
    cases q
    refine ⟨k, rfl, ?_⟩
    cases k with
    | true => exact ((r.1 rfl).run F1 σ H1 en1 s1.at2).mono fun v H' q => PQ.step s1 q
    | false => exact ⟨_, F1, m1, s1, .bl false, r.2 rfl⟩)
theorem x_or {rest : List Expr} (h : EX X a ρ m fun d m1 => ∃ k, d = .bl k ∧ (k = true → R (.bl true) m1) ∧ (k = false → EX X (.BoolOp .Or (b :: rest) pos) ρ m1 R)) : EX X (.BoolOp .Or (a :: b :: rest) pos) ρ m R := .mk fun F σ H en at_ =>
  SE.of (pe_or (pe_SE (e := a)) (pe_SE (e := .BoolOp .Or (b :: rest) pos))) (h.go en at_ fun v d F1 m1 H1 s1 en1 q ⟨k, ek, r⟩ => by
    subst ek
    cases q
    refine ⟨k, rfl, ?_⟩
    cases k with
    | true => exact ⟨_, F1, m1, s1, .bl true, r.1 rfl⟩
    | false => exact ((r.2 rfl).run F1 σ H1 en1 s1.at2).mono fun v H' q => PQ.step s1 q)
theorem x_not (h : EX X a ρ m fun d m1 => ∃ k, d = .bl k ∧ R (.bl (!k)) m1) : EX X (.UnaryOp .Not a pos) ρ m R := .mk fun F σ H en at_ =>
  SE.of (pe_not (pe_SE (e := a))) (h.go en at_ fun v d F1 m1 H1 s1 en1 q ⟨k, ek, r⟩ => by
    subst ek
    cases q
    exact ⟨k, rfl, _, F1, m1, s1, .bl _, r⟩)
theorem x_if (h : TX X c ρ m fun k m1 => (k = true → EX X a ρ m1 R) ∧ (k = false → EX X b ρ m1 R)) : EX X (.IfExp c a b pos) ρ m R := .mk fun F σ H en at_ =>
  SE.of (pe_ifExp (pt_ST (e := c)) (pe_SE (e := a)) (pe_SE (e := b))) (h.go en at_ fun k F1 m1 H1 s1 en1 r => by
    cases k with
    | true => exact ((r.1 rfl).run F1 σ H1 en1 s1.at2).mono fun v H' q => PQ.step s1 q
    | false => exact ((r.2 rfl).run F1 σ H1 en1 s1.at2).mono fun v H' q => PQ.step s1 q)
theorem a_nil {R : List D → Led → Prop} (k : R [] m) : AX X [] ρ m R := .mk fun F σ H en at_ => SA.of pa_nil ⟨[], F, m, Step.refl at_, .nil, k⟩
theorem a_cons {R : List D → Led → Prop} (h : EX X e ρ m fun d m1 => AX X es ρ m1 fun ds m2 => R (d :: ds) m2) (hs : starEach (e :: es) X.env = (false, eval e X.env) :: starEach es X.env := by rfl) : AX X (e :: es) ρ m R := .mk fun F σ H en at_ =>
  SA.of (pa_cons (pe_SE (e := e)) (pa_SA (es := es)) hs) (h.go en at_ fun v d F1 m1 H1 s1 en1 q r => r.go en1 s1.at2 fun vs ds F2 m2 H2 s2 en2 q2 r2 => ⟨d :: ds, F2, m2, s1.trans s2, .cons (q.mono s2.ex) q2, r2⟩)
theorem x_tup {x1 : Nat} (h : AX X es ρ m fun ds m1 => ds.length ≤ 100000 ∧ R (.tup ds) m1) : EX X (.Tuple es x1 pos) ρ m R := .mk fun F σ H en at_ =>
  SE.of (pe_tup (pa_SA (es := es))) (h.go en at_ fun vs ds F1 m1 H1 s1 en1 q r => ⟨by rw [q.length]; exact Nat.le_trans r.1 (by decide), fun p hp =>
    have nw := Step.new (o := .tup vs) s1.at2 hp
    ⟨.tup ds, _, _, s1.trans nw, .tup (.inl (.inl upd_same)) (q.mono nw.ex), r.2⟩⟩)
theorem x_lst (h : AX X es ρ m fun ds m1 => ds.length ≤ 100000 ∧ R (.lst ds) m1) : EX X (.List es pos) ρ m R := .mk fun F σ H en at_ =>
  SE.of (pe_lst (pa_SA (es := es))) (h.go en at_ fun vs ds F1 m1 H1 s1 en1 q r => ⟨by rw [q.length]; exact Nat.le_trans r.1 (by decide), fun p hp =>
    have nw := Step.new (o := .lst vs) s1.at2 hp
    ⟨.lst ds, _, _, s1.trans nw, .lst (.inl upd_same) (q.mono nw.ex), r.2⟩⟩)
/-- a list that is to be changed -/
theorem x_lstM (h : AX X es ρ m fun ds m1 => ds.length ≤ 100000 ∧ ∀ p, R (.ref p) (m1 ++ [(p, .lst ds)])) : EX X (.List es pos) ρ m R := .mk fun F σ H en at_ =>
  SE.of (pe_lst (pa_SA (es := es))) (h.go en at_ fun vs ds F1 m1 H1 s1 en1 q r => ⟨by rw [q.length]; exact Nat.le_trans r.1 (by decide), fun p hp =>
    have nw := Step.newM (o := .lst vs) (mo := .lst ds) s1.at2 hp ⟨vs, rfl, q⟩
    ⟨.ref p, _, _, s1.trans nw, .ref p, r.2 p⟩⟩)
/-- a list of the ledger read as it stands, from then on frozen -/
theorem x_freeze (h : EX X e ρ m fun d m2 => ∃ (i : Nat) (p : Addr) (ds : List D), d = .ref p ∧ m2[i]? = some (p, .lst ds) ∧ R (.lst ds) (m2.eraseIdx i)) : EX X e ρ m R := .mk fun F σ H en at_ =>
  h.go en at_ fun v d F1 m1 H1 s1 en1 q ⟨i, p, ds, ed, hi, r⟩ => by
    subst ed
    cases q
    obtain ⟨F2, s2, q2⟩ := Step.freeze s1.at2.toAt hi
    exact ⟨_, F2, _, s1.trans s2, q2, r⟩
end
end DL

namespace DL
open PySem PySem.Spec PyProof.Rows L2

/-! ### operations on ints -/
section
variable {X : CD} {f : Value → Value → Sem Value} {d1 d2 : D} {m : Led} {R : D → Led → Prop} {i j : Int}
theorem OX.of {r : R2} (ho : OpR X f r) (h : ∀ F H x y, Den X.K F x d1 → Den X.K F y d2 → AtX X F m H → r x y H (PQ X.K F m H R)) : OX X f d1 d2 m R := .mk fun F σ H x y pins s v u q1 q2 at_ I rx ry => ho pins s σ H x y v u _ I rx ry (h F H x y q1 q2 at_)
theorem UX.of {f : Value → Sem Value} {r : V → Hp → VK → Prop} (ho : UnR X f r) (h : ∀ F H x, Den X.K F x d1 → AtX X F m H → r x H (PQ X.K F m H R)) : UX X f d1 m R := .mk fun F σ H x pins s v q1 at_ I rx => ho pins s σ H x v _ I rx (h F H x q1 at_)
theorem BX.of {f : Value} {ds : List D} {r : List V → Hp → VK → Prop} (ho : CallR X f r) (h : ∀ F H xs, Dens X.K F xs ds → AtX X F m H → r xs H (PQ X.K F m H R)) : BX X f ds m R := .mk fun F σ H xs pins s us q at_ I rs => ho pins s σ H xs us _ I rs (h F H xs q at_)
theorem Den.int_inv {K : Frag} {F : Hp} {v : V} (h : Den K F v (.int i)) : v = .int i := by cases h; rfl
theorem Den.str_inv {K : Frag} {F : Hp} {v : V} {x : Str} (h : Den K F v (.str x)) : v = .str x := by cases h; rfl
theorem Den.bl_inv {K : Frag} {F : Hp} {v : V} {x : Bool} (h : Den K F v (.bl x)) : v = .bl x := by cases h; rfl
theorem OX.i0 {g : Int → Int → V} {d : D} (ho : OpR X f (rI0 g)) (hd : ∀ F, Den X.K F (g i j) d) (k : R d m) : OX X f (.int i) (.int j) m R := OX.of ho fun F H x y q1 q2 at_ => ⟨i, j, q1.int_inv, q2.int_inv, PQ.now at_ (hd F) k⟩
theorem OX.ic {C : Int → Int → Prop} {g : Int → Int → V} {d : D} (ho : OpR X f (rI C g)) (hc : C i j) (hd : ∀ F, Den X.K F (g i j) d) (k : R d m) : OX X f (.int i) (.int j) m R := OX.of ho fun F H x y q1 q2 at_ => ⟨i, j, q1.int_inv, q2.int_inv, hc, PQ.now at_ (hd F) k⟩
theorem o_add (k : R (.int (i + j)) m) : OX X (binaryOp .Add) (.int i) (.int j) m R := OX.i0 op_add (fun _ => .int _) k
theorem o_sub (k : R (.int (i - j)) m) : OX X (binaryOp .Sub) (.int i) (.int j) m R := OX.i0 op_sub (fun _ => .int _) k
theorem op_mulG : OpR X (binaryOp .Mult) (rI IntMulOk fun i j => .int (i * j)) := opI fun _ _ _ _ _ _ _ hc q => mul_int q hc
theorem o_mul (h : IntMulOk i j) (k : R (.int (i * j)) m) : OX X (binaryOp .Mult) (.int i) (.int j) m R := OX.ic op_mulG h (fun _ => .int _) k
theorem o_fdiv (h : CDivW i j) (k : R (.int (i / j)) m) : OX X (binaryOp .FloorDiv) (.int i) (.int j) m R := OX.ic op_fdivW h (fun _ => .int _) k
def CDivG (_ j : Int) : Prop := j ≠ 0 ∧ j.natAbs.log2 < 9000
theorem op_fdivG : OpR X (binaryOp .FloorDiv) (rI CDivG fun i j => .int (i.fdiv j)) := opI fun _ _ _ _ _ _ _ hc q => floordiv_int hc.1 q (.inl (PyProof.noPylong_of_log2 hc.2))
theorem o_fdivN (h : CDivG i j) (k : R (.int (i.fdiv j)) m) : OX X (binaryOp .FloorDiv) (.int i) (.int j) m R := OX.ic op_fdivG h (fun _ => .int _) k
theorem o_mod (h : 0 < j) (k : R (.int (i % j)) m) : OX X (binaryOp .Mod) (.int i) (.int j) m R := OX.ic op_mod h (fun _ => .int _) k
theorem o_modN (h : j ≠ 0) (k : R (.int (i.fmod j)) m) : OX X (binaryOp .Mod) (.int i) (.int j) m R := OX.ic op_modN h (fun _ => .int _) k
theorem o_pow (h : CPow i j) (k : R (.int (i ^ j.toNat)) m) : OX X (binaryOp .Pow) (.int i) (.int j) m R := OX.ic op_pow h (fun _ => .int _) k
theorem o_lt (k : R (.bl (decide (i < j))) m) : OX X (compareOp .Lt) (.int i) (.int j) m R := OX.i0 op_lt (fun _ => .bl _) k
theorem o_le (k : R (.bl (decide (i ≤ j))) m) : OX X (compareOp .LtE) (.int i) (.int j) m R := OX.i0 op_le (fun _ => .bl _) k
theorem o_gt (k : R (.bl (decide (j < i))) m) : OX X (compareOp .Gt) (.int i) (.int j) m R := OX.i0 op_gt (fun _ => .bl _) k
theorem o_ge (k : R (.bl (decide (j ≤ i))) m) : OX X (compareOp .GtE) (.int i) (.int j) m R := OX.i0 op_ge (fun _ => .bl _) k
theorem u_neg (k : R (.int (-i)) m) : UX X (unaryOp .USub) (.int i) m R := UX.of un_neg fun F H x q at_ => ⟨i, q.int_inv, PQ.now at_ (.int _) k⟩
theorem o_eqI (k : R (.bl (decide (i = j))) m) : OX X (compareOp .Eq) (.int i) (.int j) m R := OX.of op_eq fun F H x y q1 q2 at_ => by
  rw [q1.int_inv, q2.int_inv]
  refine ⟨rfl, ?_⟩
  have e : decide (V.int i = V.int j) = decide (i = j) := by simp
  rw [e]
  exact PQ.now at_ (.bl _) k
theorem o_neI (k : R (.bl (!decide (i = j))) m) : OX X (compareOp .NotEq) (.int i) (.int j) m R := OX.of op_ne fun F H x y q1 q2 at_ => by
  rw [q1.int_inv, q2.int_inv]
  refine ⟨rfl, ?_⟩
  have e : decide (V.int i = V.int j) = decide (i = j) := by simp
  rw [e]
  exact PQ.now at_ (.bl _) k
theorem o_eqS {x y : Str} (k : R (.bl (decide (x = y))) m) : OX X (compareOp .Eq) (.str x) (.str y) m R := OX.of op_eq fun F H a b q1 q2 at_ => by
  rw [q1.str_inv, q2.str_inv]
  refine ⟨rfl, ?_⟩
  have e : decide (V.str x = V.str y) = decide (x = y) := by simp
  rw [e]
  exact PQ.now at_ (.bl _) k
theorem o_neS {x y : Str} (k : R (.bl (!decide (x = y))) m) : OX X (compareOp .NotEq) (.str x) (.str y) m R := OX.of op_ne fun F H a b q1 q2 at_ => by
  rw [q1.str_inv, q2.str_inv]
  refine ⟨rfl, ?_⟩
  have e : decide (V.str x = V.str y) = decide (x = y) := by simp
  rw [e]
  exact PQ.now at_ (.bl _) k
theorem o_eqB {x y : Bool} (k : R (.bl (decide (x = y))) m) : OX X (compareOp .Eq) (.bl x) (.bl y) m R := OX.of op_eq fun F H a b q1 q2 at_ => by
  rw [q1.bl_inv, q2.bl_inv]
  refine ⟨rfl, ?_⟩
  have e : decide (V.bl x = V.bl y) = decide (x = y) := by simp
  rw [e]
  exact PQ.now at_ (.bl _) k
/-- is None -/
def isN : D → Bool
  | .non => true
  | _ => false
theorem Den.isN {K : Frag} {F : Hp} {v : V} {d : D} (h : Den K F v d) : decide (v = .non) = isN d := by cases h <;> rfl
theorem Den.non_inv {K : Frag} {F : Hp} {v : V} (h : Den K F v .non) : v = .non := by cases h; rfl
theorem o_isN (k : R (.bl (isN d1)) m) : OX X (compareOp .Is) d1 .non m R := OX.of op_isN fun F H a b q1 q2 at_ => ⟨q2.non_inv, by rw [q1.isN]; exact PQ.now at_ (.bl _) k⟩
theorem o_notN (k : R (.bl (!isN d1)) m) : OX X (compareOp .IsNot) d1 .non m R := OX.of op_notN fun F H a b q1 q2 at_ => ⟨q2.non_inv, by rw [q1.isN]; exact PQ.now at_ (.bl _) k⟩

/-! ### lists -/
theorem op_catG : OpR X (binaryOp .Add) (fun x y H Q => ∃ l b xs zs, x = .ref l ∧ y = .ref b ∧ Rd H l (.lst xs) ∧ Rd H b (.lst zs) ∧ xs.length + zs.length ≤ sizeLine ∧ ∀ p, H p = none → Q (.ref p) (upd H p (.lst (xs ++ zs)))) := by
  intro pins s σ H x y v u Q I rx ry h
  obtain ⟨l, b, xs, zs, rfl, rfl, hH, hB, hz, q⟩ := h
  cases rx
  cases ry
  obtain ⟨z, its, n, r, e⟩ := hH.ok I.hok
  obtain ⟨z2, its2, n2, r2, e2⟩ := hB.ok I.hok
  have hl := r.length
  have hl2 := r2.length
  refine PySem.P.add_list e e2 ?_ (by rw [List.size_toArray, List.size_toArray]; omega)
  have ea : its.toArray ++ its2.toArray = (its ++ its2).toArray := by simp
  rw [ea]
  exact ⟨.ref _, _, I.lnew (t' := s.toks) (r.append r2) (by rw [List.length_append]; omega), rfl, q _ I.fresh⟩
theorem new_lst {K : Frag} {F H : Hp} {m : Led} {p : Addr} {xs : List V} {ds : List D} {R : D → Led → Prop} (at_ : At K F m H) (hp : H p = none) (hs : Dens K F xs ds) (k : R (.lst ds) m) : PQ K F m H R (.ref p) (upd H p (.lst xs)) :=
  have nw := Step.new (o := .lst xs) at_ hp
  ⟨.lst ds, _, _, nw, .lst (.inl upd_same) (hs.mono nw.ex), k⟩
theorem new_tup {K : Frag} {F H : Hp} {m : Led} {p : Addr} {xs : List V} {ds : List D} {R : D → Led → Prop} (at_ : At K F m H) (hp : H p = none) (hs : Dens K F xs ds) (k : R (.tup ds) m) : PQ K F m H R (.ref p) (upd H p (.tup xs)) :=
  have nw := Step.new (o := .tup xs) at_ hp
  ⟨.tup ds, _, _, nw, .tup (.inl (.inl upd_same)) (hs.mono nw.ex), k⟩
theorem new_lstM {K : Frag} {F H : Hp} {m : Led} {p : Addr} {xs : List V} {ds : List D} {R : D → Led → Prop} (at_ : At K F m H) (hp : H p = none) (hs : Dens K F xs ds) (k : ∀ p, R (.ref p) (m ++ [(p, .lst ds)])) : PQ K F m H R (.ref p) (upd H p (.lst xs)) :=
  have nw := Step.newM (o := .lst xs) (mo := .lst ds) at_ hp ⟨xs, rfl, hs⟩
  ⟨.ref p, _, _, nw, .ref p, k p⟩
theorem lenOk {n : Nat} (h : n ≤ 100000) : n ≤ sizeLine := Nat.le_trans h (by decide)
theorem lenLt {n : Nat} (h : n < 100000) : n < sizeLine := Nat.lt_of_lt_of_le h (by decide)
theorem o_cat {as bs : List D} (h1 : LstV m d1 as) (h2 : LstV m d2 bs) (hl : as.length + bs.length ≤ 100000) (k : R (.lst (as ++ bs)) m) : OX X (binaryOp .Add) d1 d2 m R := OX.of op_catG fun F H x y q1 q2 at_ => by
  obtain ⟨p, xs, rfl, e1, s1⟩ := h1.read at_.toAt q1
  obtain ⟨q, ys, rfl, e2, s2⟩ := h2.read at_.toAt q2
  exact ⟨p, q, xs, ys, rfl, rfl, e1, e2, lenOk (by rw [s1.length, s2.length]; exact hl), fun l hl => new_lst at_ hl (s1.append s2) k⟩
theorem o_catM {as bs : List D} (h1 : LstV m d1 as) (h2 : LstV m d2 bs) (hl : as.length + bs.length ≤ 100000) (k : ∀ p, R (.ref p) (m ++ [(p, .lst (as ++ bs))])) : OX X (binaryOp .Add) d1 d2 m R := OX.of op_catG fun F H x y q1 q2 at_ => by
  obtain ⟨p, xs, rfl, e1, s1⟩ := h1.read at_.toAt q1
  obtain ⟨q, ys, rfl, e2, s2⟩ := h2.read at_.toAt q2
  exact ⟨p, q, xs, ys, rfl, rfl, e1, e2, lenOk (by rw [s1.length, s2.length]; exact hl), fun l hl => new_lstM at_ hl (s1.append s2) k⟩
theorem Dens.atI {K : Frag} {F : Hp} {xs : List V} {ds : List D} {i : Int} {d : D} (h : Dens K F xs ds) (e : L2.atI ds i = some d) : ∃ v, L2.atI xs i = some v ∧ Den K F v d := by
  unfold L2.atI at e ⊢
  rw [h.length]
  cases q : ixN ds.length i with
  | none => rw [q] at e; cases e
  | some j =>
    rw [q] at e
    exact h.get e

/-! ### subscripts -/
structure IxX (X : CD) (d1 d2 : D) (m : Led) (R : D → Led → Prop) : Prop where
  run : ∀ value slice F σ H x y pins s v u, Den X.K F x d1 → Den X.K F y d2 → AtX X F m H → Inv X pins σ H s → RelV x v → RelV y u →
  subscripted slice false v u = operate [v, u] (getItem v u) → wpAny (model X.prog X.w) X.A (subscriptTail value slice v u) (EP X pins σ (PQ X.K F m H R)) X.xe s
theorem IxX.of {r : R2} (ho : IxR X r) (h : ∀ F H x y, Den X.K F x d1 → Den X.K F y d2 → AtX X F m H → r x y H (PQ X.K F m H R)) : IxX X d1 d2 m R := .mk fun value slice F σ H x y pins s v u q1 q2 at_ I rx ry hs => ho value slice pins s σ H x y v u _ I rx ry (h F H x y q1 q2 at_) hs
theorem x_ix {a b : Expr} {ρ : Rn} {pos : Pos} (h : EX X a ρ m fun d1 m1 => EX X b ρ m1 fun d2 m2 => IxX X d1 d2 m2 R) (hs : PlainIx b := by intro _ _; rfl) : EX X (.Subscript a b pos) ρ m R := .mk fun F σ H en at_ => by
  intro pins s I
  refine Subscript_ (binT (R := fun x y H2 => ∃ d1 d2 F2 m2, Step X.K F m H F2 m2 H2 ∧ Den X.K F2 x d1 ∧ Den X.K F2 y d2 ∧ IxX X d1 d2 m2 R) (pe_SE (e := a)) (pe_SE (e := b)) I ?_ ?_)
  · exact h.go en at_ fun v d F1 m1 H1 s1 en1 q1 r1 => r1.go en1 s1.at2 fun v2 d2 F2 m2 H2 s2 en2 q2 r2 => ⟨d, d2, F2, m2, s1.trans s2, q1.mono s2.ex, q2, r2⟩
  · intro v u s2 x y H2 I2 rx ry ⟨d1, d2, F2, m2, st, q1, q2, r⟩
    exact thn (r.run a b F2 σ H2 x y pins s2 v u q1 q2 (at_.to st) I2 rx ry (hs _ _)) fun w s3 ⟨v3, H3, I3, r3, k⟩ => ⟨v3, H3, I3, r3, PQ.step st k⟩
theorem i_lst {ds : List D} {x : D} (h : LstV m d1 ds) (hx : atI ds i = some x) (k : R x m) : IxX X d1 (.int i) m R := IxX.of ix_list fun F H a b q1 q2 at_ => by
  obtain ⟨p, xs, rfl, e1, s1⟩ := h.read at_.toAt q1
  obtain ⟨v, hv, q⟩ := s1.atI hx
  exact ⟨p, xs, i, v, rfl, q2.int_inv, .inl e1, hv, PQ.now at_ q k⟩
theorem i_tup {ds : List D} {x : D} (hx : atI ds i = some x) (k : R x m) : IxX X (.tup ds) (.int i) m R := IxX.of ix_tup fun F H a b q1 q2 at_ => by
  obtain ⟨p, xs, rfl, e1, s1⟩ := tup_read at_.toAt q1
  obtain ⟨v, hv, q⟩ := s1.atI hx
  exact ⟨p, xs, i, v, rfl, q2.int_inv, e1, hv, PQ.now at_ q k⟩
theorem i_str {z : Str} {c : Nat} (hz : z.length ≤ 100000) (hx : atI z.cps.toList i = some c) (k : R (.str ⟨#[c]⟩) m) : IxX X (.str z) (.int i) m R := IxX.of ix_str fun F H a b q1 q2 at_ =>
  ⟨z, i, c, q1.str_inv, q2.int_inv, lenOk hz, hx, PQ.now at_ (.str _) k⟩
/-! slices -/
def PX (X : CD) (o : Option Expr) (ρ : Rn) (m : Led) (R : Option Int → Led → Prop) : Prop := match o with
  | none => R none m
  | some e => EX X e ρ m fun d m1 => ∃ i, d = .int i ∧ R (some i) m1
structure SlX (X : CD) (d : D) (lo hi : Option Int) (m : Led) (R : D → Led → Prop) : Prop where
  ex : ∃ r, SlR X r ∧ ∀ F H x, Den X.K F x d → AtX X F m H → r x lo hi H (PQ X.K F m H R)
theorem SlR.any {ι : Type} {r : ι → V → Option Int → Option Int → Hp → VK → Prop} {ok : ι → Prop} (h : ∀ i, ok i → SlR X (r i)) : SlR X (fun x lo hi H Q => ∃ i, ok i ∧ r i x lo hi H Q) := by
  intro pins s σ H x v vl vu lo hi sl Q I rx hs pl pu ⟨j, hj, q⟩
  exact h j hj pins s σ H x v vl vu lo hi sl Q I rx hs pl pu q
theorem x_slice {e : Expr} {lo hi : Option Expr} {ρ : Rn} {p2 pos : Pos} (h : EX X e ρ m fun d m1 => PX X lo ρ m1 fun l m2 => PX X hi ρ m2 fun u m3 => SlX X d l u m3 R) : EX X (.Subscript e (.Slice lo hi none p2) pos) ρ m R := .mk fun F σ H en at_ => by
  have po : ∀ o : Option Expr, ∃ t : TO, PO X o t ∧ ∀ {R' : Option Int → Led → Prop} {F σ H m}, PX X o ρ m R' → Env X F σ ρ → AtX X F m H → ∀ Q : Option Int → Hp → Prop, (∀ i F1 m1 H1, StepX X F m H F1 m1 H1 → Env X F1 σ ρ → R' i m1 → Q i H1) → t σ H Q := by
    intro o
    cases o with
    | none => exact ⟨_, po_none, fun h en at_ Q k => k none _ _ _ (StepX.refl at_) en h⟩
    | some e => exact ⟨_, po_some pe_SE, fun {R' F σ H m} h en at_ Q k => EX.go (Q := fun x H1 => ∃ i, x = .int i ∧ Q (some i) H1) h en at_ fun v d F1 m1 H1 s1 en1 q ⟨i, ed, r⟩ => by
        subst ed
        exact ⟨i, q.int_inv, k (some i) F1 m1 H1 s1 en1 r⟩⟩
  obtain ⟨tl, pl, kl⟩ := po lo
  obtain ⟨th, ph, kh⟩ := po hi
  refine SE.of (pe_slice (SlR.any (ι := V → Option Int → Option Int → Hp → VK → Prop) (r := fun r => r) (ok := fun r => SlR X r) fun r hr => hr) (pe_SE (e := e)) pl ph) ?_
  refine h.go en at_ fun v d F1 m1 H1 s1 en1 q r => ?_
  refine kl r en1 s1.at2 _ fun l F2 m2 H2 s2 en2 r2 => ?_
  refine kh r2 en2 s2.at2 _ fun u F3 m3 H3 s3 en3 ⟨⟨rr, hr, r3⟩⟩ => ?_
  refine ⟨fun x lo hi H Q => ∃ Q', rr x lo hi H Q' ∧ ∀ v H', Q' v H' → Q v H', ?_, _, r3 F3 H3 v (q.mono (s2.ex.trans s3.ex)) s3.at2, fun v H' k => PQ.step (s1.trans (s2.trans s3)) k⟩
  intro pins s σ H x v vl vu lo hi sl Q I rx hs pl pu ⟨Q', q1, q2⟩
  obtain ⟨ty, tid, h1, h2, h3⟩ := hr pins s σ H x v vl vu lo hi sl Q' I rx hs pl pu q1
  exact ⟨ty, tid, h1, h2, thn h3 fun w s3 ⟨v3, H3, I3, r3, k⟩ => ⟨v3, H3, I3, r3, q2 v3 H3 k⟩⟩
def cutD (xs : List D) (lo hi : Option Int) : List D := (xs.drop (HT.sIx xs.length 0 lo)).take (HT.sIx xs.length xs.length hi - HT.sIx xs.length 0 lo)
theorem Dens.cut {K : Frag} {F : Hp} {xs : List V} {ds : List D} (h : Dens K F xs ds) (lo hi : Option Int) : Dens K F (cutV xs lo hi) (cutD ds lo hi) := by
  unfold cutV cutD
  rw [h.length]
  exact (h.drop _).take _
theorem sl_lst {lo hi : Option Int} {ds : List D} (h : LstV m d1 ds) (k : R (.lst (cutD ds lo hi)) m) : SlX X d1 lo hi m R := .mk ⟨_, sl_list, fun F H x q at_ => by
  obtain ⟨p, xs, rfl, e1, s1⟩ := h.read at_.toAt q
  exact ⟨p, xs, rfl, .inl e1, fun l hl => new_lst at_ hl (s1.cut lo hi) k⟩⟩
theorem sl_tupD {lo hi : Option Int} {ds : List D} (hw : ¬ (HT.sIx ds.length 0 lo = 0 ∧ HT.sIx ds.length ds.length hi = ds.length)) (k : R (.tup (cutD ds lo hi)) m) : SlX X (.tup ds) lo hi m R := .mk ⟨_, sl_tup, fun F H x q at_ => by
  obtain ⟨p, xs, rfl, e1, s1⟩ := tup_read at_.toAt q
  exact ⟨p, xs, rfl, e1, by rw [s1.length]; exact hw, fun l hl => new_tup at_ hl (s1.cut lo hi) k⟩⟩
end
end DL

namespace DL
open PySem PySem.Spec PyProof.Rows L2

/-! ### data as the library's data, == -/
mutual
def py : D → PyData
  | .non => .none | .bl b => .bool b | .int i => .int i | .str x => .str x
  | .lst xs => .list (pys xs) | .tup xs => .tuple (pys xs)
  | .ty _ => .none | .lsk _ => .none | .dT _ _ => .none | .dK _ _ => .none | .obj _ _ _ => .none | .ref _ => .none | .exc _ _ _ _ => .none
def pys : List D → List PyData
  | [] => []
  | x :: xs => py x :: pys xs
end
/-- plain data of depth at most n; no bools in NB -/
def Sh : Nat → D → Prop
  | _, .non => True
  | _, .bl _ => True
  | _, .int _ => True
  | _, .str _ => True
  | n + 1, .lst xs => ∀ x ∈ xs, Sh n x
  | n + 1, .tup xs => ∀ x ∈ xs, Sh n x
  | _, _ => False
def NB : Nat → D → Prop
  | _, .non => True
  | _, .int _ => True
  | _, .str _ => True
  | n + 1, .lst xs => ∀ x ∈ xs, NB n x
  | n + 1, .tup xs => ∀ x ∈ xs, NB n x
  | _, _ => False
theorem NB.sh : ∀ {n : Nat} {d : D}, NB n d → Sh n d
  | n, .non, _ => by cases n <;> trivial
  | n, .int _, _ => by cases n <;> trivial
  | n, .str _, _ => by cases n <;> trivial
  | n + 1, .lst xs, h => fun x hx => NB.sh (h x hx)
  | n + 1, .tup xs, h => fun x hx => NB.sh (h x hx)
  | 0, .lst _, h => h.elim
  | 0, .tup _, h => h.elim
  | n, .bl _, h => by cases n <;> exact h.elim
  | n, .ty _, h => by cases n <;> exact h.elim
  | n, .dT _ _, h => by cases n <;> exact h.elim
  | n, .lsk _, h => by cases n <;> exact h.elim
  | n, .dK _ _, h => by cases n <;> exact h.elim
  | n, .obj _ _ _, h => by cases n <;> exact h.elim
  | n, .ref _, h => by cases n <;> exact h.elim
  | n, .exc _ _ _ _, h => by cases n <;> exact h.elim
theorem pys_ok {n : Nat} (ih : ∀ d, Sh n d → (py d).plain = true ∧ (py d).depth ≤ n) : ∀ xs : List D, (∀ x ∈ xs, Sh n x) → PyData.plainAll (pys xs) = true ∧ PyData.depthAll (pys xs) ≤ n
  | [], _ => ⟨rfl, Nat.zero_le _⟩
  | x :: xs, h => by
    obtain ⟨a, b⟩ := ih x (h x List.mem_cons_self)
    obtain ⟨c, e⟩ := pys_ok ih xs fun y hy => h y (List.mem_cons_of_mem _ hy)
    exact ⟨by simp only [pys, PyData.plainAll, a, c, Bool.and_self], by simp only [pys, PyData.depthAll]; omega⟩
theorem Sh.ok : ∀ (n : Nat) (d : D), Sh n d → (py d).plain = true ∧ (py d).depth ≤ n
  | n, .non, _ => ⟨rfl, by simp [py, PyData.depth]⟩
  | n, .bl _, _ => ⟨rfl, by simp [py, PyData.depth]⟩
  | n, .int _, _ => ⟨rfl, by simp [py, PyData.depth]⟩
  | n, .str _, _ => ⟨rfl, by simp [py, PyData.depth]⟩
  | n + 1, .lst xs, h => by
    obtain ⟨a, b⟩ := pys_ok (Sh.ok n) xs h
    exact ⟨by simp only [py, PyData.plain, a], by simp only [py, PyData.depth]; omega⟩
  | n + 1, .tup xs, h => by
    obtain ⟨a, b⟩ := pys_ok (Sh.ok n) xs h
    exact ⟨by simp only [py, PyData.plain, a], by simp only [py, PyData.depth]; omega⟩
  | 0, .lst _, h => h.elim
  | 0, .tup _, h => h.elim
  | n, .ty _, h => by cases n <;> exact h.elim
  | n, .dT _ _, h => by cases n <;> exact h.elim
  | n, .lsk _, h => by cases n <;> exact h.elim
  | n, .dK _ _, h => by cases n <;> exact h.elim
  | n, .obj _ _ _, h => by cases n <;> exact h.elim
  | n, .ref _, h => by cases n <;> exact h.elim
  | n, .exc _ _ _ _, h => by cases n <;> exact h.elim
theorem pys_eqv {n k : Nat} (ih : ∀ a b, NB n a → NB k b → (PyData.eqv (py a) (py b) = true ↔ a = b)) : ∀ xs ys : List D, (∀ x ∈ xs, NB n x) → (∀ x ∈ ys, NB k x) → (PyData.eqvAll (pys xs) (pys ys) = true ↔ xs = ys)
  | [], [], _, _ => by simp [pys, PyData.eqvAll]
  | [], _ :: _, _, _ => by simp [pys, PyData.eqvAll]
  | _ :: _, [], _, _ => by simp [pys, PyData.eqvAll]
  | x :: xs, y :: ys, h, h' => by
    have a := ih x y (h x List.mem_cons_self) (h' y List.mem_cons_self)
    have b := pys_eqv ih xs ys (fun z hz => h z (List.mem_cons_of_mem _ hz)) fun z hz => h' z (List.mem_cons_of_mem _ hz)
    simp only [pys, PyData.eqvAll, Bool.and_eq_true, a, b, List.cons.injEq]
theorem eqv_iff : ∀ (n k : Nat) (a b : D), NB n a → NB k b → (PyData.eqv (py a) (py b) = true ↔ a = b) := by
  intro n
  induction n with
  | zero =>
    intro k a b ha hb
    cases a <;> first | exact ha.elim | (cases b <;> first | (cases k <;> exact hb.elim) | simp [py, PyData.eqv])
  | succ n ih =>
    intro k a b ha hb
    cases a with
    | lst xs =>
      cases b with
      | lst ys =>
        cases k with
        | zero => exact hb.elim
        | succ k =>
          have := pys_eqv (fun a b => ih k a b) xs ys ha hb
          simp only [py, PyData.eqv, this, D.lst.injEq]
      | _ => first | (cases k <;> exact hb.elim) | simp [py, PyData.eqv]
    | tup xs =>
      cases b with
      | tup ys =>
        cases k with
        | zero => exact hb.elim
        | succ k =>
          have := pys_eqv (fun a b => ih k a b) xs ys ha hb
          simp only [py, PyData.eqv, this, D.tup.injEq]
      | _ => first | (cases k <;> exact hb.elim) | simp [py, PyData.eqv]
    | _ => first | exact ha.elim | (cases b <;> first | (cases k <;> exact hb.elim) | simp [py, PyData.eqv])
/-- True, False in lists -/
theorem eqv_bls : ∀ (xs ys : List Bool), (PyData.eqvAll (pys (xs.map D.bl)) (pys (ys.map D.bl)) = true ↔ xs = ys)
  | [], [] => by simp [pys, PyData.eqvAll]
  | [], _ :: _ => by simp [pys, PyData.eqvAll]
  | _ :: _, [] => by simp [pys, PyData.eqvAll]
  | x :: xs, y :: ys => by
    have b := eqv_bls xs ys
    simp only [List.map_cons, pys, py, PyData.eqvAll, PyData.eqv, Bool.and_eq_true, b, List.cons.injEq, beq_iff_eq]
theorem dp_all {K : Frag} {F : Hp} {n : Nat} (ih : ∀ d v, Sh n d → Den K F v d → Dp K F v (py d)) : ∀ (ds : List D) (vs : List V), (∀ x ∈ ds, Sh n x) → Dens K F vs ds → DpAll K F vs (pys ds)
  | [], _, _, .nil => .nil
  | d :: ds, _, h, .cons q qs => .cons (ih d _ (h d List.mem_cons_self) q) (dp_all ih ds _ (fun x hx => h x (List.mem_cons_of_mem _ hx)) qs)
theorem Den.dp {K : Frag} {F : Hp} : ∀ (n : Nat) (d : D) (v : V), Sh n d → Den K F v d → Dp K F v (py d)
  | n, .non, _, _, .non => .non
  | n, .bl _, _, _, .bl b => .bl b
  | n, .int _, _, _, .int i => .int i
  | n, .str _, _, _, .str x => .str x
  | n + 1, .lst ds, _, h, .lst q qs => .lst (.inl q) (dp_all (fun d v => Den.dp n d v) ds _ h qs)
  | n + 1, .tup ds, _, h, .tup q qs => .tup q (dp_all (fun d v => Den.dp n d v) ds _ h qs)
  | 0, .lst _, _, h, _ => h.elim
  | 0, .tup _, _, h, _ => h.elim
  | n, .ty _, _, h, _ => by cases n <;> exact h.elim
  | n, .dT _ _, _, h, _ => by cases n <;> exact h.elim
  | n, .lsk _, _, h, _ => by cases n <;> exact h.elim
  | n, .dK _ _, _, h, _ => by cases n <;> exact h.elim
  | n, .obj _ _ _, _, h, _ => by cases n <;> exact h.elim
  | n, .ref _, _, h, _ => by cases n <;> exact h.elim
  | n, .exc _ _ _ _, _, h, _ => by cases n <;> exact h.elim
mutual
theorem Dp.up {K : Frag} {F H : Hp} (e : Ex F H) : ∀ {v : V} {d : PyData}, Dp K F v d → Dp K H v d
  | _, _, .non => .non
  | _, _, .bl b => .bl b
  | _, _, .int i => .int i
  | _, _, .str x => .str x
  | _, _, .lst h hs => .lst (e.sqL h) (DpAll.up e hs)
  | _, _, .tup h hs => .tup (e.sqT h) (DpAll.up e hs)
theorem DpAll.up {K : Frag} {F H : Hp} (e : Ex F H) : ∀ {v : List V} {d : List PyData}, DpAll K F v d → DpAll K H v d
  | _, _, .nil => .nil
  | _, _, .cons h hs => .cons (Dp.up e h) (DpAll.up e hs)
end
/-- data seen through the ledger -/
def DV (m : Led) (d d' : D) : Prop := d = d' ∨ ∃ (i : Nat) (a : Addr) (ds : List D), d = .ref a ∧ m[i]? = some (a, .lst ds) ∧ d' = .lst ds
theorem DV.dp {K : Frag} {F H : Hp} {m : Led} {d d' : D} {v : V} {n : Nat} (h : DV m d d') (hs : Sh n d') (at_ : At K F m H) (q : Den K F v d) : Dp K H v (py d') := by
  rcases h with rfl | ⟨i, a, ds, rfl, hi, rfl⟩
  · exact Dp.up at_.sub (q.dp n _ _ hs)
  · cases q
    obtain ⟨hh, ⟨xs, rfl, qs⟩, e⟩ := at_.get hi
    cases n with
    | zero => exact hs.elim
    | succ n => exact .lst (.inl (.inl e)) (DpAll.up at_.sub (dp_all (fun d v => Den.dp n d v) ds _ hs qs))
section
variable {X : CD} {d1 d2 e1 e2 : D} {m : Led} {R : D → Led → Prop}
def rEqP (K : Frag) : R2 := fun x y H Q => ∃ d e, Dp K H x d ∧ Dp K H y e ∧ d.plain = true ∧ e.plain = true ∧ d.depth ≤ 64 ∧ Q (.bl (PyData.eqv d e)) H
def rNeP (K : Frag) : R2 := fun x y H Q => ∃ d e, Dp K H x d ∧ Dp K H y e ∧ d.plain = true ∧ e.plain = true ∧ d.depth ≤ 64 ∧ Q (.bl (!PyData.eqv d e)) H
theorem op_eqP (hu : X.A.units + 64 < cLine) : OpR X (compareOp .Eq) (rEqP X.K) := by
  intro pins s σ H x y v u Q I rx ry h
  obtain ⟨d, e, hd, he, pd, pe, hz, q⟩ := h
  obtain ⟨as, r1⟩ := Dp.reads I d x v hd rx
  obtain ⟨bs, r2⟩ := Dp.reads I e y u he ry
  have : min d.depth e.depth ≤ d.depth := Nat.min_le_left _ _
  exact SeqAt.eq_plain r1 r2 pd pe (by omega) ⟨.bl _, H, I, rfl, q⟩
theorem op_neP (hu : X.A.units + 64 < cLine) : OpR X (compareOp .NotEq) (rNeP X.K) := by
  intro pins s σ H x y v u Q I rx ry h
  obtain ⟨d, e, hd, he, pd, pe, hz, q⟩ := h
  obtain ⟨as, r1⟩ := Dp.reads I d x v hd rx
  obtain ⟨bs, r2⟩ := Dp.reads I e y u he ry
  have : min d.depth e.depth ≤ d.depth := Nat.min_le_left _ _
  exact SeqAt.ne_plain r1 r2 pd pe (by omega) ⟨.bl _, H, I, rfl, q⟩
theorem o_eqP (hu : X.A.units + 64 < cLine) (h1 : DV m d1 e1) (h2 : DV m d2 e2) (s1 : Sh 20 e1) (s2 : Sh 20 e2) (k : R (.bl (PyData.eqv (py e1) (py e2))) m) : OX X (compareOp .Eq) d1 d2 m R := OX.of (op_eqP hu) fun F H x y q1 q2 at_ =>
  ⟨_, _, h1.dp s1 at_ q1, h2.dp s2 at_ q2, (s1.ok).1, (s2.ok).1, Nat.le_trans (s1.ok).2 (by decide), PQ.now at_ (.bl _) k⟩
theorem o_neP (hu : X.A.units + 64 < cLine) (h1 : DV m d1 e1) (h2 : DV m d2 e2) (s1 : Sh 20 e1) (s2 : Sh 20 e2) (k : R (.bl (!PyData.eqv (py e1) (py e2))) m) : OX X (compareOp .NotEq) d1 d2 m R := OX.of (op_neP hu) fun F H x y q1 q2 at_ =>
  ⟨_, _, h1.dp s1 at_ q1, h2.dp s2 at_ q2, (s1.ok).1, (s2.ok).1, Nat.le_trans (s1.ok).2 (by decide), PQ.now at_ (.bl _) k⟩
/-- without bools: the answer is whether the data are the same -/
theorem o_eqD (hu : X.A.units + 64 < cLine) (h1 : DV m d1 e1) (h2 : DV m d2 e2) (s1 : NB 20 e1) (s2 : NB 20 e2) (k : ∀ b : Bool, (b = true ↔ e1 = e2) → R (.bl b) m) : OX X (compareOp .Eq) d1 d2 m R :=
  o_eqP hu h1 h2 s1.sh s2.sh (k _ (eqv_iff 20 20 _ _ s1 s2))
theorem o_neD (hu : X.A.units + 64 < cLine) (h1 : DV m d1 e1) (h2 : DV m d2 e2) (s1 : NB 20 e1) (s2 : NB 20 e2) (k : ∀ b : Bool, (b = true ↔ e1 = e2) → R (.bl (!b)) m) : OX X (compareOp .NotEq) d1 d2 m R :=
  o_neP hu h1 h2 s1.sh s2.sh (k _ (eqv_iff 20 20 _ _ s1 s2))
end

/-! ### built-in calls -/
section
variable {X : CD} {a b e : Expr} {es : List Expr} {ρ : Rn} {m : Led} {R : D → Led → Prop} {x : Str} {p pos : Pos} {d d1 d2 : D} {i j : Int}
theorem x_cb {id : String} (h : AX X (e :: es) ρ m fun ds m1 => BX X (.builtin id) ds m1 R) (hm : X.mg x = none) (hv : bootBuiltins x = some (.builtin id) := by decide +kernel) (hg : Gl X x := by rfl) (hn : x ≠ "__name__" := by decide) (hdb : (x == ("__debug__" : Str)) = false := by decide)
    (he : starEach (e :: es) X.env = (false, eval e X.env) :: starEach es X.env := by rfl) (hpl : (backTo pos (starEach es X.env)).any (·.1) = false := by rfl) : EX X (.Call (.Name x p) (e :: es) [] pos) ρ m R := .mk fun F σ H en at_ => by
  intro pins s I
  refine wpAny_Call_Name_kw (ld_blt I hg hm hv ?_ hn hdb)
  refine PyProof.Rows.callWith_builtin1 (thn (h.run F σ H en at_ pos pins s I) fun us s1 ⟨vs, H1, I1, r1, ds, F1, m1, st, q, k⟩ => ?_) he hpl
  exact thn (BX.run k F1 σ H1 vs pins s1 us q (at_.to st) I1 r1) fun w s3 ⟨v3, H3, I3, r3, k⟩ => ⟨v3, H3, I3, r3, PQ.step st k⟩
theorem x_ct {T : String} (h : AX X (e :: es) ρ m fun ds m1 => BX X (.type T) ds m1 R) (hm : X.mg x = none) (hv : bootBuiltins x = some (.type T) := by decide +kernel) (hg : Gl X x := by rfl) (hn : x ≠ "__name__" := by decide) (hdb : (x == ("__debug__" : Str)) = false := by decide)
    (he : starEach (e :: es) X.env = (false, eval e X.env) :: starEach es X.env := by rfl) (hpl : (backTo pos (starEach es X.env)).any (·.1) = false := by rfl) : EX X (.Call (.Name x p) (e :: es) [] pos) ρ m R := .mk fun F σ H en at_ => by
  intro pins s I
  refine wpAny_Call_Name_kw (ld_blt I hg hm hv ?_ hn hdb)
  refine PyProof.Rows.callWith_type1 (thn (h.run F σ H en at_ pos pins s I) fun us s1 ⟨vs, H1, I1, r1, ds, F1, m1, st, q, k⟩ => ?_) he hpl
  exact thn (BX.run k F1 σ H1 vs pins s1 us q (at_.to st) I1 r1) fun w s3 ⟨v3, H3, I3, r3, k⟩ => ⟨v3, H3, I3, r3, PQ.step st k⟩
theorem Dens.one {K : Frag} {F : Hp} {xs : List V} (h : Dens K F xs [d]) : ∃ v, xs = [v] ∧ Den K F v d := by cases h with | cons a b => cases b; exact ⟨_, rfl, a⟩
theorem Dens.two {K : Frag} {F : Hp} {xs : List V} (h : Dens K F xs [d1, d2]) : ∃ v w, xs = [v, w] ∧ Den K F v d1 ∧ Den K F w d2 := by
  cases h with
  | cons a b => cases b with | cons c e => cases e; exact ⟨_, _, rfl, a, c⟩
theorem b_len {ds : List D} (h : LstV m d ds) (k : R (.int ds.length) m) : BX X (.builtin "len") [d] m R := BX.of call_len_seq fun F H xs qs at_ => by
  obtain ⟨v, rfl, q⟩ := qs.one
  obtain ⟨p, ys, rfl, e1, s1⟩ := h.read at_.toAt q
  exact ⟨p, ys, rfl, .inl (.inl e1), by rw [s1.length]; exact PQ.now at_ (.int _) k⟩
theorem b_lenT {ds : List D} (k : R (.int ds.length) m) : BX X (.builtin "len") [.tup ds] m R := BX.of call_len_seq fun F H xs qs at_ => by
  obtain ⟨v, rfl, q⟩ := qs.one
  obtain ⟨p, ys, rfl, e1, s1⟩ := tup_read at_.toAt q
  exact ⟨p, ys, rfl, .inr e1, by rw [s1.length]; exact PQ.now at_ (.int _) k⟩
theorem b_lenS {z : Str} (hz : z.length ≤ 100000) (k : R (.int z.length) m) : BX X (.builtin "len") [.str z] m R := BX.of call_len_str fun F H xs qs at_ => by
  obtain ⟨v, rfl, q⟩ := qs.one
  exact ⟨z, by rw [q.str_inv], lenOk hz, PQ.now at_ (.int _) k⟩
theorem b_abs (k : R (.int (i.natAbs : Int)) m) : BX X (.builtin "abs") [.int i] m R := BX.of call_abs fun F H xs qs at_ => by
  obtain ⟨v, rfl, q⟩ := qs.one
  refine ⟨i, by rw [q.int_inv], ?_⟩
  have e : (if i < 0 then -i else i) = (i.natAbs : Int) := by split <;> omega
  rw [e]
  exact PQ.now at_ (.int _) k
theorem b_max2 (k : R (.int (max i j)) m) (hc : X.calm = true := by rfl) : BX X (.builtin "max") [.int i, .int j] m R := BX.of (call_max2 hc) fun F H xs qs at_ => by
  obtain ⟨v, w, rfl, q1, q2⟩ := qs.two
  refine ⟨i, j, by rw [q1.int_inv, q2.int_inv], ?_⟩
  have e : (if j > i then j else i) = max i j := by split <;> omega
  rw [e]
  exact PQ.now at_ (.int _) k
theorem b_min2 (k : R (.int (min i j)) m) (hc : X.calm = true := by rfl) : BX X (.builtin "min") [.int i, .int j] m R := BX.of (call_min2 hc) fun F H xs qs at_ => by
  obtain ⟨v, w, rfl, q1, q2⟩ := qs.two
  refine ⟨i, j, by rw [q1.int_inv, q2.int_inv], ?_⟩
  have e : (if j < i then j else i) = min i j := by split <;> omega
  rw [e]
  exact PQ.now at_ (.int _) k
theorem b_int (k : R (.int i) m) : BX X (.type "int") [.int i] m R := BX.of call_int1 fun F H xs qs at_ => by
  obtain ⟨v, rfl, q⟩ := qs.one
  exact .inl ⟨i, by rw [q.int_inv], PQ.now at_ (.int _) k⟩
theorem b_intB {c : Bool} (k : R (.int (if c then 1 else 0)) m) : BX X (.type "int") [.bl c] m R := BX.of call_int1 fun F H xs qs at_ => by
  obtain ⟨v, rfl, q⟩ := qs.one
  exact .inr ⟨c, by rw [q.bl_inv], PQ.now at_ (.int _) k⟩
theorem b_list {ds : List D} (h : LstV m d ds) (k : R (.lst ds) m) : BX X (.type "list") [d] m R := BX.of call_list_of fun F H xs qs at_ => by
  obtain ⟨v, rfl, q⟩ := qs.one
  obtain ⟨p, ys, rfl, e1, s1⟩ := h.read at_.toAt q
  exact ⟨p, ys, rfl, .inl (.inl e1), fun l hl => new_lst at_ hl s1 k⟩
theorem b_listM {ds : List D} (h : LstV m d ds) (k : ∀ p, R (.ref p) (m ++ [(p, .lst ds)])) : BX X (.type "list") [d] m R := BX.of call_list_of fun F H xs qs at_ => by
  obtain ⟨v, rfl, q⟩ := qs.one
  obtain ⟨p, ys, rfl, e1, s1⟩ := h.read at_.toAt q
  exact ⟨p, ys, rfl, .inl (.inl e1), fun l hl => new_lstM at_ hl s1 k⟩
theorem b_listK {ds : List D} (k : R (.lst ds) m) : BX X (.type "list") [.lsk ds] m R := BX.of call_list_of fun F H xs qs at_ => by
  obtain ⟨v, rfl, q⟩ := qs.one
  cases q with
  | lsk h hs => exact ⟨_, _, rfl, .inl (at_.sub.sqL h), fun l hl => new_lst at_ hl hs k⟩
theorem b_listT {ds : List D} (k : R (.lst ds) m) : BX X (.type "list") [.tup ds] m R := BX.of call_list_of fun F H xs qs at_ => by
  obtain ⟨v, rfl, q⟩ := qs.one
  obtain ⟨p, ys, rfl, e1, s1⟩ := tup_read at_.toAt q
  exact ⟨p, ys, rfl, .inr e1, fun l hl => new_lst at_ hl s1 k⟩
theorem b_tuple {ds : List D} (h : LstV m d ds) (k : R (.tup ds) m) : BX X (.type "tuple") [d] m R := BX.of call_tuple_of fun F H xs qs at_ => by
  obtain ⟨v, rfl, q⟩ := qs.one
  obtain ⟨p, ys, rfl, e1, s1⟩ := h.read at_.toAt q
  exact ⟨p, ys, rfl, .inl ⟨.inl e1, fun l hl => new_tup at_ hl s1 k⟩⟩
theorem b_tupleT {ds : List D} (k : R (.tup ds) m) : BX X (.type "tuple") [.tup ds] m R := BX.of call_tuple_of fun F H xs qs at_ => by
  obtain ⟨v, rfl, q⟩ := qs.one
  obtain ⟨p, ys, rfl, e1, s1⟩ := tup_read at_.toAt q
  exact ⟨p, ys, rfl, .inr ⟨e1, PQ.now at_ q k⟩⟩
theorem b_sum {ns : List Int} (h : LstV m d (ns.map D.int)) (k : R (.int ns.sum) m) (hc : X.calm = true := by rfl) : BX X (.builtin "sum") [d] m R := BX.of (cr_sum hc) fun F H xs qs at_ => by
  obtain ⟨v, rfl, q⟩ := qs.one
  obtain ⟨p, ys, rfl, e1, s1⟩ := h.read at_.toAt q
  exact ⟨p, ns, rfl, by rw [← s1.ints]; exact .inl e1, PQ.now at_ (.int _) k⟩
theorem b_all {bs : List Bool} (h : LstV m d (bs.map D.bl)) (k : R (.bl (bs.all id)) m) (hc : X.calm = true := by rfl) : BX X (.builtin "all") [d] m R := BX.of (cr_all hc) fun F H xs qs at_ => by
  obtain ⟨v, rfl, q⟩ := qs.one
  obtain ⟨p, ys, rfl, e1, s1⟩ := h.read at_.toAt q
  exact ⟨p, bs, rfl, by rw [← s1.bls]; exact .inl e1, PQ.now at_ (.bl _) k⟩
theorem b_any {bs : List Bool} (h : LstV m d (bs.map D.bl)) (k : R (.bl (bs.any id)) m) (hc : X.calm = true := by rfl) : BX X (.builtin "any") [d] m R := BX.of (cr_any hc) fun F H xs qs at_ => by
  obtain ⟨v, rfl, q⟩ := qs.one
  obtain ⟨p, ys, rfl, e1, s1⟩ := h.read at_.toAt q
  exact ⟨p, bs, rfl, by rw [← s1.bls]; exact .inl e1, PQ.now at_ (.bl _) k⟩
/-! isinstance -/
def tyD : D → Option String
  | .non => some "NoneType" | .bl _ => some "bool" | .int _ => some "int" | .str _ => some "str" | .lst _ => some "list" | .tup _ => some "tuple" | _ => none
theorem Den.tyx {K : Frag} {F H : Hp} {m : Led} {v : V} {d : D} {t : String} (at_ : At K F m H) (q : Den K F v d) (h : tyD d = some t) : TyX K H v (.type t) := by
  cases q <;> simp only [tyD, Option.some.injEq, reduceCtorEq] at h <;> subst h
  · exact .base .non
  · exact .base (.bl _)
  · exact .base (.int _)
  · exact .base (.str _)
  · rename_i h1 _
    rcases at_.sub.rd h1 with h1 | ⟨o, h1⟩
    · exact .base (.lst h1)
    · exact .base (.frz h1)
  · rename_i h1 _
    rcases at_.sub.sqT h1 with (h1 | ⟨o, h1⟩) | ⟨o, its, n, e, c, _⟩
    · exact .base (.tup h1)
    · exact .fTuple h1
    · exact .kTuple e c
theorem b_isi {t n : String} {c : Bool} (ht : tyD d = some t) (hk : kitB t n = some c) (k : R (.bl c) m) : BX X (.builtin "isinstance") [d, .ty n] m R := BX.of call_isi fun F H xs qs at_ => by
  obtain ⟨v, w, rfl, q1, q2⟩ := qs.two
  cases q2
  exact ⟨v, .ty n, _, _, c, rfl, .ty n, q1.tyx at_.toAt ht, kit_ty hk, PQ.now at_ (.bl _) k⟩
end
end DL

namespace DL
open PySem PySem.Spec PyProof.Rows L2

/-! ### steps about an object that is neither frozen nor in the ledger -/
section
variable {K : Frag} {F F2 H H2 : Hp} {m m2 : Led} {p : Addr} {o : HO}
theorem At.notkey (a : At K F m H) (h : H p = none) : p ∉ keys m := fun z => by
  obtain ⟨q, hq, e⟩ := List.mem_map.mp z
  obtain ⟨hh, _, e2⟩ := a.led q hq
  rw [e, h] at e2; cases e2
theorem At.poke (a : At K F m H) (hF : F p = none) (hk : p ∉ keys m) : At K F m (upd H p o) :=
  ⟨fun x u e => by rw [upd_ne (ne_of_none e hF)]; exact a.sub x u e, fun q hq => by
    obtain ⟨hh, e1, e2⟩ := a.led q hq
    exact ⟨hh, e1, by rw [upd_ne (fun z : q.1 = p => hk (z ▸ List.mem_map.mpr ⟨q, hq, rfl⟩))]; exact e2⟩, a.dis, a.nod⟩
theorem Step.poke (s : Step K F m H F2 m2 H2) (hp : H p = none) (hF : F2 p = none) (hk : p ∉ keys m2) : Step K F m H F2 m2 (upd H2 p o) :=
  ⟨s.at2.poke hF hk, s.ex, fun a u e n => by rw [upd_ne (ne_of_none e hp)]; exact s.keep a u e n, s.frF, s.frM⟩
theorem Step.take (s : Step K F m H F2 m2 H2) (hp : H p = none) (hF : F2 p = none) (hk : p ∉ keys m2) (ho : H2 p = some o) : Step K F m H (upd F2 p o) m2 H2 := by
  refine ⟨⟨fun x u e => ?_, fun q hq => ?_, fun q hq => ?_, s.at2.nod⟩, s.ex.trans (Ex.new hF), s.keep, fun x u e n => ?_, s.frM⟩
  · by_cases hx : x = p
    · subst hx; rw [upd_same] at e; cases e; exact ho
    · rw [upd_ne hx] at e; exact s.at2.sub x u e
  · obtain ⟨hh, e1, e2⟩ := s.at2.led q hq
    exact ⟨hh, e1.mono (Ex.new hF), e2⟩
  · rw [upd_ne (fun z : q.1 = p => hk (z ▸ List.mem_map.mpr ⟨q, hq, rfl⟩))]; exact s.at2.dis q hq
  · by_cases hx : x = p
    · subst hx; exact .inl hp
    · rw [upd_ne hx] at e; exact s.frF x u e n
/-- what stays of such an object through a step -/
theorem Step.stay (s : Step K F m H F2 m2 H2) (hF : F p = none) (hk : p ∉ keys m) (ho : H p = some o) : H2 p = some o ∧ F2 p = none ∧ p ∉ keys m2 := by
  refine ⟨s.keep p o ho hk, ?_, fun z => ?_⟩
  · cases e : F2 p with
    | none => rfl
    | some u =>
      rcases s.frF p u e hF with z | z
      · rw [ho] at z; cases z
      · exact absurd z hk
  · rcases s.frM p z with q | q
    · exact hk q
    · rw [ho] at q; cases q
theorem Step.keepM (s : Step K F m H F2 m2 H2) (h : m2.Sublist m2) : True := trivial
end

/-! ### calls of defs -/
abbrev SpD := List D → Led → (D → Led → Prop) → Prop
def lift (K : Frag) (sp : SpD) : Sp := fun vs H Q _ => ∃ F m ds R, Dens K F vs ds ∧ At K F m H ∧ sp ds m R ∧ ∀ d m2 v F2 H2, R d m2 → Step K F m H F2 m2 H2 → Den K F2 v d → Q v H2
/-- a def that stands in the module, by its promise -/
structure Knows (P : Program) (w : World) (K : Frag) (mg : Str → Option Value) (base : Heap) (k : Nat) (x : Str) (n : Nat) (sp : SpD) : Prop where
  fn : ∃ f fd ps, FnOk P w K mg base CX0 k f fd ps (lift K sp) ∧ mg x = some (.ref f) ∧ PySem.W.keepIn K (.ref f) = true ∧ Binds K fd ps [] ∧ ps.length = n
section
variable {X : CD} {e : Expr} {es : List Expr} {ρ : Rn} {m : Led} {R : D → Led → Prop} {x : Str} {p pos : Pos} {k n : Nat} {sp : SpD}
theorem x_call (G : Knows X.prog X.w X.K X.mg X.base k x n sp) (hr : Room k X.A) (h : AX X (e :: es) ρ m fun ds m1 => sp ds m1 R) (hg : Gl X x := by rfl)
    (hdb : (x == ("__debug__" : Str)) = false := by decide) (he : starEach (e :: es) X.env = (false, eval e X.env) :: starEach es X.env := by rfl) (hpl : (backTo pos (starEach es X.env)).any (·.1) = false := by rfl) :
    EX X (.Call (.Name x p) (e :: es) [] pos) ρ m R := .mk fun F σ H en at_ => by
  obtain ⟨f, fd, ps, FO, hm, hk, hb, hl⟩ := G.fn
  refine SE.of (pe_call FO hr hg hm hk hb .nil (E := E0) pass0 (pa_SA (es := e :: es)) hdb he hpl) ?_
  refine h.go en at_ fun vs ds F1 m1 H1 s1 en1 q r => ?_
  show lift X.K sp (vs ++ []) H1 _ _
  rw [List.append_nil]
  exact ⟨F1, m1, ds, R, q, s1.at2, r, fun d m2 v F2 H2 rd st qd => ⟨d, F2, m2, s1.trans st, qd, rd⟩⟩
theorem x_call0 (G : Knows X.prog X.w X.K X.mg X.base k x n sp) (hr : Room k X.A) (h : sp [] m R) (hg : Gl X x := by rfl)
    (hdb : (x == ("__debug__" : Str)) = false := by decide) : EX X (.Call (.Name x p) [] [] pos) ρ m R := .mk fun F σ H en at_ => by
  obtain ⟨f, fd, ps, FO, hm, hk, hb, hl⟩ := G.fn
  refine SE.of (pe_call0 FO hr hg hm hk hb .nil (E := E0) pass0 hdb) ?_
  exact ⟨F, m, [], R, .nil, at_, h, fun d m2 v F2 H2 rd st qd => ⟨d, F2, m2, st, qd, rd⟩⟩
end

/-! ### statements -/
section
variable {X : CD} {e c tg it : Expr} {es : List Expr} {st : Stmt} {sts a b body : List Stmt} {ρ : Rn} {m : Led} {E : EndsD} {x : Str} {pos pos' p : Pos} {i : Nat}
theorem s_nil (h : E.nx ρ m) : SX X [] ρ m E := .mk fun F σ H en at_ => SSs.of pss_nil ⟨ρ, F, m, Step.refl at_, en, h⟩
theorem s_cons (h : S1 X st ρ m { E with nx := fun ρ' m' => SX X sts ρ' m' E }) : SX X (st :: sts) ρ m E := .mk fun F σ H en at_ => by
  refine SSs.of (pss_cons ps_SS pss_SS) ?_
  refine (h.run F σ H en at_).mono (fun σ2 H2 ⟨ρ2, F2, m2, s2, en2, k⟩ => ?_) (fun _ _ q => q) (fun _ _ q => q) fun _ _ q => q
  exact SSs.step s2 (SX.run k F2 σ2 H2 en2 (at_.to s2))
theorem s_expr (h : EX X e ρ m fun _ m1 => E.nx ρ m1) (hs : swapsWith e none pos.line X.env = pure false := by rfl) : S1 X (.Expr e pos) ρ m E := .mk fun F σ H en at_ =>
  SS.of (ps_expr (pe_SE (e := e)) hs) (h.go en at_ fun v d F1 m1 H1 s1 en1 q r => ⟨ρ, F1, m1, s1, en1, r⟩)
theorem s_ret (h : EX X e ρ m E.rt) : S1 X (.Return (some e) pos) ρ m E := .mk fun F σ H en at_ => SS.of (ps_ret (pe_SE (e := e))) (h.run F σ H en at_)
theorem s_retN (h : E.rt .non m) : S1 X (.Return none pos) ρ m E := .mk fun F σ H en at_ => SS.of ps_retN (PQ.now at_ .non h)
theorem s_pass (h : E.nx ρ m) : S1 X (.Pass pos) ρ m E := .mk fun F σ H en at_ => SS.of ps_pass ⟨ρ, F, m, Step.refl at_, en, h⟩
theorem s_break (h : E.bk ρ m) : S1 X (.Break pos) ρ m E := .mk fun F σ H en at_ => SS.of ps_break ⟨ρ, F, m, Step.refl at_, en, h⟩
theorem s_continue (h : E.ct ρ m) : S1 X (.Continue pos) ρ m E := .mk fun F σ H en at_ => SS.of ps_continue ⟨ρ, F, m, Step.refl at_, en, h⟩
theorem s_if (h : TX X c ρ m fun k m1 => (k = true → SX X a ρ m1 E) ∧ (k = false → SX X b ρ m1 E)) : S1 X (.If c a b pos) ρ m E := .mk fun F σ H en at_ =>
  SS.of (ps_if (pt_ST (e := c)) (pss_SS (sts := a)) (pss_SS (sts := b))) (h.go en at_ fun k F1 m1 H1 s1 en1 r => by
    cases k with
    | true => exact SSs.step s1 ((r.1 rfl).run F1 σ H1 en1 s1.at2)
    | false => exact SSs.step s1 ((r.2 rfl).run F1 σ H1 en1 s1.at2))
theorem s_set (h : EX X e ρ m fun d m1 => ∃ i ρ', SetAt ρ i x d ρ' ∧ E.nx ρ' m1) (hx : Loc X.env.scope x := by first | exact Or.inl rfl | exact Or.inr rfl) (hs : swapsWith e (some (.Name x pos')) pos.line X.env = pure false := by rfl)
    (hf : X.fn x = true ∨ X.env.scope.names.lookup x = some .local := by first | exact .inl rfl | exact .inr rfl | assumption) : S1 X (.Assign [.Name x pos'] e pos) ρ m E := .mk fun F σ H en at_ => by
  intro pins s I
  refine wpAny_Assign_Name (thn (h.run F σ H en at_ pins s I) fun v s1 ⟨y, H1, I1, r1, d, F1, m1, st, q, i, ρ', hset, k⟩ => ?_) hs
  exact store_ok I1 en.nd (en.ix hset) hx r1 (fun s2 I2 => ⟨_, H1, I2, ρ', F1, m1, st, (en.mono st.ex).set hset q, k⟩) hf
/-- name = [..] by a comprehension on one line -/
theorem g_name {R : Rn → Led → Prop} {d : D} {ρ' : Rn} (hset : SetAt ρ i x d ρ') (k : R ρ' m) (hx : Loc X.env.scope x := by first | exact Or.inl rfl | exact Or.inr rfl) (hf : X.fn x = true ∨ X.env.scope.names.lookup x = some .local := by first | exact .inl rfl | exact .inr rfl | assumption) : GX X (.Name x pos) d ρ m R := .mk fun F σ H v en at_ q =>
  SG.of (pg_name en.nd (en.ix hset) hx hf) ⟨ρ', F, m, Step.refl at_, en.set hset q, k⟩
structure GsX (X : CD) (ts : List Expr) (ds : List D) (ρ : Rn) (m : Led) (R : Rn → Led → Prop) : Prop where
  ex : ∃ t, PGs X ts t ∧ ∀ F σ H vs, Env X F σ ρ → AtX X F m H → Dens X.K F vs ds → t vs σ H (PN X F m H R)
theorem gs_nil {R : Rn → Led → Prop} (k : R ρ m) : GsX X [] [] ρ m R := .mk ⟨_, pgs_nil, fun F σ H vs en at_ q => by cases q; exact ⟨rfl, ρ, F, m, Step.refl at_, en, k⟩⟩
theorem PGs.mono {ts : List Expr} {t : TGs} (h : PGs X ts t) : PGs X ts fun vs σ H Q => ∃ Q', t vs σ H Q' ∧ ∀ σ H, Q' σ H → Q σ H := ⟨fun pins s σ H vs us Q I r ⟨Q', q1, q2⟩ => thn (h.run pins s σ H vs us Q' I r q1) fun _ s' ⟨σ', H', I', k⟩ => ⟨σ', H', I', q2 _ _ k⟩⟩
theorem PGs.any {ts : List Expr} : PGs X ts fun vs σ H Q => ∃ t, PGs X ts t ∧ t vs σ H Q := ⟨fun pins s σ H vs us Q I r ⟨t, q1, q2⟩ => q1.run pins s σ H vs us Q I r q2⟩
theorem gs_cons {R : Rn → Led → Prop} {tg : Expr} {ts : List Expr} {d : D} {ds : List D} (h : GX X tg d ρ m fun ρ' m' => GsX X ts ds ρ' m' R) (hs : (assignEach (tg :: ts) X.env).map (·.2) = assign tg X.env :: (assignEach ts X.env).map (·.2) := by rfl) : GsX X (tg :: ts) (d :: ds) ρ m R :=
  .mk ⟨_, pgs_cons (pg_SG (tg := tg)) (PGs.mono PGs.any) hs, fun F σ H vs en at_ q => by
    cases q with
    | cons q1 q2 =>
      refine ⟨_, _, rfl, ?_⟩
      refine (h.run F σ H _ en at_ q1).mono fun σ2 H2 ⟨ρ2, F2, m2, s2, en2, ⟨t, pt, k⟩⟩ => ?_
      exact ⟨_, ⟨t, pt, k F2 σ2 H2 _ en2 (at_.to s2) (q2.mono s2.ex)⟩, fun _ _ z => PN.step s2 z⟩⟩
theorem g_tup {R : Rn → Led → Prop} {ts : List Expr} {ds : List D} {k : Nat} (h : GsX X ts ds ρ m R) (hc : X.calm = true := by rfl) (hn : (assignEach ts X.env).length = ds.length := by rfl) (hst : (assignEach ts X.env).findIdx? (·.1) = none := by rfl) : GX X (.Tuple ts k pos) (.tup ds) ρ m R := .mk fun F σ H v en at_ q => by
  obtain ⟨⟨t, pt, kk⟩⟩ := h
  obtain ⟨p, xs, rfl, e1, s1⟩ := tup_read at_.toAt q
  exact SG.of (pg_tup hc pt (n := ds.length) hn hst) ⟨p, xs, rfl, e1, s1.length, kk F σ H xs en at_ s1⟩
/-- target = value -/
theorem s_asg (h : EX X e ρ m fun d m1 => GX X tg d ρ m1 E.nx) (hs : swapsWithSole [tg] e pos.line X.env = pure false := by rfl) (hw : swappedStores [tg] e X.env = pure none := by rfl)
    (h1 : (assignEach [tg] X.env).map (·.2) = [assign tg X.env] := by rfl) : S1 X (.Assign [tg] e pos) ρ m E := .mk fun F σ H en at_ =>
  SS.of (ps_asg (pe_SE (e := e)) (pg_SG (tg := tg)) hs hw h1) (h.go en at_ fun v d F1 m1 H1 s1 en1 q r => (GX.run r F1 σ H1 v en1 s1.at2 q).mono fun _ _ k => PN.step s1 k)
/-- a, b = x, y -/
theorem s_par {y : Str} {a b : Expr} {px py pt pt2 : Pos} {kt k2 : Nat} (h : AX X [a, b] ρ m fun ds m1 => ∃ d1 d2 i j ρ1 ρ2, ds = [d1, d2] ∧ SetAt ρ i x d1 ρ1 ∧ SetAt ρ1 j y d2 ρ2 ∧ i ≠ j ∧ E.nx ρ2 m1)
    (hw : swappedStores [.Tuple [.Name x px, .Name y py] kt pt] (.Tuple [a, b] k2 pt2) X.env = pure (some [x, y]) := by rfl) (hx : X.env.scope.names.lookup x = some .local := by rfl) (hy : X.env.scope.names.lookup y = some .local := by rfl) (hc : X.calm = true := by rfl)
    (hs : swapsWithSole [.Tuple [.Name x px, .Name y py] kt pt] (.Tuple [a, b] k2 pt2) pos.line X.env = pure false := by rfl) :
    S1 X (.Assign [.Tuple [.Name x px, .Name y py] kt pt] (.Tuple [a, b] k2 pt2) pos) ρ m E := .mk fun F σ H en at_ => by
  intro pins s I
  rw [exec_Assign_arm]
  refine wpAny_bind (wpAny_standAt ?_)
  rw [hs]
  refine wpAny_bind (wpAny_pure ?_)
  rw [if_neg (by decide)]
  refine wpAny_bind (Tuple_ (thn (h.run F σ H en at_ _ pins s I) fun us s1 ⟨vs, H1, I1, r1, ds, F1, m1, st, qd, d1, d2, i, j, ρ1, ρ2, ed, hi, hj, hij, k⟩ => ?_))
  subst ed
  obtain ⟨v, w, rfl, q1, q2⟩ := qd.two
  obtain ⟨u1, u2, rfl, rv, rw'⟩ := vals2 r1
  refine wpAny_newObj_type ?_ (by show 2 ≤ sizeLine; decide)
  have I2 : Inv X pins σ H1 { s1 with heap := s1.heap.push { cls := .type "tuple", data := .seq [u1, u2].toArray } } := I1.kept (t' := s1.toks) fun b o e => Heap.get?_push_of_some _ e
  rw [hw]
  refine wpAny_bind (wpAny_pure ?_)
  show wpAny (model X.prog X.w) X.A (do rule "assign.swapped-stores"; let items ← unpackItems (.ref s1.heap.objs.size) 2 none; assignInOrder [fun v => bindName X.env y v, fun v => bindName X.env x v] items.reverse; pure Flow.next) _ _ _
  refine wpAny_bind (wpAny_rule (wpAny_bind (unpackItems_tuple (items := #[u1, u2]) (I.ok.hd hc) (IsTup.new s1.heap _) fun h' hx' => ?_)))
  have I3 := I2.kept (h' := h') (t' := s1.toks) fun b o e => hx' b o (Nat.ne_of_lt (Heap.lt_size e)) e
  show wpAny _ _ (assignInOrder [fun v => bindName X.env y v, fun v => bindName X.env x v] [u2, u1] >>= fun _ => pure Flow.next) _ _ _
  have en1 := en.mono st.ex
  have en2 := en1.set hi q1
  have en3 := en2.set hj q2
  refine wpAny_bind (assignInOrder_cons (wpAny_bindName (store_ok I3 en.nd (en2.ix hj) (.inl hy) rw' (fun s2 I4 => ?_) (.inr hy))))
  refine assignInOrder_cons (wpAny_bindName (store_ok I4 en.nd (en.ix hi) (.inl hx) rv (fun s3 I5 => assignInOrder_nil (wpAny_pure ?_)) (.inr hx)))
  rw [List.set_comm _ _ (Ne.symm hij)] at I5
  exact ⟨_, H1, I5, ρ2, F1, m1, st, en3, k⟩
/-- name op= e, of a name that holds an int -/
def IpX (X : CD) (op : Operator) (d1 d2 : D) (m : Led) (R : D → Led → Prop) : Prop := OX X (inplaceOp op) d1 d2 m R
theorem s_aug {op : Operator} {d0 : D} (hl : LookAt ρ i x d0) (h : EX X e ρ m fun d m1 => OX X (inplaceOp op) d0 d m1 fun z m2 => ∃ i ρ', SetAt ρ i x z ρ' ∧ E.nx ρ' m2) (hx : Loc X.env.scope x := by first | exact Or.inl rfl | exact Or.inr rfl) (hf : X.fn x = true ∨ X.env.scope.names.lookup x = some .local := by first | exact .inl rfl | exact .inr rfl | assumption) :
    S1 X (.AugAssign (.Name x pos') op e pos) ρ m E := .mk fun F σ H en at_ => by
  intro pins s I
  obtain ⟨hi, v, e1, q0⟩ := en.look hl
  obtain ⟨mm, hn, hlk⟩ := I.loc
  have vis : Vis X.env.scope x := by rcases hx with k | k; exact .inl k; exact .inr (.inl k)
  obtain ⟨u, r, l⟩ := hlk i x v hi e1 vis
  refine wpAny_AugAssign_Name ?_
  have go : wpAny (model X.prog X.w) X.A (eval e X.env) (fun w s₂ => wpAny (model X.prog X.w) X.A (inplaceOp op u w) (fun r s₃ => wpAny (model X.prog X.w) X.A (storeName X.env x r) (fun _ => SP X pins (ED X F m H E) .next) X.xe s₃) X.xe s₂) X.xe s := by
    refine thn (h.run F σ H en at_ pins s I) fun w s1 ⟨y, H1, I1, r1, d, F1, m1, st, q, k⟩ => ?_
    refine thn (OX.run k F1 σ H1 v y pins s1 u w (q0.mono st.ex) q (at_.to st) I1 r r1) fun z s2 ⟨zv, H2, I2, r2, dz, F2, m2, st2, q2, j, ρ', hset, kk⟩ => ?_
    exact store_ok I2 en.nd (en.ix hset) hx r2 (fun s3 I3 => ⟨_, H2, I3, ρ', F2, m2, st.trans st2, (en.mono (st.ex.trans st2.ex)).set hset q2, kk⟩) hf
  rcases l with ⟨hk, hm⟩ | ⟨hk, c, hc, hcell⟩
  · exact wpAny_loadName_local I.ok.kind hk hn hm go
  · rcases hk with hk | hk
    · exact wpAny_loadName_cell I.ok.kind hk hc hcell go
    · rcases hx with k | k
      · have : X.env.scope.names.lookup x = some .free := hk
        rw [k] at this; cases this
      · have : X.env.scope.names.lookup x = some .free := hk
        rw [k] at this; cases this
theorem o_iadd {R : D → Led → Prop} {i j : Int} (k : R (.int (i + j)) m) : OX X (inplaceOp .Add) (.int i) (.int j) m R := OX.i0 iop_add (fun _ => .int _) k
theorem o_isub {R : D → Led → Prop} {i j : Int} (k : R (.int (i - j)) m) : OX X (inplaceOp .Sub) (.int i) (.int j) m R := OX.i0 iop_sub (fun _ => .int _) k
/-- o[i] = v -/
structure StX (X : CD) (d1 d2 d3 : D) (m : Led) (R : Led → Prop) : Prop where
  ex : ∃ t : TSet, PSet X t ∧ ∀ F H o i v, Den X.K F o d1 → Den X.K F i d2 → Den X.K F v d3 → AtX X F m H → t o i v H fun H2 => ∃ F2 m2, Step X.K F m H F2 m2 H2 ∧ R m2
theorem PSet.any : PSet X fun o i v H Q => ∃ (t : TSet) (Q' : Hp → Prop), PSet X t ∧ t o i v H Q' ∧ ∀ H', Q' H' → Q H' := fun pins s σ H o i v ov iv u Q I r1 r2 r3 ⟨t, Q', pt, q, k⟩ => thn (pt pins s σ H o i v ov iv u Q' I r1 r2 r3 q) fun _ s' ⟨H', I', z⟩ => ⟨H', I', k H' z⟩
theorem g_sub {o ix : Expr} {d : D} {R : Rn → Led → Prop} (h : EX X o ρ m fun d1 m1 => EX X ix ρ m1 fun d2 m2 => StX X d1 d2 d m2 fun m3 => R ρ m3)
    (ha : ∀ v, assign (.Subscript o ix pos) X.env v = (do
      let ov ← holding [v] (eval o X.env)
      let iv ← holding [v, ov] (eval ix X.env)
      standAt pos
      holding [v, ov, iv] (setItem ov iv v)
      release [v, ov, iv] []) := by intro _; rfl) : GX X (.Subscript o ix pos) d ρ m R := .mk fun F σ H v en at_ q => by
  refine SG.of (pg_sub (pe_SE (e := o)) (pe_SE (e := ix)) PSet.any ha) ?_
  refine h.go en at_ fun v1 d1 F1 m1 H1 s1 en1 q1 r1 => r1.go en1 s1.at2 fun v2 d2 F2 m2 H2 s2 en2 q2 ⟨⟨t, pt, r2⟩⟩ => ?_
  have st := s1.trans s2.st
  exact ⟨t, _, pt, r2 F2 H2 v1 v2 v (q1.mono s2.ex) q2 (q.mono st.ex) s2.at2, fun H' ⟨F3, m3, s3, k⟩ => ⟨ρ, F3, m3, st.trans s3, en2.mono s3.ex, k⟩⟩
theorem st_lst {j n : Nat} {a : Addr} {i : Int} {d : D} {ds : List D} {R : Led → Prop} (hm : m[n]? = some (a, .lst ds)) (hj : ixN ds.length i = some j) (k : R (m.set n (a, .lst (ds.set j d)))) : StX X (.ref a) (.int i) d m R := .mk ⟨_, set_list, fun F H o ix v q1 q2 q3 at_ => by
  cases q1
  obtain ⟨hh, ⟨xs, rfl, hs⟩, e⟩ := at_.get hm
  refine ⟨a, xs, i, j, rfl, q2.int_inv, e, by rw [hs.length]; exact hj, ?_⟩
  exact ⟨F, _, Step.write (o' := .lst (ds.set j d)) at_ hm ⟨_, rfl, hs.set j q3⟩, k⟩⟩
end

/-! ### methods of lists -/
section
variable {X : CD} {o e : Expr} {es : List Expr} {ρ : Rn} {m : Led} {R : D → Led → Prop} {apos cpos : Pos} {n : Nat} {a : Addr} {ds : List D}
theorem x_append (h : EX X o ρ m fun d m1 => ∃ (a : Addr) (k : Nat) (ds0 : List D), d = .ref a ∧ m1[k]? = some (a, MO.lst ds0) ∧ EX X e ρ m1 fun y m2 => ∃ (n : Nat) (ds : List D), m2[n]? = some (a, .lst ds) ∧ ds.length < 100000 ∧ R .non (m2.set n (a, .lst (ds ++ [y]))))
    (hbase : attributeBase o "append" X.env (eval o X.env) = eval o X.env := by rfl)
    (hfew : ((backTo cpos (starEach [e] X.env)).all (fun x => !x.1) && (backToKw cpos (keywordEach [] X.env)).all (fun x => x.1.isSome)
      && decide ([e].length + ([] : List Keyword).length + (if ([] : List Keyword).isEmpty then 0 else 1) < 30)) = true := by rfl)
    (hline : (apos.endLine == cpos.line) = true := by rfl) (hs : starEach [e] X.env = (false, eval e X.env) :: starEach [] X.env := by rfl) :
    EX X (.Call (.Attribute o "append" apos) [e] [] cpos) ρ m R := .mk fun F σ H en at_ => by
  refine SE.of (pe_bm PySem.F.plainAttrs_list PySem.F.slot_list_append PySem.F.type_list_append mt_append (pe_SE (e := o)) (pa_cons (pe_SE (e := e)) pa_nil hs) hbase hfew hline hs rfl) ?_
  refine h.go en at_ fun v d F1 m1 H1 s1 en1 q ⟨a, k0, ds0, ed, hk0, r⟩ => ?_
  subst ed
  cases q
  refine ⟨?_, ?_⟩
  · obtain ⟨hh, ⟨xs, rfl, hs⟩, e2⟩ := s1.at2.get hk0
    exact .inl ⟨rfl, xs, .inl (.inl e2)⟩
  · refine r.go en1 s1.at2 fun y dy F2 m2 H2 s2 en2 q2 ⟨n, ds, hm, hl, k⟩ => ?_
    obtain ⟨hh, ⟨xs, rfl, hs⟩, e2⟩ := s2.at2.get hm
    refine ⟨a, xs, y, rfl, rfl, e2, lenLt (by rw [hs.length]; exact hl), ?_⟩
    exact ⟨_, F2, _, (s1.trans s2).trans (Step.write (o' := .lst (ds ++ [dy])) s2.at2 hm ⟨_, rfl, hs.snoc q2⟩), .non, k⟩
end
end DL

namespace DL
open PySem PySem.Spec PyProof.Rows L2 RZ

/-! ### what is walked -/
section
variable {X : CD} {tg it a b : Expr} {ρ : Rn} {m : Led} {R : List D → Led → Prop} {p pos tpos : Pos}
theorem yd_at {K : Frag} {F1 H2 : Hp} {xs : List V} {ds : List D} {i : Nat} {x : V} {H3 : Hp} (hs : Dens K F1 xs ds) (y : YAt xs i H2 x H3) : YD K F1 ds i H2 x H3 := fun F2 m2 e at_ => by
  obtain ⟨rfl, hx⟩ := y
  obtain ⟨d, hd, q⟩ := hs.getV hx
  exact ⟨F2, d, hd, Step.refl at_, q.mono e⟩
theorem ix_lst (h : EX X it ρ m fun d m1 => ∃ ds, d = .lst ds ∧ R ds m1) : IX X tg it ρ m R := .mk fun F σ H en at_ =>
  SI.of (pi_list (pe_SE (e := it))) (h.go en at_ fun v d F1 m1 H1 s1 en1 q ⟨ds, ed, r⟩ => by
    subst ed
    cases q with
    | lst hq hs => exact ⟨_, rfl, ⟨_, .inl (s1.at2.sub.rd hq)⟩, ds, F1, m1, s1, r, by rw [← hs.length]; exact walk_list.mono (fun H' e => .inl (e.rd hq)) fun i H' x H'' _ _ y => yd_at hs y⟩)
theorem ix_tup (h : EX X it ρ m fun d m1 => ∃ ds, d = .tup ds ∧ R ds m1) : IX X tg it ρ m R := .mk fun F σ H en at_ =>
  SI.of (pi_tup (pe_SE (e := it))) (h.go en at_ fun v d F1 m1 H1 s1 en1 q ⟨ds, ed, r⟩ => by
    subst ed
    cases q with
    | tup hq hs => exact ⟨_, rfl, ⟨_, s1.at2.sub.sqT hq⟩, ds, F1, m1, s1, r, by rw [← hs.length]; exact walk_tup.mono (fun H' e => e.sqT hq) fun i H' x H'' _ _ y => yd_at hs y⟩)
/-- lo, lo + 1, .. n of them -/
def rangeD (lo : Int) (n : Nat) : List D := (List.range n).map fun (k : Nat) => D.int (lo + (k : Int))
theorem rangeD_len (lo : Int) (n : Nat) : (rangeD lo n).length = n := by unfold rangeD; rw [List.length_map, List.length_range]
theorem rangeD_get {lo : Int} {n i : Nat} (h : i < n) : (rangeD lo n)[i]? = some (.int (lo + (i : Int))) := by
  unfold rangeD
  rw [List.getElem?_map, List.getElem?_range h]; rfl
theorem walk_rangeD {K : Frag} {F1 : Hp} {lo : Int} {n : Nat} : Walk (Itr lo n) (rangeD lo n).length (fun H2 => Ex F1 H2) (YD K F1 (rangeD lo n)) := by
  rw [rangeD_len]
  refine walk_range.mono (fun _ _ => trivial) fun i H' x H'' hi _ y F2 m2 e at_ => ?_
  obtain ⟨rfl, rfl⟩ := y
  exact ⟨F2, _, rangeD_get hi, Step.refl at_, .int _⟩
theorem ix_range1 (h : EX X a ρ m fun d m1 => ∃ j : Int, d = .int j ∧ -100000 ≤ j ∧ j ≤ 100000 ∧ R (rangeD 0 j.toNat) m1) (hm : X.mg "range" = none) (hg : Gl X "range" := by rfl) (hs : starEach [a] X.env = [(false, eval a X.env)] := by rfl) : IX X tg (.Call (.Name "range" p) [a] [] pos) ρ m R := .mk fun F σ H en at_ =>
  SI.of (pi_range1 hg hm (pa_cons (pe_SE (e := a)) pa_nil hs) hs) (h.go en at_ fun v d F1 m1 H1 s1 en1 q ⟨j, ed, h1, h2, r⟩ => by
    subst ed
    exact ⟨j, by rw [q.int_inv], by omega, by omega, _, F1, m1, s1, r, walk_rangeD⟩)
theorem ix_range2 (h : EX X a ρ m fun d m1 => EX X b ρ m1 fun d2 m2 => ∃ i j : Int, d = .int i ∧ d2 = .int j ∧ (-100000 ≤ i ∧ i ≤ 100000 ∧ -100000 ≤ j ∧ j ≤ 100000) ∧ R (rangeD i (j - i).toNat) m2) (hm : X.mg "range" = none) (hg : Gl X "range" := by rfl)
    (hs : starEach [a, b] X.env = [(false, eval a X.env), (false, eval b X.env)] := by rfl) (hs2 : starEach [b] X.env = [(false, eval b X.env)] := by rfl) (hs1 : starEach [a, b] X.env = (false, eval a X.env) :: starEach [b] X.env := by rfl) : IX X tg (.Call (.Name "range" p) [a, b] [] pos) ρ m R := .mk fun F σ H en at_ =>
  SI.of (pi_range2 hg hm (pa_cons (pe_SE (e := a)) (pa_cons (pe_SE (e := b)) pa_nil hs2) hs1) hs hs2) (h.go en at_ fun v d F1 m1 H1 s1 en1 q r1 => r1.go en1 s1.at2 fun v2 d2 F2 m2 H2 s2 en2 q2 ⟨i, j, ed, ed2, hb, r⟩ => by
    subst ed
    subst ed2
    exact ⟨i, j, by rw [q.int_inv, q2.int_inv], by omega, _, F2, m2, s1.trans s2, r, walk_rangeD⟩)
/-- pairs -/
def zipD : List D → List D → List D
  | a :: as, b :: bs => .tup [a, b] :: zipD as bs
  | _, _ => []
theorem zipD_len : ∀ as bs : List D, (zipD as bs).length = min as.length bs.length
  | [], _ => by simp [zipD]
  | _ :: _, [] => by simp [zipD]
  | a :: as, b :: bs => by simp only [zipD, List.length_cons, zipD_len as bs]; omega
theorem zipD_get : ∀ {as bs : List D} {i : Nat} {a b : D}, as[i]? = some a → bs[i]? = some b → (zipD as bs)[i]? = some (.tup [a, b])
  | [], _, _, _, _, h, _ => by simp at h
  | _ :: _, [], _, _, _, _, h => by simp at h
  | x :: as, y :: bs, 0, a, b, h1, h2 => by simp at h1 h2; subst h1; subst h2; rfl
  | x :: as, y :: bs, i + 1, a, b, h1, h2 => by
    simp only [zipD, List.getElem?_cons_succ]
    exact zipD_get (by simpa using h1) (by simpa using h2)
theorem yd_pair {K : Frag} {F1 H2 : Hp} {xs ys : Nat → Option V} {ds : List D} {i : Nat} {x : V} {H3 : Hp} (h : ∀ u v, xs i = some u → ys i = some v → ∃ d1 d2, Den K F1 u d1 ∧ Den K F1 v d2 ∧ ds[i]? = some (.tup [d1, d2])) (y : YPair xs ys i H2 x H3) : YD K F1 ds i H2 x H3 := fun F2 m2 e at_ => by
  obtain ⟨T, u, v, rfl, hT, rfl, hu, hv⟩ := y
  obtain ⟨d1, d2, q1, q2, hd⟩ := h u v hu hv
  have nw := Step.new (o := .tup [u, v]) at_ hT
  exact ⟨_, _, hd, nw, .tup (.inl (.inl upd_same)) (.cons (q1.mono (e.trans nw.ex)) (.cons (q2.mono (e.trans nw.ex)) .nil))⟩
theorem ix_zip {elts : List Expr} {kk : Nat} (h : EX X a ρ m fun d m1 => EX X b ρ m1 fun d2 m2 => ∃ as bs, d = .lst as ∧ d2 = .lst bs ∧ R (zipD as bs) m2) (hm : X.mg "zip" = none) (hg : Gl X "zip" := by rfl)
    (hs : starEach [a, b] X.env = (false, eval a X.env) :: starEach [b] X.env := by rfl) (hs2 : starEach [b] X.env = (false, eval b X.env) :: starEach [] X.env := by rfl) (hpl : (backTo pos (starEach [b] X.env)).any (·.1) = false := by rfl) : IX X (.Tuple elts kk tpos) (.Call (.Name "zip" p) [a, b] [] pos) ρ m R := .mk fun F σ H en at_ =>
  SI.of (pi_zipA hg hm (pa_cons (pe_SE (e := a)) (pa_cons (pe_SE (e := b)) pa_nil hs2) hs) hs hpl) (h.go en at_ fun v d F1 m1 H1 s1 en1 q r1 => r1.go en1 s1.at2 fun v2 d2 F2 m2 H2 s2 en2 q2 ⟨as, bs, ed, ed2, r⟩ => by
    subst ed
    subst ed2
    cases q with
    | lst hq hqs =>
      cases q2 with
      | lst hq2 hqs2 =>
        have e1 := s2.ex
        refine ⟨_, _, _, _, rfl, .inl ⟨.inl (s2.at2.sub.rd (e1.rd hq)), .inl (s2.at2.sub.rd hq2), _, F2, m2, s1.trans s2, r, ?_⟩⟩
        refine Walk.mono (walk_zip (K := X.K) (n := (zipD as bs).length) (by rw [zipD_len, hqs.length, hqs2.length])) (fun H' e => ⟨.inl (e.rd (e1.rd hq)), .inl (e.rd hq2)⟩) fun i H' x H'' _ _ y => yd_pair (fun u w hu hw => ?_) y
        obtain ⟨d1, g1, q1⟩ := hqs.getV hu
        obtain ⟨d2, g2, q2⟩ := hqs2.getV hw
        exact ⟨d1, d2, q1.mono e1, q2, zipD_get g1 g2⟩)
theorem walk_zipT {K : Frag} {a b : Addr} {xs ys : List V} {n : Nat} (hn : n = min xs.length ys.length) : Walk (ItzT K a b) n (fun H => SqT K H a xs ∧ SqT K H b ys) (YPair (fun i => xs[i]?) (fun i => ys[i]?)) := by
  subst hn
  refine ⟨fun i _ hi q => ?_, fun _ q => ⟨xs, ys, q.1, q.2, by omega⟩, fun i H v H' _ q y => ?_⟩
  · have h1 : i < xs.length := by omega
    have h2 : i < ys.length := by omega
    exact ⟨xs, ys, xs[i], ys[i], q.1, q.2, by simp [h1], by simp [h2]⟩
  · obtain ⟨T, x, z, h1, h2, h3, h4, h5⟩ := y
    exact ⟨T, x, z, h1, h2, h3, h4 xs q.1, h5 ys q.2⟩
theorem ix_zipT {elts : List Expr} {kk : Nat} (h : EX X a ρ m fun d m1 => EX X b ρ m1 fun d2 m2 => ∃ as bs, d = .tup as ∧ d2 = .tup bs ∧ R (zipD as bs) m2) (hm : X.mg "zip" = none) (hg : Gl X "zip" := by rfl)
    (hs : starEach [a, b] X.env = (false, eval a X.env) :: starEach [b] X.env := by rfl) (hs2 : starEach [b] X.env = (false, eval b X.env) :: starEach [] X.env := by rfl) (hpl : (backTo pos (starEach [b] X.env)).any (·.1) = false := by rfl) : IX X (.Tuple elts kk tpos) (.Call (.Name "zip" p) [a, b] [] pos) ρ m R := .mk fun F σ H en at_ =>
  SI.of (pi_zipA hg hm (pa_cons (pe_SE (e := a)) (pa_cons (pe_SE (e := b)) pa_nil hs2) hs) hs hpl) (h.go en at_ fun v d F1 m1 H1 s1 en1 q r1 => r1.go en1 s1.at2 fun v2 d2 F2 m2 H2 s2 en2 q2 ⟨as, bs, ed, ed2, r⟩ => by
    subst ed
    subst ed2
    cases q with
    | tup hq hqs =>
      cases q2 with
      | tup hq2 hqs2 =>
        have e1 := s2.ex
        refine ⟨_, _, _, _, rfl, .inr ⟨s2.at2.sub.sqT (e1.sqT hq), s2.at2.sub.sqT hq2, _, F2, m2, s1.trans s2, r, ?_⟩⟩
        refine Walk.mono (walk_zipT (K := X.K) (n := (zipD as bs).length) (by rw [zipD_len, hqs.length, hqs2.length])) (fun H' e => ⟨e.sqT (e1.sqT hq), e.sqT hq2⟩) fun i H' x H'' _ _ y => yd_pair (fun u w hu hw => ?_) y
        obtain ⟨d1, g1, q1⟩ := hqs.getV hu
        obtain ⟨d2, g2, q2⟩ := hqs2.getV hw
        exact ⟨d1, d2, q1.mono e1, q2, zipD_get g1 g2⟩)
/-- enumerate -/
def enumD (as : List D) : List D := zipD (rangeD 0 as.length) as
theorem ix_enum {elts : List Expr} {kk : Nat} (h : EX X a ρ m fun d m1 => ∃ as, d = .lst as ∧ R (enumD as) m1) (hm : X.mg "enumerate" = none) (hg : Gl X "enumerate" := by rfl)
    (hs : starEach [a] X.env = [(false, eval a X.env)] := by rfl) (hs2 : starEach [a] X.env = (false, eval a X.env) :: starEach [] X.env := by rfl) : IX X (.Tuple elts kk tpos) (.Call (.Name "enumerate" p) [a] [] pos) ρ m R := .mk fun F σ H en at_ =>
  SI.of (pi_enum hg hm (pa_cons (pe_SE (e := a)) pa_nil hs2) hs) (h.go en at_ fun v d F1 m1 H1 s1 en1 q ⟨as, ed, r⟩ => by
    subst ed
    cases q with
    | lst hq hqs =>
      refine ⟨_, _, rfl, .inl (s1.at2.sub.rd hq), _, F1, m1, s1, r, ?_⟩
      have hl : (enumD as).length = as.length := by unfold enumD; rw [zipD_len, rangeD_len]; omega
      rw [hl, ← hqs.length]
      refine Walk.mono walk_enum (fun H' e => .inl (e.rd hq)) fun i H' x H'' hi _ y => yd_pair (fun u w hu hw => ?_) y
      obtain ⟨d2, g2, q2⟩ := hqs.getV hw
      have eu : u = .int (i : Nat) := (Option.some.inj hu).symm
      subst eu
      refine ⟨.int (i : Nat), d2, .int _, q2, ?_⟩
      have := zipD_get (rangeD_get (lo := 0) (n := as.length) (by rw [← hqs.length]; exact hi)) g2
      rw [Int.zero_add] at this
      exact this)
end

/-! ### for, while -/
section
variable {X : CD} {c tg it : Expr} {body : List Stmt} {ρ : Rn} {m : Led} {E : EndsD} {pos : Pos}
def ForI (X : CD) (tg : Expr) (body : List Stmt) (ρ : Rn) (E : EndsD) (ds : List D) (m1 : Led) : Prop := ∃ I : Nat → Rn → Led → Prop, I 0 ρ m1 ∧
  (∀ i d ρ' m', ds[i]? = some d → I i ρ' m' → GX X tg d ρ' m' fun ρ2 m2 => SX X body ρ2 m2 { E with nx := I (i + 1), ct := I (i + 1), bk := E.nx }) ∧ ∀ ρ' m', I ds.length ρ' m' → E.nx ρ' m'
theorem s_for (h : IX X tg it ρ m (ForI X tg body ρ E)) (hc : X.calm = true := by rfl) (hs : ∀ x, foldedSetIterable it X.env x = pure x := by intro _; rfl) : S1 X (.For tg it body [] pos) ρ m E := .mk fun F σ H en at_ => by
  refine SS.of (ps_for at_.po hc (pi_SI (it := it)) (pg_SG (tg := tg)) (pss_SS (sts := body)) hs) ?_
  refine (h.run F σ H en at_).mono fun J H1 ⟨ds, F1, m1, st, ⟨I, i0, turn, done⟩, w⟩ => ?_
  refine for_it w (fun i σ' H' => ∃ ρ' F' m', Step X.K F1 m1 H1 F' m' H' ∧ Env X F' σ' ρ' ∧ I i ρ' m') ⟨ρ, F1, m1, Step.refl st.at2, en.mono st.ex, i0⟩ (fun i σ' H' _ ⟨ρ', F', m', s', _, _⟩ => s'.ex.trans s'.at2.sub) (fun i x σ' H' H'' hi ⟨ρ', F', m', s', en', hI⟩ y => ?_) (fun σ' H' ⟨ρ', F', m', s', en', hI⟩ => ⟨ρ', F', m', st.trans s', en', done ρ' m' hI⟩)
  obtain ⟨F3, d, hd, s3, q⟩ := y F' m' s'.ex s'.at2
  refine ((turn i d ρ' m' hd hI).run F3 σ' H'' x (en'.mono s3.ex) (at_.to (st.trans (s'.trans s3))) q).mono fun σ2 H2 ⟨ρ2, F4, m4, s4, en4, sx⟩ => ?_
  have sa := (s'.trans s3).trans s4
  refine (SX.run sx F4 σ2 H2 en4 (at_.to (st.trans sa))).mono (fun σ5 H5 ⟨ρ5, F5, m5, s5, en5, k⟩ => ⟨ρ5, F5, m5, sa.trans s5, en5, k⟩) (fun v H5 k => PQ.step (st.trans sa) k) (fun σ5 H5 ⟨ρ5, F5, m5, s5, en5, k⟩ => ⟨ρ5, F5, m5, (st.trans sa).trans s5, en5, k⟩) (fun σ5 H5 ⟨ρ5, F5, m5, s5, en5, k⟩ => ⟨ρ5, F5, m5, sa.trans s5, en5, k⟩)
theorem s_while (W : Nat → Rn → Led → Prop) (n0 : Nat) (h0 : W n0 ρ m) (hs : ∀ n ρ' m', W n ρ' m' → TX X c ρ' m' fun k m1 => (k = true → SX X body ρ' m1 { E with nx := fun ρ2 m2 => ∃ n2, n2 < n ∧ W n2 ρ2 m2, ct := fun ρ2 m2 => ∃ n2, n2 < n ∧ W n2 ρ2 m2, bk := E.nx }) ∧ (k = false → E.nx ρ' m1))
    : S1 X (.While c body [] pos) ρ m E := .mk fun F σ H en at_ => by
  refine SS.of (ps_while at_.po (pt_ST (e := c)) (pss_SS (sts := body))) ?_
  refine ⟨fun n σ' H' => ∃ ρ' F' m', Step X.K F m H F' m' H' ∧ Env X F' σ' ρ' ∧ W n ρ' m', ⟨n0, ρ, F, m, Step.refl at_, en, h0⟩, fun n σ' H' ⟨ρ', F', m', s', en', w'⟩ => ?_⟩
  refine (hs n ρ' m' w').go en' (at_.to s') fun k F1 m1 H1 s1 en1 r => ?_
  have sa := s'.trans s1.st
  cases k with
  | true =>
    rw [if_pos rfl]
    refine ⟨fun σ2 H2 => ∃ n2, n2 < n ∧ ∃ ρ' F' m', Step X.K F m H F' m' H2 ∧ Env X F' σ2 ρ' ∧ W n2 ρ' m', fun _ _ q => q, ?_⟩
    refine ((r.1 rfl).run F1 σ' H1 en1 s1.at2).mono (fun σ5 H5 ⟨ρ5, F5, m5, s5, en5, n2, hn, k⟩ => ⟨n2, hn, ρ5, F5, m5, sa.trans s5, en5, k⟩) (fun v H5 k => PQ.step sa k) (fun σ5 H5 ⟨ρ5, F5, m5, s5, en5, k⟩ => ⟨ρ5, F5, m5, sa.trans s5, en5, k⟩) (fun σ5 H5 ⟨ρ5, F5, m5, s5, en5, n2, hn, k⟩ => ⟨n2, hn, ρ5, F5, m5, sa.trans s5, en5, k⟩)
  | false =>
    rw [if_neg Bool.false_ne_true]
    exact ⟨ρ', F1, m1, sa, en1, r.2 rfl⟩
end

/-! ### comprehensions -/
inductive SlotAt : Rn → Nat → Str → Prop
  | here {x : Str} {o : Option D} {r : Rn} : SlotAt ((x, o) :: r) 0 x
  | there {x : Str} {r : Rn} {q : Str × Option D} {i : Nat} : SlotAt r i x → SlotAt (q :: r) (i + 1) x
theorem SlotAt.ix : ∀ {ρ : Rn} {i : Nat} {x : Str}, SlotAt ρ i x → (ρ.map (·.1))[i]? = some x
  | _, _, _, .here => rfl
  | _, _, _, .there h => by rw [List.map_cons, List.getElem?_cons_succ]; exact h.ix
theorem SlotAt.set : ∀ {ρ : Rn} {i : Nat} {x : Str}, SlotAt ρ i x → ∀ d, ∃ ρ', SetAt ρ i x d ρ'
  | _, _, _, .here, d => ⟨_, .here⟩
  | _, _, _, .there h, d => let ⟨_, k⟩ := h.set d; ⟨_, .there k⟩
section
variable {X : CD} {elt it : Expr} {scope : Scope} {ρ : Rn} {m : Led} {R : D → Led → Prop} {pos py : Pos} {y : Str} {j : Nat}
theorem wipe1 {F : Hp} {σ : L2.St} {ρ2 : Rn} {d : D} {v : V} (en : Env X F σ ρ) (hset : SetAt ρ j y d ρ2) (q : Den X.K F v d) : Env X F ((L2.wipe σ [j]).set j (some v)) ρ2 := by
  have e : (L2.wipe σ [j]).set j (some v) = σ.set j (some v) := by
    show ((σ.set j none).set j (some v)) = _
    rw [List.set_set]
  rw [e]
  exact en.set hset q
theorem Env.blk {F : Hp} {σ : L2.St} {s : Shared} {H0 : Hp} {cenv : PySem.Env} {fp : List Addr} (en : Env X F σ ρ) : Env (X.blk s H0 scope cenv fp) F σ ρ := ⟨en.nd, en.nm, en.ev⟩
abbrev CD.blk (X : CD) (s : Shared) (H : Hp) (scope : Scope) (env : PySem.Env) (fp : List Addr) : CD := ⟨X.toCx.blk s H scope env fp, fun _ _ _ _ => False⟩
/-- what a turn of a comprehension asks: acc is what has been made -/
def CompI (X : CD) (scope : Scope) (ifs : List Expr) (elt : Expr) (y : Str) (j : Nat) (ρ : Rn) (R : List D → Led → Prop) (ds : List D) (m1 : Led) : Prop := ∃ I : Nat → List D → Led → Prop, I 0 [] m1 ∧
  (∀ i d acc m', ds[i]? = some d → I i acc m' → ∃ ρ2, SetAt ρ j y d ρ2 ∧ ∀ (s : Shared) (H0 : Hp) (C : Addr) (cl : List (Str × Addr)) (fp : List Addr),
    match ifs with
    | [] => EX (X.blk s H0 scope (compEnvC scope cl C X.env) fp) elt ρ2 m' fun z m3 => acc.length < 100000 ∧ I (i + 1) (acc ++ [z]) m3
    | [c] => TX (X.blk s H0 scope (compEnvC scope cl C X.env) fp) c ρ2 m' fun k m2 => (k = true → ∀ (s : Shared) (H0 : Hp) (C : Addr) (cl : List (Str × Addr)) (fp : List Addr), EX (X.blk s H0 scope (compEnvC scope cl C X.env) fp) elt ρ2 m2 fun z m3 => acc.length < 100000 ∧ I (i + 1) (acc ++ [z]) m3) ∧ (k = false → I (i + 1) acc m2)
    | _ => False) ∧ ∀ acc m', I ds.length acc m' → R acc m'
def STs (X : CD) (scope : Scope) (ifs : List Expr) : TT := fun σ H Q => match ifs with
  | [] => Q true H
  | [c] => ∀ s H0 C cl fp, ST (X.blk s H0 scope (compEnvC scope cl C X.env) fp) c σ H Q
  | _ => False
theorem pts_STs {ifs : List Expr} (s : Shared) (H0 : Hp) (C : Addr) (cl : List (Str × Addr)) (fp : List Addr) : PTs (X.blk s H0 scope (compEnvC scope cl C X.env) fp) ifs (STs X scope ifs) := by
  match ifs with
  | [] => exact pts_nil
  | [c] =>
    refine ⟨fun pins st σ H Q I h => ?_⟩
    exact (pts_one (pt_ST (X := X.blk s H0 scope (compEnvC scope cl C X.env) fp) (e := c))).run pins st σ H Q I (h s H0 C cl fp)
  | _ :: _ :: _ => exact ⟨fun _ _ _ _ _ _ h => False.elim h⟩
def SEb (X : CD) (scope : Scope) (e : Expr) : TE := fun σ H Q => ∀ s H0 C cl fp, SE (X.blk s H0 scope (compEnvC scope cl C X.env) fp) e σ H Q
theorem pe_SEb {e : Expr} (s : Shared) (H0 : Hp) (C : Addr) (cl : List (Str × Addr)) (fp : List Addr) : PE (X.blk s H0 scope (compEnvC scope cl C X.env) fp) e (SEb X scope e) := ⟨fun pins st σ H Q I h => h s H0 C cl fp pins st I⟩
/-- the core: the reading of a comprehension over data -/
theorem lc_read {ifs : List Expr} {F σ H} (hl1 : ifs.length ≤ 1) (en : Env X F σ ρ) (at_ : AtX X F m H) (R : List D → Led → Prop) (QQ : VK) (h : IX X (.Name y py) it ρ m (CompI X scope ifs elt y j ρ R))
    (fin : ∀ Dl acc vs F1 m1 H1 F' m' H', Step X.K F m H F1 m1 H1 → H1 Dl = none → Step X.K F1 m1 H1 F' m' H' → F' Dl = none → Dl ∉ keys m' → H' Dl = some (.lst vs) → Dens X.K F' vs acc → R acc m' → QQ (.ref Dl) H') : tLc (SI X (.Name y py) it) (gName j) (STs X scope ifs) (SEb X scope elt) [j] σ H QQ := by
  refine (h.run F σ H en at_).mono fun J H1 ⟨ds, F1, m1, st, ⟨I, i0, turn, done⟩, w⟩ => fun Dl hDl => ?_
  have hF1 : F1 Dl = none := st.at2.sub.free hDl
  have hk1 : Dl ∉ keys m1 := st.at2.notkey hDl
  refine lc_it w (fun i H' => ∃ acc vs F' m', Step X.K F1 m1 H1 F' m' H' ∧ H' Dl = some (.lst vs) ∧ Dens X.K F' vs acc ∧ I i acc m' ∧ F' Dl = none ∧ Dl ∉ keys m') ⟨[], [], F1, m1, (Step.refl st.at2).poke hDl hF1 hk1, upd_same, .nil, i0, hF1, hk1⟩
    (fun i H' _ ⟨acc, vs, F', m', s', _⟩ => s'.ex.trans s'.at2.sub) (fun i x H' H'' hi ⟨acc, vs, F', m', s', hl, hs, hI, hF', hk'⟩ yy => ?_) (fun H' ⟨acc, vs, F', m', s', hl, hs, hI, hF', hk'⟩ => ?_)
  · obtain ⟨F3, d, hd, s3, q⟩ := yy F' m' s'.ex s'.at2
    obtain ⟨ρ2, hset, turn⟩ := turn i d acc m' hd hI
    obtain ⟨a1, a2, a3⟩ := s3.stay hF' hk' hl
    have en2 := wipe1 (en.mono (st.ex.trans (s'.ex.trans s3.ex))) hset q
    have fin : ∀ {F4 m4 H4 v z}, Step X.K F3 m' H'' F4 m4 H4 → Den X.K F4 v z → acc.length < 100000 ∧ I (i + 1) (acc ++ [z]) m4 → ∃ acc, H4 Dl = some (.lst acc) ∧ acc.length < sizeLine ∧ ∃ acc_1 vs F' m', Step X.K F1 m1 H1 F' m' (upd H4 Dl (.lst (acc ++ [v]))) ∧ upd H4 Dl (.lst (acc ++ [v])) Dl = some (.lst vs) ∧ Dens X.K F' vs acc_1 ∧ I (i + 1) acc_1 m' ∧ F' Dl = none ∧ Dl ∉ keys m' := fun {F4 m4 H4 v z} s4 q4 hh => by
      obtain ⟨b1, b2, b3⟩ := s4.stay a2 a3 a1
      exact ⟨vs, b1, lenLt (by rw [hs.length]; exact hh.1), acc ++ [z], vs ++ [v], F4, m4, ((s'.trans s3).trans s4).poke hDl b2 b3, upd_same, (hs.mono (s3.ex.trans s4.ex)).snoc q4, hh.2, b2, b3⟩
    refine ⟨wipe_back (by simp), ?_⟩
    match ifs, turn with
    | [], turn =>
      unfold STs
      dsimp only
      rw [if_pos rfl]
      intro s H0 C cl fp
      exact EX.go (turn s H0 C cl fp) en2.blk (.quiet s3.at2) fun v z F4 m4 H4 s4 _ q4 hh => fin s4 q4 hh
    | [c], turn =>
      show ∀ s H0 C cl fp, ST (X.blk s H0 scope (compEnvC scope cl C X.env) fp) c _ H'' _
      intro s H0 C cl fp
      refine TX.go (turn s H0 C cl fp) en2.blk (.quiet s3.at2) fun k F4 m4 H4 s4 _ r => ?_
      cases k with
      | true =>
        rw [if_pos rfl]
        intro s' H0' C' cl' fp'
        exact EX.go (r.1 rfl s' H0' C' cl' fp') (en2.mono s4.ex).blk (.quiet s4.at2.toAt) fun v z F5 m5 H5 s5 _ q5 hh => fin (s4.st.trans s5.st) q5 hh
      | false =>
        rw [if_neg Bool.false_ne_true]
        obtain ⟨b1, b2, b3⟩ := Step.stay s4.st a2 a3 a1
        exact ⟨acc, vs, F4, m4, (s'.trans s3).trans s4, b1, hs.mono (s3.ex.trans s4.ex), r.2 rfl, b2, b3⟩
    | _ :: _ :: _, turn => exact absurd hl1 (by simp)
  · exact fin Dl acc vs F1 m1 H1 F' m' H' st hDl s' hF' hk' hl hs (done acc m' (by simpa using hI))
/-- the list as it is made: frozen, or in the ledger -/
theorem lc_frz {R : List D → Led → Prop} {F H F1 H1 F' H' : Hp} {m1 m' : Led} {Dl : Addr} {acc : List D} {vs : List V} (st : Step X.K F m H F1 m1 H1) (hDl : H1 Dl = none) (s' : Step X.K F1 m1 H1 F' m' H') (hF' : F' Dl = none) (hk' : Dl ∉ keys m') (hl : H' Dl = some (.lst vs)) (hs : Dens X.K F' vs acc) :
    ∃ F2, Step X.K F m H F2 m' H' ∧ Den X.K F2 (.ref Dl) (.lst acc) :=
  ⟨_, st.trans (s'.take hDl hF' hk' hl), .lst (.inl upd_same) (hs.mono (Ex.new hF'))⟩
theorem Step.takeM {K : Frag} {F H F2 H2 : Hp} {m m2 : Led} {p : Addr} {h : HO} {mo : MO} (s : Step K F m H F2 m2 H2) (hp : H p = none) (hF : F2 p = none) (hk : p ∉ keys m2) (ho : H2 p = some h) (hm : MDen K F2 mo h) : Step K F m H F2 (m2 ++ [(p, mo)]) H2 := by
  refine ⟨⟨s.at2.sub, fun q hq => ?_, fun q hq => ?_, ?_⟩, s.ex, s.keep, s.frF, fun x hx => ?_⟩
  · rcases List.mem_append.mp hq with hq | hq
    · exact s.at2.led q hq
    · obtain rfl : q = (p, mo) := by simpa using hq
      exact ⟨h, hm, ho⟩
  · rcases List.mem_append.mp hq with hq | hq
    · exact s.at2.dis q hq
    · obtain rfl : q = (p, mo) := by simpa using hq
      exact hF
  · show (List.map (·.1) (m2 ++ [(p, mo)])).Nodup
    rw [List.map_append]
    refine List.nodup_append.mpr ⟨s.at2.nod, by simp, fun x hx y hy => ?_⟩
    obtain rfl : y = p := by simpa using hy
    exact fun z => hk (z ▸ hx)
  · have hx' : x ∈ List.map (·.1) (m2 ++ [(p, mo)]) := hx
    rw [List.map_append] at hx'
    rcases List.mem_append.mp hx' with q | q
    · exact s.frM x q
    · obtain rfl : x = p := by simpa using q
      exact .inr hp
/-- [elt for y in it if ..] -/
theorem x_lc {ifs : List Expr} (hj : SlotAt ρ j y) (h : IX X (.Name y py) it ρ m (CompI X scope ifs elt y j ρ fun acc m' => R (.lst acc) m')) (hl1 : ifs.length ≤ 1 := by decide) (hok : blkC X.N X.env.scope scope [(y, j)] = true := by kernel_rfl)
    (hx : ∀ cl C, Loc (compEnvC scope cl C X.env).scope y := by intro _ _; first | exact Or.inl rfl | exact Or.inr rfl) (hf : ∀ cl C, (scope.names.lookup y == some .cell) = true ∨ (compEnvC scope cl C X.env).scope.names.lookup y = some .local := by intro _ _; first | exact .inl rfl | exact .inr rfl)
    (hc : X.calm = true := by rfl) (hs : ∀ x, foldedSetIterable it X.env x = pure x := by intro _; rfl) : EX X (.ListComp elt [⟨.Name y py, it, ifs, 0⟩] scope pos) ρ m R := .mk fun F σ H en at_ =>
  SE.of (pe_lc (own := [(y, j)]) hc en.nd (pi_SI (it := it)) (blkOk_by hok) (fun s H0 C cl fp => pg_name (X := X.blk s H0 scope (compEnvC scope cl C X.env) fp) (i := j) en.nd (by show X.N[j]? = some y; rw [← en.nm]; exact hj.ix) (hx cl C) (hf cl C)) (fun s H0 C cl fp => pts_STs s H0 C cl fp) (fun s H0 C cl fp => pe_SEb s H0 C cl fp) hs)
    (lc_read hl1 en at_ _ _ h (fun Dl acc vs F1 m1 H1 F' m' H' st hD s' hF hk hl hs r => let ⟨F2, st2, q⟩ := lc_frz (R := fun _ _ => True) st hD s' hF hk hl hs; ⟨_, F2, m', st2, q, r⟩))
/-- x = [..] on one line, x a local -/
theorem s_setLc {ifs : List Expr} {E : EndsD} {x : Str} {i : Nat} {px spos : Pos} (hj : SlotAt ρ j y) (hi : SlotAt ρ i x) (h : IX X (.Name y py) it ρ m (CompI X scope ifs elt y j ρ fun acc m' => ∃ ρ', SetAt ρ i x (.lst acc) ρ' ∧ E.nx ρ' m'))
    (hxl : X.env.scope.names.lookup x = some .local := by rfl) (ha : (scope.names.any fun (n, k) => n == x && (k == .local || k == .cell)) = false := by decide +kernel) (hk : X.env.scope.kind = .function := by rfl) (hln : (px.line == pos.line) = true := by rfl)
    (hl1 : ifs.length ≤ 1 := by decide) (hok : blkC X.N X.env.scope scope [(y, j)] = true := by kernel_rfl)
    (hx : ∀ cl C, Loc (compEnvC scope cl C X.env).scope y := by intro _ _; first | exact Or.inl rfl | exact Or.inr rfl) (hf : ∀ cl C, (scope.names.lookup y == some .cell) = true ∨ (compEnvC scope cl C X.env).scope.names.lookup y = some .local := by intro _ _; first | exact .inl rfl | exact .inr rfl)
    (hc : X.calm = true := by rfl) (hs : ∀ x, foldedSetIterable it X.env x = pure x := by intro _; rfl) : S1 X (.Assign [.Name x px] (.ListComp elt [⟨.Name y py, it, ifs, 0⟩] scope pos) spos) ρ m E := .mk fun F σ H en at_ =>
  SS.of (ps_setLc (i := i) (own := [(y, j)]) hc en.nd (by rw [← en.nm]; exact hi.ix) hxl (sw_true hk hxl hln ha) (pi_SI (it := it)) (blkOk_by hok) (fun s H0 C cl fp => pg_name (X := X.blk s H0 scope (compEnvC scope cl C X.env) fp) (i := j) en.nd (by show X.N[j]? = some y; rw [← en.nm]; exact hj.ix) (hx cl C) (hf cl C)) (fun s H0 C cl fp => pts_STs s H0 C cl fp) (fun s H0 C cl fp => pe_SEb s H0 C cl fp) hs)
    (lc_read hl1 en at_ _ _ h (fun Dl acc vs F1 m1 H1 F' m' H' st hD s' hF hk hl hs ⟨ρ', hset, r⟩ => let ⟨F2, st2, q⟩ := lc_frz (R := fun _ _ => True) st hD s' hF hk hl hs; ⟨ρ', F2, m', st2, (en.mono st2.ex).set hset q, r⟩))
/-- the same, the list to be changed -/
theorem x_lcM {ifs : List Expr} (hj : SlotAt ρ j y) (h : IX X (.Name y py) it ρ m (CompI X scope ifs elt y j ρ fun acc m' => ∀ p, R (.ref p) (m' ++ [(p, .lst acc)]))) (hl1 : ifs.length ≤ 1 := by decide) (hok : blkC X.N X.env.scope scope [(y, j)] = true := by kernel_rfl)
    (hx : ∀ cl C, Loc (compEnvC scope cl C X.env).scope y := by intro _ _; first | exact Or.inl rfl | exact Or.inr rfl) (hf : ∀ cl C, (scope.names.lookup y == some .cell) = true ∨ (compEnvC scope cl C X.env).scope.names.lookup y = some .local := by intro _ _; first | exact .inl rfl | exact .inr rfl)
    (hc : X.calm = true := by rfl) (hs : ∀ x, foldedSetIterable it X.env x = pure x := by intro _; rfl) : EX X (.ListComp elt [⟨.Name y py, it, ifs, 0⟩] scope pos) ρ m R := .mk fun F σ H en at_ =>
  SE.of (pe_lc (own := [(y, j)]) hc en.nd (pi_SI (it := it)) (blkOk_by hok) (fun s H0 C cl fp => pg_name (X := X.blk s H0 scope (compEnvC scope cl C X.env) fp) (i := j) en.nd (by show X.N[j]? = some y; rw [← en.nm]; exact hj.ix) (hx cl C) (hf cl C)) (fun s H0 C cl fp => pts_STs s H0 C cl fp) (fun s H0 C cl fp => pe_SEb s H0 C cl fp) hs)
    (lc_read hl1 en at_ _ _ h (fun Dl acc vs F1 m1 H1 F' m' H' st hD s' hF hk hl hs r => ⟨_, F', _, st.trans (s'.takeM hD hF hk hl (mo := .lst acc) ⟨vs, rfl, hs⟩), .ref Dl, r Dl⟩))

theorem s_setLcM {ifs : List Expr} {E : EndsD} {x : Str} {i : Nat} {px spos : Pos} (hj : SlotAt ρ j y) (hi : SlotAt ρ i x) (h : IX X (.Name y py) it ρ m (CompI X scope ifs elt y j ρ fun acc m' => ∀ p, ∃ ρ', SetAt ρ i x (.ref p) ρ' ∧ E.nx ρ' (m' ++ [(p, .lst acc)])))
    (hxl : X.env.scope.names.lookup x = some .local := by rfl) (ha : (scope.names.any fun (n, k) => n == x && (k == .local || k == .cell)) = false := by decide +kernel) (hk : X.env.scope.kind = .function := by rfl) (hln : (px.line == pos.line) = true := by rfl)
    (hl1 : ifs.length ≤ 1 := by decide) (hok : blkC X.N X.env.scope scope [(y, j)] = true := by kernel_rfl)
    (hx : ∀ cl C, Loc (compEnvC scope cl C X.env).scope y := by intro _ _; first | exact Or.inl rfl | exact Or.inr rfl) (hf : ∀ cl C, (scope.names.lookup y == some .cell) = true ∨ (compEnvC scope cl C X.env).scope.names.lookup y = some .local := by intro _ _; first | exact .inl rfl | exact .inr rfl)
    (hc : X.calm = true := by rfl) (hs : ∀ x, foldedSetIterable it X.env x = pure x := by intro _; rfl) : S1 X (.Assign [.Name x px] (.ListComp elt [⟨.Name y py, it, ifs, 0⟩] scope pos) spos) ρ m E := .mk fun F σ H en at_ =>
  SS.of (ps_setLc (i := i) (own := [(y, j)]) hc en.nd (by rw [← en.nm]; exact hi.ix) hxl (sw_true hk hxl hln ha) (pi_SI (it := it)) (blkOk_by hok) (fun s H0 C cl fp => pg_name (X := X.blk s H0 scope (compEnvC scope cl C X.env) fp) (i := j) en.nd (by show X.N[j]? = some y; rw [← en.nm]; exact hj.ix) (hx cl C) (hf cl C)) (fun s H0 C cl fp => pts_STs s H0 C cl fp) (fun s H0 C cl fp => pe_SEb s H0 C cl fp) hs)
    (lc_read hl1 en at_ _ _ h (fun Dl acc vs F1 m1 H1 F' m' H' st hD s' hF hk hl hs r => let ⟨ρ', hset, r2⟩ := r Dl; have st2 := st.trans (s'.takeM hD hF hk hl (mo := .lst acc) ⟨vs, rfl, hs⟩); ⟨ρ', F', _, st2, (en.mono st2.ex).set hset (.ref Dl), r2⟩))
end

/-! ### a def -/
def startR : List Str → List D → Rn
  | [], _ => []
  | x :: N, [] => (x, none) :: startR N []
  | x :: N, d :: ds => (x, some d) :: startR N ds
theorem startR_names : ∀ (N : List Str) (ds : List D), (startR N ds).map (·.1) = N
  | [], _ => rfl
  | x :: N, [] => by simp only [startR, List.map_cons, startR_names N []]
  | x :: N, d :: ds => by simp only [startR, List.map_cons, startR_names N ds]
theorem startR_envs {K : Frag} {F : Hp} : ∀ (N : List Str) (vs : List V) (ds : List D), vs.length ≤ N.length → Dens K F vs ds → Envs K F (start N vs) ((startR N ds).map (·.2))
  | N, _, _, hl, .nil => by
    refine ⟨?_, fun i d h => ?_⟩
    · have e := congrArg List.length (startR_names N [])
      rw [List.length_map] at e
      rw [List.length_map, e]
      unfold L2.start
      simp
    have key : ∀ (N : List Str) (i : Nat), ((startR N []).map (·.2))[i]? = some (some d) → False := by
      intro N
      induction N with
      | nil => intro i h; simp [startR] at h
      | cons x N ih =>
        intro i h
        cases i with
        | zero => simp [startR] at h
        | succ i => exact ih i (by simpa [startR] using h)
    exact (key N i h).elim
  | [], _, _, hl, .cons _ _ => by simp at hl
  | x :: N, v :: vs, d :: ds, hl, .cons q qs => by
    have ih := startR_envs (K := K) (F := F) N vs ds (by simpa using hl) qs
    have es : start (x :: N) (v :: vs) = some v :: start N vs := by
      unfold L2.start
      simp
    rw [es]
    refine ⟨by simp only [startR, List.map_cons, List.length_cons, ih.len], fun i e h => ?_⟩
    cases i with
    | zero =>
      have : e = d := by simp [startR] at h; exact h.symm
      subst this
      exact ⟨v, rfl, q⟩
    | succ i => exact ih.get i e (by simpa [startR] using h)
section
variable {P : Program} {w : World} {K : Frag} {mg : Str → Option Value} {base : Heap}
/-- THE RULE for a def that raises nothing -/
theorem def_ok {x qual : Str} {st : Stmt} {f : Addr} {fd : FuncData} {N ps : List Str} {k : Nat} {sp : SpD} (F : Fun K x qual st f fd) (S : FnScope N ps (defScope st)) (len : ∀ ds m R, sp ds m R → ds.length = ps.length)
    (body : ∀ (cdv : Value) (A : Around) (outer : List PySem.Env) (s : Shared) (H : Hp) (ds : List D) (m : Led) (R : D → Led → Prop), Room k (A.deeper (envOfC qual (defScope st) s.heap.objs.size f cdv)) → sp ds m R →
      SX ⟨(cxOf CX0 P w K mg base N qual (defScope st) f cdv A outer s H E0).nox, fun _ _ _ _ => False⟩ (defBody st) (startR N ds) m { nx := fun _ m2 => ∃ m3, m3.Sublist m2 ∧ R .non m3, rt := fun d m2 => ∃ m3, m3.Sublist m2 ∧ R d m3 }) : FnOk P w K mg base CX0 (k + 1) f fd ps (lift K sp) := by
  refine F.ok S (fun vs H Q E ⟨F0, m, ds, R, q, _, h, _⟩ => by rw [q.length]; exact len ds m R h) (fun cdv A outer s H vs Q E hr ⟨F0, m, ds, R, q, at_, h, k⟩ => ?_)
  refine ⟨_, pss_SS, ?_⟩
  have hb := body cdv A outer s H ds m R hr h
  have hl : vs.length ≤ N.length := by
    rw [q.length, len ds m R h]
    have := congrArg List.length S.pre
    rw [List.length_take] at this
    omega
  have en : DL.Env (cxOf CX0 P w K mg base N qual (defScope st) f cdv A outer s H E).nox F0 (start N vs) (startR N ds) := ⟨S.nd, startR_names N ds, startR_envs N vs ds hl q⟩
  refine (hb.run F0 (start N vs) H en (.quiet at_)).mono (fun σ2 H2 ⟨ρ2, F2, m2, s2, en2, m3, sl, r⟩ => ?_) (fun v H2 ⟨d, F2, m2, s2, q2, m3, sl, r⟩ => ?_) (fun _ _ ⟨_, _, _, _, _, z⟩ => z) (fun _ _ ⟨_, _, _, _, _, z⟩ => z)
  · exact k .non m3 .non F2 H2 r (s2.trans (Step.drop s2.at2 sl)) .non
  · exact k d m3 v F2 H2 r (s2.trans (Step.drop s2.at2 sl)) q2
end
/-- ghost: a list of the ledger is frozen between two statements -/
theorem s_freeze {X : CD} {sts : List Stmt} {ρ ρ' : Rn} {m : Led} {E : EndsD} {i n : Nat} {x : Str} {p : Addr} {ds : List D} (hm : m[n]? = some (p, .lst ds)) (hl : LookAt ρ i x (.ref p)) (hs : SetAt ρ i x (.lst ds) ρ') (h : SX X sts ρ' (m.eraseIdx n) E) : SX X sts ρ m E := .mk fun F σ H en at_ => by
  obtain ⟨F2, s2, q2⟩ := Step.freeze at_.toAt hm
  have en2 := (en.mono s2.ex).set hs q2
  obtain ⟨hN, v, e1, q⟩ := en.look hl
  cases q
  have e : σ.set i (some (.ref p)) = σ := by
    apply List.ext_getElem?
    intro j
    by_cases hj : i = j
    · subst hj
      rw [List.getElem?_set_self (List.getElem?_eq_some_iff.mp e1).1, e1]
    · rw [List.getElem?_set_ne hj]
  rw [e] at en2
  exact SSs.step s2 (h.run F2 σ H en2 (at_.to s2))
theorem s_drop {X : CD} {sts : List Stmt} {ρ : Rn} {m m2 : Led} {E : EndsD} (sl : m2.Sublist m) (h : SX X sts ρ m2 E) : SX X sts ρ m E := .mk fun F σ H en at_ => SSs.step (Step.drop at_.toAt sl) (h.run F σ H en (at_.to (Step.drop at_.toAt sl)))
end DL

namespace DL
open PySem PySem.Spec PyProof.Rows L2 RZ
section
variable {X : CD} {a b e tg it : Expr} {es : List Expr} {ρ : Rn} {m : Led} {R : D → Led → Prop} {x : Str} {p pos tpos : Pos} {k n : Nat} {sp : SpD} {mg : Str → Option Value}
theorem c_call {P : Program} {w : World} {K : Frag} {base : Heap} (G : Knows P w K mg base k x n sp) (hr : Room k X.A) (h : AX X (e :: es) ρ m fun ds m1 => sp ds m1 R) (hX : X.prog = P ∧ X.w = w ∧ X.K = K ∧ X.mg = mg ∧ X.base = base := by exact ⟨rfl, rfl, rfl, rfl, rfl⟩) (hg : Gl X x := by rfl)
    (hdb : (x == ("__debug__" : Str)) = false := by decide) (he : starEach (e :: es) X.env = (false, eval e X.env) :: starEach es X.env := by rfl) (hpl : (backTo pos (starEach es X.env)).any (·.1) = false := by rfl) :
    EX X (.Call (.Name x p) (e :: es) [] pos) ρ m R := by
  obtain ⟨rfl, rfl, rfl, rfl, rfl⟩ := hX
  exact x_call G hr h hg hdb he hpl
theorem c_call0 {P : Program} {w : World} {K : Frag} {base : Heap} (G : Knows P w K mg base k x n sp) (hr : Room k X.A) (h : sp [] m R) (hX : X.prog = P ∧ X.w = w ∧ X.K = K ∧ X.mg = mg ∧ X.base = base := by exact ⟨rfl, rfl, rfl, rfl, rfl⟩) (hg : Gl X x := by rfl)
    (hdb : (x == ("__debug__" : Str)) = false := by decide) : EX X (.Call (.Name x p) [] [] pos) ρ m R := by
  obtain ⟨rfl, rfl, rfl, rfl, rfl⟩ := hX
  exact x_call0 G hr h hg hdb
/-- built-ins by name: hm is found by its name -/
theorem c_cb {id : String} (hm : mg x = none) (hv : bootBuiltins x = some (.builtin id)) (h : AX X (e :: es) ρ m fun ds m1 => BX X (.builtin id) ds m1 R) (hX : X.mg = mg := by rfl) (hg : Gl X x := by rfl) (hn : x ≠ "__name__" := by decide) (hdb : (x == ("__debug__" : Str)) = false := by decide)
    (he : starEach (e :: es) X.env = (false, eval e X.env) :: starEach es X.env := by rfl) (hpl : (backTo pos (starEach es X.env)).any (·.1) = false := by rfl) : EX X (.Call (.Name x p) (e :: es) [] pos) ρ m R := by
  subst hX
  exact x_cb h hm hv hg hn hdb he hpl
theorem c_ct {T : String} (hm : mg x = none) (hv : bootBuiltins x = some (.type T)) (h : AX X (e :: es) ρ m fun ds m1 => BX X (.type T) ds m1 R) (hX : X.mg = mg := by rfl) (hg : Gl X x := by rfl) (hn : x ≠ "__name__" := by decide) (hdb : (x == ("__debug__" : Str)) = false := by decide)
    (he : starEach (e :: es) X.env = (false, eval e X.env) :: starEach es X.env := by rfl) (hpl : (backTo pos (starEach es X.env)).any (·.1) = false := by rfl) : EX X (.Call (.Name x p) (e :: es) [] pos) ρ m R := by
  subst hX
  exact x_ct h hm hv hg hn hdb he hpl
theorem c_ty {nn : String} (hm : mg x = none) (hv : bootBuiltins x = some (.type nn)) (kk : R (.ty nn) m) (hX : X.mg = mg := by rfl) (h : Gl X x := by rfl) (hn : x ≠ "__name__" := by decide) (hd : (x == ("__debug__" : Str)) = false := by decide) : EX X (.Name x pos) ρ m R := by
  subst hX
  exact x_ty kk hm hv h hn hd
theorem c_glob {K : Frag} {d : D} (hgc : GC K mg x d) (kk : R d m) (hX : X.mg = mg ∧ X.K = K := by exact ⟨rfl, rfl⟩) (h : Gl X x := by rfl) (hd : (x == ("__debug__" : Str)) = false := by decide) : EX X (.Name x pos) ρ m R := by
  obtain ⟨rfl, rfl⟩ := hX
  exact x_glob hgc kk h hd
theorem bt_int : bootBuiltins "int" = some (.type "int") := by decide +kernel
theorem bt_list : bootBuiltins "list" = some (.type "list") := by decide +kernel
theorem bt_tuple : bootBuiltins "tuple" = some (.type "tuple") := by decide +kernel
theorem bt_dict : bootBuiltins "dict" = some (.type "dict") := by decide +kernel
theorem bt_bool : bootBuiltins "bool" = some (.type "bool") := by decide +kernel
theorem bt_str : bootBuiltins "str" = some (.type "str") := by decide +kernel
theorem bt_len : bootBuiltins "len" = some (.builtin "len") := by decide +kernel
theorem bt_max : bootBuiltins "max" = some (.builtin "max") := by decide +kernel
theorem bt_min : bootBuiltins "min" = some (.builtin "min") := by decide +kernel
theorem bt_abs : bootBuiltins "abs" = some (.builtin "abs") := by decide +kernel
theorem bt_sum : bootBuiltins "sum" = some (.builtin "sum") := by decide +kernel
theorem bt_all : bootBuiltins "all" = some (.builtin "all") := by decide +kernel
theorem bt_any : bootBuiltins "any" = some (.builtin "any") := by decide +kernel
theorem bt_sorted : bootBuiltins "sorted" = some (.builtin "sorted") := by decide +kernel
theorem bt_isinstance : bootBuiltins "isinstance" = some (.builtin "isinstance") := by decide +kernel
theorem bt_iter : bootBuiltins "iter" = some (.builtin "iter") := by decide +kernel
end
section
variable {X : CD} {a b e tg it : Expr} {ρ : Rn} {m : Led} {R : List D → Led → Prop} {p pos tpos : Pos} {mg : Str → Option Value}
theorem j_range1 (hm : mg "range" = none) (h : EX X a ρ m fun d m1 => ∃ j : Int, d = .int j ∧ -100000 ≤ j ∧ j ≤ 100000 ∧ R (rangeD 0 j.toNat) m1) (hX : X.mg = mg := by rfl) (hg : Gl X "range" := by rfl) (hs : starEach [a] X.env = [(false, eval a X.env)] := by rfl) : IX X tg (.Call (.Name "range" p) [a] [] pos) ρ m R := by
  subst hX
  exact ix_range1 h hm hg hs
theorem j_range2 (hm : mg "range" = none) (h : EX X a ρ m fun d m1 => EX X b ρ m1 fun d2 m2 => ∃ i j : Int, d = .int i ∧ d2 = .int j ∧ (-100000 ≤ i ∧ i ≤ 100000 ∧ -100000 ≤ j ∧ j ≤ 100000) ∧ R (rangeD i (j - i).toNat) m2) (hX : X.mg = mg := by rfl) (hg : Gl X "range" := by rfl)
    (hs : starEach [a, b] X.env = [(false, eval a X.env), (false, eval b X.env)] := by rfl) (hs2 : starEach [b] X.env = [(false, eval b X.env)] := by rfl) (hs1 : starEach [a, b] X.env = (false, eval a X.env) :: starEach [b] X.env := by rfl) : IX X tg (.Call (.Name "range" p) [a, b] [] pos) ρ m R := by
  subst hX
  exact ix_range2 h hm hg hs hs2 hs1
theorem j_zip {elts : List Expr} {kk : Nat} (hm : mg "zip" = none) (h : EX X a ρ m fun d m1 => EX X b ρ m1 fun d2 m2 => ∃ as bs, ((d = .lst as ∧ d2 = .lst bs) ∨ (d = .tup as ∧ d2 = .tup bs)) ∧ R (zipD as bs) m2) (hX : X.mg = mg := by rfl) (hg : Gl X "zip" := by rfl)
    (hs : starEach [a, b] X.env = (false, eval a X.env) :: starEach [b] X.env := by rfl) (hs2 : starEach [b] X.env = (false, eval b X.env) :: starEach [] X.env := by rfl) (hpl : (backTo pos (starEach [b] X.env)).any (·.1) = false := by rfl) : IX X (.Tuple elts kk tpos) (.Call (.Name "zip" p) [a, b] [] pos) ρ m R := by
  subst hX
  refine .mk fun F σ H en at_ => ?_
  refine SI.of (pi_zipA hg hm (pa_cons (pe_SE (e := a)) (pa_cons (pe_SE (e := b)) pa_nil hs2) hs) hs hpl) (h.go en at_ fun v d F1 m1 H1 s1 en1 q r1 => r1.go en1 s1.at2 fun v2 d2 F2 m2 H2 s2 en2 q2 ⟨as, bs, ed, r⟩ => ?_)
  rcases ed with ⟨rfl, rfl⟩ | ⟨rfl, rfl⟩
  · cases q with
    | lst hq hqs =>
      cases q2 with
      | lst hq2 hqs2 =>
        have e1 := s2.ex
        refine ⟨_, _, _, _, rfl, .inl ⟨.inl (s2.at2.sub.rd (e1.rd hq)), .inl (s2.at2.sub.rd hq2), _, F2, m2, s1.trans s2, r, ?_⟩⟩
        refine Walk.mono (walk_zip (K := X.K) (n := (zipD as bs).length) (by rw [zipD_len, hqs.length, hqs2.length])) (fun H' e => ⟨.inl (e.rd (e1.rd hq)), .inl (e.rd hq2)⟩) fun i H' x H'' _ _ y => yd_pair (fun u w hu hw => ?_) y
        obtain ⟨d1, g1, q1⟩ := hqs.getV hu
        obtain ⟨d2, g2, q2⟩ := hqs2.getV hw
        exact ⟨d1, d2, q1.mono e1, q2, zipD_get g1 g2⟩
  · cases q with
    | tup hq hqs =>
      cases q2 with
      | tup hq2 hqs2 =>
        have e1 := s2.ex
        refine ⟨_, _, _, _, rfl, .inr ⟨s2.at2.sub.sqT (e1.sqT hq), s2.at2.sub.sqT hq2, _, F2, m2, s1.trans s2, r, ?_⟩⟩
        refine Walk.mono (walk_zipT (K := X.K) (n := (zipD as bs).length) (by rw [zipD_len, hqs.length, hqs2.length])) (fun H' e => ⟨e.sqT (e1.sqT hq), e.sqT hq2⟩) fun i H' x H'' _ _ y => yd_pair (fun u w hu hw => ?_) y
        obtain ⟨d1, g1, q1⟩ := hqs.getV hu
        obtain ⟨d2, g2, q2⟩ := hqs2.getV hw
        exact ⟨d1, d2, q1.mono e1, q2, zipD_get g1 g2⟩
theorem j_enum {elts : List Expr} {kk : Nat} (hm : mg "enumerate" = none) (h : EX X a ρ m fun d m1 => ∃ as, d = .lst as ∧ R (enumD as) m1) (hX : X.mg = mg := by rfl) (hg : Gl X "enumerate" := by rfl)
    (hs : starEach [a] X.env = [(false, eval a X.env)] := by rfl) (hs2 : starEach [a] X.env = (false, eval a X.env) :: starEach [] X.env := by rfl) : IX X (.Tuple elts kk tpos) (.Call (.Name "enumerate" p) [a] [] pos) ρ m R := by
  subst hX
  exact ix_enum h hm hg hs hs2
theorem px_none {X : CD} {ρ : Rn} {m : Led} {R : Option Int → Led → Prop} (h : R none m) : PX X none ρ m R := h
theorem px_some {X : CD} {e : Expr} {ρ : Rn} {m : Led} {R : Option Int → Led → Prop} (h : EX X e ρ m fun d m1 => ∃ i, d = .int i ∧ R (some i) m1) : PX X (some e) ρ m R := h
end
/-! lists and tuples alike -/
def Seq (d : D) (ds : List D) : Prop := d = .lst ds ∨ d = .tup ds
def iSeq (X : CD) (it : Expr) : TI := fun σ H R => SE X it σ H fun x H1 => ∃ a, x = .ref a ∧ (((∃ xs, SqL X.K H1 a xs) ∧ R (Itl X.K a) H1) ∨ ((∃ xs, SqT X.K H1 a xs) ∧ R (Itt X.K a) H1))
theorem pi_seq {X : CD} {tg l : Expr} : PI X tg l (iSeq X l) := by
  refine ⟨fun pins s σ H R I h => ?_⟩
  refine thn (h pins s I) fun v s1 ⟨x, H1, I1, r1, q1⟩ => ?_
  obtain ⟨a, e, ⟨⟨xs, hq⟩, q⟩ | ⟨⟨xs, hq⟩, q⟩⟩ := q1
  · subst e
    cases r1
    obtain ⟨its, rv, p, hz⟩ := I1.list hq
    refine wpAny_pyIter_list p.isList ?_
    refine ⟨s1.heap.objs.size, [s1.heap.objs.size], _, _, H1, rfl, I1.kept (t' := s1.toks) fun b o e => Heap.get?_push_of_some _ e, turn_list a _, ⟨_, Heap.get?_push_size _ rfl, rfl, rfl⟩, fun b hb => ?_, q⟩
    have e : b = s1.heap.objs.size := by simpa using hb
    subst e
    exact I1.fpOk (Nat.le_refl _) (I1.hok.fresh (Nat.le_refl _))
  · subst e
    cases r1
    obtain ⟨its, rv, p, hz⟩ := I1.tuple hq
    refine wpAny_pyIter_tuple (show s1.heap.IsTuple a its.toArray from p) ?_
    refine ⟨s1.heap.objs.size, [s1.heap.objs.size], _, _, H1, rfl, I1.kept (t' := s1.toks) fun b o e => Heap.get?_push_of_some _ e, turn_tuple a _, ⟨_, Heap.get?_push_size _ rfl, rfl, rfl⟩, fun b hb => ?_, q⟩
    have e : b = s1.heap.objs.size := by simpa using hb
    subst e
    exact I1.fpOk (Nat.le_refl _) (I1.hok.fresh (Nat.le_refl _))
theorem ix_seq {X : CD} {tg it : Expr} {ρ : Rn} {m : Led} {R : List D → Led → Prop} (h : EX X it ρ m fun d m1 => ∃ ds, Seq d ds ∧ R ds m1) : IX X tg it ρ m R := .mk fun F σ H en at_ =>
  SI.of pi_seq (h.go en at_ fun v d F1 m1 H1 s1 en1 q ⟨ds, ed, r⟩ => by
    rcases ed with rfl | rfl
    · cases q with
      | lst hq hs => exact ⟨_, rfl, .inl ⟨⟨_, .inl (s1.at2.sub.rd hq)⟩, ds, F1, m1, s1, r, by rw [← hs.length]; exact walk_list.mono (fun H' e => .inl (e.rd hq)) fun i H' x H'' _ _ y => yd_at hs y⟩⟩
    · cases q with
      | tup hq hs => exact ⟨_, rfl, .inr ⟨⟨_, s1.at2.sub.sqT hq⟩, ds, F1, m1, s1, r, by rw [← hs.length]; exact walk_tup.mono (fun H' e => e.sqT hq) fun i H' x H'' _ _ y => yd_at hs y⟩⟩)
/-! isinstance, by kinds -/
section
variable {X : CD} {m : Led} {R : D → Led → Prop}
theorem isi_NoneType_int (k : R (.bl false) m) : BX X (.builtin "isinstance") [.non, .ty "int"] m R := b_isi rfl (show kitB "NoneType" "int" = some false by decide +kernel) k
theorem isi_NoneType_bool (k : R (.bl false) m) : BX X (.builtin "isinstance") [.non, .ty "bool"] m R := b_isi rfl (show kitB "NoneType" "bool" = some false by decide +kernel) k
theorem isi_NoneType_list (k : R (.bl false) m) : BX X (.builtin "isinstance") [.non, .ty "list"] m R := b_isi rfl (show kitB "NoneType" "list" = some false by decide +kernel) k
theorem isi_NoneType_tuple (k : R (.bl false) m) : BX X (.builtin "isinstance") [.non, .ty "tuple"] m R := b_isi rfl (show kitB "NoneType" "tuple" = some false by decide +kernel) k
theorem isi_NoneType_dict (k : R (.bl false) m) : BX X (.builtin "isinstance") [.non, .ty "dict"] m R := b_isi rfl (show kitB "NoneType" "dict" = some false by decide +kernel) k
theorem isi_NoneType_str (k : R (.bl false) m) : BX X (.builtin "isinstance") [.non, .ty "str"] m R := b_isi rfl (show kitB "NoneType" "str" = some false by decide +kernel) k
theorem isi_bool_int {c : Bool} (k : R (.bl true) m) : BX X (.builtin "isinstance") [.bl c, .ty "int"] m R := b_isi rfl (show kitB "bool" "int" = some true by decide +kernel) k
theorem isi_bool_bool {c : Bool} (k : R (.bl true) m) : BX X (.builtin "isinstance") [.bl c, .ty "bool"] m R := b_isi rfl (show kitB "bool" "bool" = some true by decide +kernel) k
theorem isi_bool_list {c : Bool} (k : R (.bl false) m) : BX X (.builtin "isinstance") [.bl c, .ty "list"] m R := b_isi rfl (show kitB "bool" "list" = some false by decide +kernel) k
theorem isi_bool_tuple {c : Bool} (k : R (.bl false) m) : BX X (.builtin "isinstance") [.bl c, .ty "tuple"] m R := b_isi rfl (show kitB "bool" "tuple" = some false by decide +kernel) k
theorem isi_bool_dict {c : Bool} (k : R (.bl false) m) : BX X (.builtin "isinstance") [.bl c, .ty "dict"] m R := b_isi rfl (show kitB "bool" "dict" = some false by decide +kernel) k
theorem isi_bool_str {c : Bool} (k : R (.bl false) m) : BX X (.builtin "isinstance") [.bl c, .ty "str"] m R := b_isi rfl (show kitB "bool" "str" = some false by decide +kernel) k
theorem isi_int_int {i : Int} (k : R (.bl true) m) : BX X (.builtin "isinstance") [.int i, .ty "int"] m R := b_isi rfl (show kitB "int" "int" = some true by decide +kernel) k
theorem isi_int_bool {i : Int} (k : R (.bl false) m) : BX X (.builtin "isinstance") [.int i, .ty "bool"] m R := b_isi rfl (show kitB "int" "bool" = some false by decide +kernel) k
theorem isi_int_list {i : Int} (k : R (.bl false) m) : BX X (.builtin "isinstance") [.int i, .ty "list"] m R := b_isi rfl (show kitB "int" "list" = some false by decide +kernel) k
theorem isi_int_tuple {i : Int} (k : R (.bl false) m) : BX X (.builtin "isinstance") [.int i, .ty "tuple"] m R := b_isi rfl (show kitB "int" "tuple" = some false by decide +kernel) k
theorem isi_int_dict {i : Int} (k : R (.bl false) m) : BX X (.builtin "isinstance") [.int i, .ty "dict"] m R := b_isi rfl (show kitB "int" "dict" = some false by decide +kernel) k
theorem isi_int_str {i : Int} (k : R (.bl false) m) : BX X (.builtin "isinstance") [.int i, .ty "str"] m R := b_isi rfl (show kitB "int" "str" = some false by decide +kernel) k
theorem isi_str_int {z : Str} (k : R (.bl false) m) : BX X (.builtin "isinstance") [.str z, .ty "int"] m R := b_isi rfl (show kitB "str" "int" = some false by decide +kernel) k
theorem isi_str_bool {z : Str} (k : R (.bl false) m) : BX X (.builtin "isinstance") [.str z, .ty "bool"] m R := b_isi rfl (show kitB "str" "bool" = some false by decide +kernel) k
theorem isi_str_list {z : Str} (k : R (.bl false) m) : BX X (.builtin "isinstance") [.str z, .ty "list"] m R := b_isi rfl (show kitB "str" "list" = some false by decide +kernel) k
theorem isi_str_tuple {z : Str} (k : R (.bl false) m) : BX X (.builtin "isinstance") [.str z, .ty "tuple"] m R := b_isi rfl (show kitB "str" "tuple" = some false by decide +kernel) k
theorem isi_str_dict {z : Str} (k : R (.bl false) m) : BX X (.builtin "isinstance") [.str z, .ty "dict"] m R := b_isi rfl (show kitB "str" "dict" = some false by decide +kernel) k
theorem isi_str_str {z : Str} (k : R (.bl true) m) : BX X (.builtin "isinstance") [.str z, .ty "str"] m R := b_isi rfl (show kitB "str" "str" = some true by decide +kernel) k
theorem isi_list_int {xs : List D} (k : R (.bl false) m) : BX X (.builtin "isinstance") [.lst xs, .ty "int"] m R := b_isi rfl (show kitB "list" "int" = some false by decide +kernel) k
theorem isi_list_bool {xs : List D} (k : R (.bl false) m) : BX X (.builtin "isinstance") [.lst xs, .ty "bool"] m R := b_isi rfl (show kitB "list" "bool" = some false by decide +kernel) k
theorem isi_list_list {xs : List D} (k : R (.bl true) m) : BX X (.builtin "isinstance") [.lst xs, .ty "list"] m R := b_isi rfl (show kitB "list" "list" = some true by decide +kernel) k
theorem isi_list_tuple {xs : List D} (k : R (.bl false) m) : BX X (.builtin "isinstance") [.lst xs, .ty "tuple"] m R := b_isi rfl (show kitB "list" "tuple" = some false by decide +kernel) k
theorem isi_list_dict {xs : List D} (k : R (.bl false) m) : BX X (.builtin "isinstance") [.lst xs, .ty "dict"] m R := b_isi rfl (show kitB "list" "dict" = some false by decide +kernel) k
theorem isi_list_str {xs : List D} (k : R (.bl false) m) : BX X (.builtin "isinstance") [.lst xs, .ty "str"] m R := b_isi rfl (show kitB "list" "str" = some false by decide +kernel) k
theorem isi_tuple_int {xs : List D} (k : R (.bl false) m) : BX X (.builtin "isinstance") [.tup xs, .ty "int"] m R := b_isi rfl (show kitB "tuple" "int" = some false by decide +kernel) k
theorem isi_tuple_bool {xs : List D} (k : R (.bl false) m) : BX X (.builtin "isinstance") [.tup xs, .ty "bool"] m R := b_isi rfl (show kitB "tuple" "bool" = some false by decide +kernel) k
theorem isi_tuple_list {xs : List D} (k : R (.bl false) m) : BX X (.builtin "isinstance") [.tup xs, .ty "list"] m R := b_isi rfl (show kitB "tuple" "list" = some false by decide +kernel) k
theorem isi_tuple_tuple {xs : List D} (k : R (.bl true) m) : BX X (.builtin "isinstance") [.tup xs, .ty "tuple"] m R := b_isi rfl (show kitB "tuple" "tuple" = some true by decide +kernel) k
theorem isi_tuple_dict {xs : List D} (k : R (.bl false) m) : BX X (.builtin "isinstance") [.tup xs, .ty "dict"] m R := b_isi rfl (show kitB "tuple" "dict" = some false by decide +kernel) k
theorem isi_tuple_str {xs : List D} (k : R (.bl false) m) : BX X (.builtin "isinstance") [.tup xs, .ty "str"] m R := b_isi rfl (show kitB "tuple" "str" = some false by decide +kernel) k
end
/-! a statement, then the rest from a word between them -/
theorem S1.mono {X : CD} {st : Stmt} {ρ : Rn} {m : Led} {E E' : EndsD} (h : S1 X st ρ m E) (h1 : ∀ ρ m, E.nx ρ m → E'.nx ρ m) (h2 : ∀ d m, E.rt d m → E'.rt d m) (h3 : ∀ ρ m, E.bk ρ m → E'.bk ρ m) (h4 : ∀ ρ m, E.ct ρ m → E'.ct ρ m) : S1 X st ρ m E' := .mk fun F σ H en a =>
  (h.run F σ H en a).mono (fun σ H ⟨ρ, F2, m2, s, e, r⟩ => ⟨ρ, F2, m2, s, e, h1 _ _ r⟩) (fun v H ⟨d, F2, m2, s, e, r⟩ => ⟨d, F2, m2, s, e, h2 _ _ r⟩) (fun σ H ⟨ρ, F2, m2, s, e, r⟩ => ⟨ρ, F2, m2, s, e, h3 _ _ r⟩) (fun σ H ⟨ρ, F2, m2, s, e, r⟩ => ⟨ρ, F2, m2, s, e, h4 _ _ r⟩)
theorem s_cut {X : CD} {st : Stmt} {sts : List Stmt} {ρ : Rn} {m : Led} {E : EndsD} (Mid : Rn → Led → Prop) (h1 : S1 X st ρ m { E with nx := Mid }) (h2 : ∀ ρ' m', Mid ρ' m' → SX X sts ρ' m' E) : SX X (st :: sts) ρ m E :=
  s_cons (h1.mono (fun ρ' m' q => h2 ρ' m' q) (fun _ _ q => q) (fun _ _ q => q) fun _ _ q => q)
/-- a value, then what follows from a word about it -/
theorem e_cut {X : CD} {e : Expr} {ρ : Rn} {m : Led} {R : D → Led → Prop} (Mid : D → Led → Prop) (h1 : EX X e ρ m Mid) (h2 : ∀ d m', Mid d m' → R d m') : EX X e ρ m R := h1.mono h2
theorem t_cut {X : CD} {e : Expr} {ρ : Rn} {m : Led} {R : Bool → Led → Prop} (Mid : Bool → Led → Prop) (h1 : TX X e ρ m Mid) (h2 : ∀ d m', Mid d m' → R d m') : TX X e ρ m R := h1.mono h2
theorem Knows.mono {P : Program} {w : World} {K : Frag} {mg : Str → Option Value} {base : Heap} {j k n : Nat} {x : Str} {sp : SpD} (h : Knows P w K mg base j x n sp) (hk : j ≤ k) : Knows P w K mg base k x n sp := by
  obtain ⟨f, fd, ps, a, b, c, d, e⟩ := h.fn
  exact ⟨f, fd, ps, a.mono hk, b, c, d, e⟩
/-- the law's call -/
theorem law_start {K : Frag} {sp : SpD} {H : Hp} {a : Addr} {ns : List Int} {E : XK} (hS : SqL K H a (ns.map V.int)) (h : ∀ R : D → Led → Prop, (∀ m', R (.bl true) m') → sp [.lsk (ns.map D.int)] [] R) : lift K sp [.ref a] H (fun v _ => v = .bl true) E :=
  ⟨H, [], [.lsk (ns.map D.int)], fun d _ => d = .bl true, .cons (.lsk hS Dens.of_ints) .nil, ⟨Ex.refl _, fun _ h => (nomatch h), fun _ h => (nomatch h), List.nodup_nil⟩, h _ fun _ => rfl, fun d m2 v F2 H2 e _ q => by subst e; exact q.bl_inv⟩
end DL

namespace DL
open PySem PySem.Spec PySem.Calls PyProof.Rows L2 PySem.W

/-! ### an own exception class over ValueError whose __init__ begins with super().__init__(text) -/
/-- what the written part says of the class and of its __init__ -/
structure XIn (P : Program) (K : Frag) (mg : Str → Option Value) (C fI cc cda : Addr) (q : Str) (fd : FuncData) : Prop where
  T : OexC K C
  iC : findIn K (.ref C) "__init__" = some (some (.ref fI))
  tI : typeIn K (.ref fI) = some (.type "function")
  lf : ∃ oc od osl, K.lookup fI = some ⟨oc, od, .func fd, osl⟩
  lc : codeIn K (.ref cda) q = true
  fq : fd.qualname = q
  fc : fd.code = .ref cda
  fl : fd.closure = [(("__class__" : Str), cc)]
  fg : fd.globals = mainGlobals
  fb : fd.builtins = builtinsNs
  hcode : ∃ ccl cdd vs ccs file tf, K.lookup cda = some ⟨ccl, cdd, .fields vs, ccs⟩ ∧ vs[2]? = some (.str file tf) ∧ ((P.main.file : Str) == file) = true
  hcell : ∃ cl cld csl, K.lookup cc = some ⟨cl, cld, .cell (some (.ref C)), csl⟩
  sup : ks_superIn K C C "__init__" = some (some (.builtin "ValueError.__init__"))
  sub : mroIn K C (.ref C) = some true
  sVE : subIn K (.ref C) (.type "ValueError") = some true
  opq : nsIn K cStatics "thirdparty.any" = some none
  exi : excInitIn K C [.type "ValueError", .type "Exception", .type "BaseException", .type "object"] "ValueError.__new__" = true
  mgs : mg "super" = none
  top : (P.main.scope.names.lookup ("super" : Str)).isSome = false

section
variable {P : Program} {w : World} {K : Frag} {mg : Str → Option Value} {C fI cc cda : Addr} {q : Str} {fd : FuncData} {A : Around} {E : Value → Shared → Prop}
theorem call_mw {s : Shared} {u e t0 : Addr} {rest : List Value} {Q : Value → Shared → Prop} (Z : XIn P K mg C fI cc cda q fd) (X : K.In s.heap) (hu : s.heap.get? u = some (kxs_mw "ValueError.__init__" e)) (he : s.heap.get? e = some (HandSPX.excO C t0)) (hz : rest.length ≤ sizeLine)
    (h : ∀ h' t1, (∀ b o, b ≠ e → s.heap.get? b = some o → h'.get? b = some o) → h'.get? e = some (HandSPX.excO C t1) → Q .none { s with heap := h' }) : wpAny (model P w) A (call (.ref u) rest) Q E s := by
  obtain ⟨nm, N', qn, bs, bm, hdct, sn, sub, ab, col, dd, k0, k1, k2, k3, k5, hC, hT⟩ := excInit_of X Z.exi
  obtain ⟨hh, g, d, tk, os⟩ := s
  refine wpAny_call (codeAny_of_tree ?_)
  show wpAny _ A.in1 (callAny (.ref u) ⟨rest, []⟩) _ _ _
  simp only [callAny]
  refine wpAny_bind (wpAny_load hu ?_)
  simp only [kxs_mw, show (Value.type "method-wrapper" == Value.type "method" || Value.type "method-wrapper" == Value.type "builtin_function_or_method" || Value.type "method-wrapper" == Value.type "method-wrapper") = true by decide, if_true]
  refine KFB.if_so (by decide) ?_
  refine wpAny_bind (check_bound_init F.excBase_ValueError.toExcCallFacts hC he rfl ?_)
  refine wpAny_bind (wpAny_pure (wpAny_pure ?_))
  refine ⟨plainId_quiet F.excBase_ValueError.init.plain _, codeAny_builtin F.excBase_ValueError.initEntry ?_⟩
  exact exc_init_tree (cls := .ref C) (t0 := t0) (dv := none) (c2 := .none) (c3 := .none) (b4 := .bool false) he hz fun h' k e' t' => h h' _ k e'

/-- the statement super().__init__(text) -/
theorem super_stmt {s : Shared} {body : List Stmt} {L e t0 : Addr} {m mb : Str → Option Value} {ar : Arg} {msg : Str} {j : Nat} {p0 p1 p2 p3 p4 p5 : Pos} {Q : Flow → Shared → Prop} {pl : Sem Bool} (Z : XIn P K mg C fI cc cda q fd) (X : K.In s.heap)
    (glob : s.heap.Ns mainGlobals mg) (blt : s.heap.Ns builtinsNs mb) (hmb : mb "super" = bootBuiltins "super")
    (hks : fd.scope.names.lookup ("super" : Str) = some .globalImplicit) (hkc : fd.scope.names.lookup ("__class__" : Str) = some .free) (hka : fd.scope.names.lookup ar.arg = some .local) (hk : fd.scope.kind = .function)
    (hp : (fd.params.posonlyargs ++ fd.params.args).head? = some ar) (ns : s.heap.Ns L m) (hv : m ar.arg = some (.ref e)) (he : s.heap.get? e = some (HandSPX.excO C t0))
    (hev : eval (.Call (.Attribute (.Call (.Name "super" p0) [] [] p1) "__init__" p2) [.Constant (.str msg) j p3] [] p4) (callEnv fd L fI) = (do
      let ov ← attributeBase (.Call (.Name "super" p0) [] [] p1) "__init__" (callEnv fd L fI) (eval (.Call (.Name "super" p0) [] [] p1) (callEnv fd L fI))
      standAt p2.atName
      let (f, first) ← holding [ov] (getMethod ov "__init__" pl)
      callWith p4 f first (backTo p4 (starEach [.Constant (.str msg) j p3] (callEnv fd L fI))) []))
    (h : ∀ h' t1 tk, (∀ b o, b ≠ e → s.heap.get? b = some o → h'.get? b = some o) → h'.get? e = some (HandSPX.excO C t1) → Q .next { s with heap := h', toks := tk }) :
    _root_.PySem.wpAt (model P w) A (.func body (callEnv fd L fI)) (exec (.Expr (.Call (.Attribute (.Call (.Name "super" p0) [] [] p1) "__init__" p2) [.Constant (.str msg) j p3] [] p4) p5) (callEnv fd L fI)) Q E s := by
  obtain ⟨oc, od, osl, lf⟩ := Z.lf
  obtain ⟨ccl, cdd, vs, ccs, file, tf, lco, hvs, hfile⟩ := Z.hcode
  obtain ⟨cl, cld, csl, lce⟩ := Z.hcell
  have hc0 : ∃ cd, clsIn K C = some cd := by
    cases z : clsIn K C with
    | some cd => exact ⟨cd, rfl⟩
    | none => have := Z.sup; unfold ks_superIn at this; rw [z] at this; cases this
  obtain ⟨cd, hcd⟩ := hc0
  obtain ⟨oD, hD1, hD2⟩ : ∃ oD, s.heap.get? C = some oD ∧ oD.data = .cls cd := by
    have hcd' := hcd
    unfold clsIn at hcd'
    split at hcd'
    · rename_i c d cd' sl ho
      cases hcd'
      exact ⟨_, X _ _ ho, rfl⟩
    · cases hcd'
  have hsup := Z.sup
  unfold ks_superIn at hsup
  rw [hcd, Option.bind_some] at hsup
  have neC : e ≠ C := fun z => by
    rw [z, hD1] at he
    cases he
    cases hD2
  refine ks_wpAt_Expr_any (hi := by show (fd.scope.kind == .module && _) = false; rw [hk]; rfl) ?_
  refine ks_wpAt_MethodCall (he := hev) ?_
  refine ks_wpAt_super_base (env := callEnv fd L fI) hks hkc (by decide) rfl (X _ _ lf) rfl hp Z.fc (X _ _ lco) rfl hvs hfile Z.top ?_
  have hgl : (callEnv fd L fI).globals = mainGlobals := Z.fg
  have hbu : (callEnv fd L fI).builtins = builtinsNs := Z.fb
  refine ks_loadName_global hk hks (loadGlobal_builtin (env := callEnv fd L fI) (by rw [hgl]; exact glob) Z.mgs (by rw [hbu]; exact blt) (hmb.trans (show bootBuiltins "super" = some (.type "super") by decide +kernel)) ⟨rfl, ?_⟩)
  refine wpAny_loadName_free hk hkc (show (callEnv fd L fI).cells.lookup ("__class__" : Str) = some cc by (show List.lookup _ fd.closure = _; rw [Z.fl]; rfl)) ⟨_, X _ _ lce, rfl⟩ ?_
  refine wpAny_loadName_local hk hka ns hv ?_
  refine ks_wpAny_isType_cls hD1 hD2 ⟨rfl, ?_⟩
  obtain ⟨hh, g, d, tk, os⟩ := s
  refine ks_wpAny_call_super hD1 hD2 he rfl (fun c z => by cases z) (looks_mroIn X Z.sub) (fun h1 e1 k1 => ?_)
  have X1 : K.In h1 := X.keeps k1
  have he1 : h1.get? e = some (HandSPX.excO C t0) := k1 _ _ he
  have LI : Looks (model P w) h1 (isInstance (.ref e) (.type "ValueError")) true := by
    have I : InstAt h1 e (HandSPX.excO C t0) C none := ⟨he1, rfl, rfl, trivial⟩
    exact I.type.andThen (looks_subIn X1 Z.sVE)
  refine kxs_getMethod kxs_ValueError e1 (looks_opaque X1 Z.opq) (l₀ := cd.mro) (fun A Q E s k q => wpAny_bind ((looks_clsIn X1 hcd) A _ E s k (wpAny_pure q))) rfl X1 hsup LI neC (by decide) ?_
  have hm : (h1.push (kxs_mw "ValueError.__init__" e)).get? h1.objs.size = some (kxs_mw "ValueError.__init__" e) := Heap.get?_push_at rfl rfl
  have k2 : ∀ b o, h1.get? b = some o → (h1.push (kxs_mw "ValueError.__init__" e)).get? b = some o := fun b o z => Heap.get?_push_of_some _ z
  refine kxs_callWith (i := "ValueError.__init__") (x := e) rfl (evalArgs_plain ?_)
  refine spliced_more (wpAny_Constant_str (spliced_none ?_)) rfl
  refine ⟨hm, ?_⟩
  show wpAny _ _ (call (.ref h1.objs.size) _) _ _ _
  refine call_mw (s := ⟨h1.push (kxs_mw "ValueError.__init__" e), g, d, _, os⟩) Z (X1.keeps k2) hm (k2 _ _ he1) (by show 1 ≤ sizeLine; rw [sizeLine_eq]; omega) fun h' t1 k3 e3 => ?_
  exact h h' t1 _ (fun b o hb z => k3 b o hb (k2 _ _ (k1 _ _ z))) e3

/-- the scope of such an __init__ -/
structure XSc (fd : FuncData) (sf : Str) : Prop where
  ks : fd.scope.names.lookup ("super" : Str) = some .globalImplicit
  kc : fd.scope.names.lookup ("__class__" : Str) = some .free
  ka : fd.scope.names.lookup sf = some .local
  kk : fd.scope.kind = .function
  hp : ∃ ar : Arg, (fd.params.posonlyargs ++ fd.params.args).head? = some ar ∧ ar.arg = sf
  cell : ∀ x ∈ fd.scope.names, x.2 ≠ .cell
  co : fd.scope.isCoroutine = false
  gen : fd.scope.isGenerator = false
def supCall (msg : Str) (j : Nat) (p0 p1 p2 p3 p4 : Pos) : Expr := .Call (.Attribute (.Call (.Name "super" p0) [] [] p1) "__init__" p2) [.Constant (.str msg) j p3] [] p4
/-- how the call is read -/
def SupEv (fd : FuncData) (fI : Addr) (msg : Str) (j : Nat) (p0 p1 p2 p3 p4 : Pos) : Prop := ∃ pl : Sem Bool, ∀ L, eval (.Call (.Attribute (.Call (.Name "super" p0) [] [] p1) "__init__" p2) [.Constant (.str msg) j p3] [] p4) (callEnv fd L fI) = (do
      let ov ← attributeBase (.Call (.Name "super" p0) [] [] p1) "__init__" (callEnv fd L fI) (eval (.Call (.Name "super" p0) [] [] p1) (callEnv fd L fI))
      standAt p2.atName
      let (f, first) ← holding [ov] (getMethod ov "__init__" pl)
      callWith p4 f first (backTo p4 (starEach [.Constant (.str msg) j p3] (callEnv fd L fI))) [])
theorem ns_keep {h h' : Heap} {L e : Addr} {m : Str → Option Value} (ns : h.Ns L m) (ne : L ≠ e) (k : ∀ b o, b ≠ e → h.get? b = some o → h'.get? b = some o) : h'.Ns L m := by
  obtain ⟨o, es, ep, e1, r⟩ := ns
  exact ⟨o, es, ep, k _ _ ne e1, r⟩
theorem init_call0 {s : Shared} {R : Result → Shared → Prop} {e t0 : Addr} {mb : Str → Option Value} {sf msg : Str} {j : Nat} {p0 p1 p2 p3 p4 p5 : Pos} (Z : XIn P K mg C fI cc cda q fd) (X : K.In s.heap) (lim : s.heap.NoLimit)
    (glob : s.heap.Ns mainGlobals mg) (blt : s.heap.Ns builtinsNs mb) (hmb : mb "super" = bootBuiltins "super") (room : A.depth < recursionLimit) (S : XSc fd sf)
    (hev : SupEv fd fI msg j p0 p1 p2 p3 p4) (hbody : fd.body = .stmts [.Expr (.Call (.Attribute (.Call (.Name "super" p0) [] [] p1) "__init__" p2) [.Constant (.str msg) j p3] [] p4) p5])
    (hbind : BindsTo s fd ⟨[.ref e], []⟩ [(sf, .ref e)]) (he : s.heap.get? e = some (HandSPX.excO C t0))
    (h : ∀ h' t1 tk, (∀ b o, b ≠ e → s.heap.get? b = some o → h'.get? b = some o) → h'.get? e = some (HandSPX.excO C t1) → R (.ok (.ret .none)) { s with heap := h', toks := tk }) :
    codeAny (model P w) A (.call (.ref fI) ⟨[.ref e], []⟩) R s := by
  obtain ⟨oc, od, osl, lf⟩ := Z.lf
  obtain ⟨pl, hev⟩ := hev
  obtain ⟨ar, hp, har⟩ := S.hp
  have hcd : s.heap.CodeRec fd.code fd.qualname := by rw [Z.fc, Z.fq]; exact codeRec_of X Z.lc
  refine ks_codeAny_call_defAt (fd := fd) room (X _ _ lf) rfl lim hcd hbody hbind S.cell (fun x hx => by rw [List.mem_singleton.mp hx]; exact S.ka) (fun h0 ns k0 => ?_) S.co S.gen S.kk
  have he0 := k0 _ _ he
  refine ks_wpAt_execs_cons ?_
  refine super_stmt (s := { s with heap := h0, toks := s.toks + 1 }) (ar := ar) (e := e) (pl := pl) Z (X.keeps k0) (glob.keeps k0) (blt.keeps k0) hmb S.ks S.kc (by rw [har]; exact S.ka) S.kk hp ns (by rw [har]; simp) he0 (hev _) fun h' t1 tk k e1 => ?_
  exact wpAt_of_wpAny (wpAny_execs_nil (h h' t1 tk (fun b o hb z => k b o hb (k0 _ _ z)) e1))
theorem init_call1 {s : Shared} {R : Result → Shared → Prop} {e t0 : Addr} {u : Value} {mb : Str → Option Value} {sf par f msg : Str} {j : Nat} {p0 p1 p2 p3 p4 p5 q1 q2 q3 q4 : Pos} (Z : XIn P K mg C fI cc cda q fd) (X : K.In s.heap) (lim : s.heap.NoLimit)
    (glob : s.heap.Ns mainGlobals mg) (blt : s.heap.Ns builtinsNs mb) (hmb : mb "super" = bootBuiltins "super") (room : A.depth < recursionLimit) (S : XSc fd sf)
    (hev : SupEv fd fI msg j p0 p1 p2 p3 p4) (hpar : fd.scope.names.lookup par = some .local) (hne : par ≠ sf) (hno : findIn K (.ref C) f = some none) (hd1 : (sf == ("__debug__" : Str)) = false) (hd2 : (par == ("__debug__" : Str)) = false)
    (hsw : ∀ L, swapsWith (.Name par q4) (some (.Attribute (.Name sf q1) f q2)) q3.line (callEnv fd L fI) = pure false)
    (hbody : fd.body = .stmts [.Expr (.Call (.Attribute (.Call (.Name "super" p0) [] [] p1) "__init__" p2) [.Constant (.str msg) j p3] [] p4) p5, .Assign [.Attribute (.Name sf q1) f q2] (.Name par q4) q3])
    (heK : ∀ o, K.lookup e ≠ some o) (hbind : BindsTo s fd ⟨[.ref e, u], []⟩ [(sf, .ref e), (par, u)]) (he : s.heap.get? e = some (HandSPX.excO C t0))
    (h : ∀ h' t1 tk dx, (∀ b o, b ≠ e → s.heap.get? b = some o → h'.get? b = some o) → s.heap.objs.size ≤ dx → dx ≠ e → h'.get? e = some { cls := .ref C, dict := some dx, data := .fields #[.ref t1, .none, .none, .none, .bool false, .none] } → h'.Ns1 dx (fun y => if y = f then some u else none) → R (.ok (.ret .none)) { s with heap := h', toks := tk }) :
    codeAny (model P w) A (.call (.ref fI) ⟨[.ref e, u], []⟩) R s := by
  obtain ⟨oc, od, osl, lf⟩ := Z.lf
  obtain ⟨pl, hev⟩ := hev
  obtain ⟨ar, hp, har⟩ := S.hp
  obtain ⟨nm, qq, N, bs, bm, sn, sub, ab, col, dd, k0', k1, k2, k3, k5, hC, hbm⟩ := Z.T.cls
  have hcl : PySem.W.clsIn K C = some { name := nm, bases := bs, mro := .ref C :: bm, ns := N, qualname := qq, hasDict := true, slotNames := sn, subclasses := sub, abstract := ab, collection := col, hasDel := false } := by unfold PySem.W.clsIn; rw [hC] <;> rfl
  have hcd : s.heap.CodeRec fd.code fd.qualname := by rw [Z.fc, Z.fq]; exact codeRec_of X Z.lc
  refine ks_codeAny_call_defAt (fd := fd) room (X _ _ lf) rfl lim hcd hbody hbind S.cell (fun x hx => by
    rcases List.mem_cons.mp hx with z | z
    · rw [z]; exact S.ka
    · rw [List.mem_singleton.mp z]; exact hpar) (fun h0 ns k0 => ?_) S.co S.gen S.kk
  have he0 := k0 _ _ he
  have lkS : List.lookup sf [(par, u), (sf, Value.ref e)] = some (.ref e) := by
    rw [List.lookup_cons, show (sf == par) = false from beq_false_of_ne (Ne.symm hne)]; simp
  have lkP : List.lookup par [(par, u), (sf, Value.ref e)] = some u := by simp
  refine ks_wpAt_execs_cons ?_
  refine super_stmt (s := { s with heap := h0, toks := s.toks + 2 }) (ar := ar) (e := e) (pl := pl) Z (X.keeps k0) (glob.keeps k0) (blt.keeps k0) hmb S.ks S.kc (by rw [har]; exact S.ka) S.kk hp ns (by rw [har]; exact lkS) he0 (hev _) fun h' t1 tk k e1 => ?_
  have neL : s.heap.objs.size ≠ e := Nat.ne_of_gt (Heap.lt_size he)
  have ns' : h'.Ns s.heap.objs.size (fun x => [(par, u), (sf, Value.ref e)].lookup x) := ns_keep ns neL k
  refine ks_wpAt_execs_cons (ks_wpAt_Assign_Attr (wpAt_of_wpAny ?_) (hsw _))
  refine ldc S.kk hpar ns' lkP ?_ hd2
  refine ldc S.kk S.ka ns' lkS ?_ hd1
  have X' : K.In h' := fun b o z => k b o (fun y => heK o (y ▸ z)) (k0 _ _ (X b o z))
  refine PySem.W.set_plain X' (ox := { cls := .ref C, dict := none, data := .fields #[.ref t1, .none, .none, .none, .bool false, .none] }) (od := none) ⟨e1, rfl, rfl, trivial⟩ Z.T.sa ?_
  refine PySem.HandSPX.exc_osa X' e1 hcl (show PySem.HandSPX.refsVE (.ref C :: bm) = true from hbm) rfl hno (fun h2 tk' dx kk dn dne hx hn => ?_)
  refine wpAt_of_wpAny (wpAny_execs_nil (h h2 t1 tk' dx (fun b o hb z => kk b o hb (k b o hb (k0 _ _ z))) ?_ dne hx hn))
  obtain ⟨oL, es, ep, hL, _⟩ := ns'
  exact Nat.le_trans (Nat.le_of_lt (Heap.lt_size hL)) dn

/-- a class of exceptions as the data layer knows it: its text, the field (if it has one) -/
structure XK0 (P : Program) (w : World) (K : Frag) (mg : Str → Option Value) (nm : Str) (C : Addr) : Prop where
  mgC : mg nm = some (.ref C)
  T : OexC K C
  run : ∀ (A : Around) (s : Shared) (Q : Value → Shared → Prop) (E : Value → Shared → Prop) (mb : Str → Option Value), K.In s.heap → (∀ o, s.heap.objs.size ≤ s.heap.objs.size + 1 → K.lookup (s.heap.objs.size + 1) ≠ some o) → s.heap.NoLimit → s.heap.Ns mainGlobals mg → s.heap.Ns builtinsNs mb → mb "super" = bootBuiltins "super" → Room 1 A →
    (∀ h' t1 tk, (∀ b o, s.heap.get? b = some o → h'.get? b = some o) → h'.get? (s.heap.objs.size + 1) = some (HandSPX.excO C t1) → Q (.ref (s.heap.objs.size + 1)) { s with heap := h', toks := tk }) →
    wpAny (model P w) A (call (.ref C) []) Q E s
structure XK1 (P : Program) (w : World) (K : Frag) (mg : Str → Option Value) (nm f : Str) (C : Addr) : Prop where
  mgC : mg nm = some (.ref C)
  T : OexC K C
  run : ∀ (A : Around) (s : Shared) (u : Value) (Q : Value → Shared → Prop) (E : Value → Shared → Prop) (mb : Str → Option Value), K.In s.heap → (∀ o, s.heap.objs.size ≤ s.heap.objs.size + 1 → K.lookup (s.heap.objs.size + 1) ≠ some o) → s.heap.NoLimit → s.heap.Ns mainGlobals mg → s.heap.Ns builtinsNs mb → mb "super" = bootBuiltins "super" → Room 1 A →
    (∀ h' t1 tk dx, (∀ b o, s.heap.get? b = some o → h'.get? b = some o) → s.heap.objs.size ≤ dx → dx ≠ s.heap.objs.size + 1 → h'.get? (s.heap.objs.size + 1) = some { cls := .ref C, dict := some dx, data := .fields #[.ref t1, .none, .none, .none, .bool false, .none] } → h'.Ns1 dx (fun y => if y = f then some u else none) → Q (.ref (s.heap.objs.size + 1)) { s with heap := h', toks := tk }) →
    wpAny (model P w) A (call (.ref C) [u]) Q E s
theorem xk0_mk {nm sf msg : Str} {j : Nat} {p0 p1 p2 p3 p4 p5 : Pos} (mgC : mg nm = some (.ref C)) (Z : XIn P K mg C fI cc cda q fd) (S : XSc fd sf) (hev : SupEv fd fI msg j p0 p1 p2 p3 p4)
    (hbody : fd.body = .stmts [.Expr (.Call (.Attribute (.Call (.Name "super" p0) [] [] p1) "__init__" p2) [.Constant (.str msg) j p3] [] p4) p5]) (hbind : ∀ s e, BindsTo s fd ⟨[e], []⟩ [(sf, e)]) : XK0 P w K mg nm C := by
  refine ⟨mgC, Z.T, fun A s Q E mb X hK lim glob blt hmb room hq => ?_⟩
  obtain ⟨nm', qq, N, bs, bm, sn, sub, ab, col, dd, k0', k1, k2, k3, k5, hC, hbm⟩ := Z.T.cls
  obtain ⟨hp, g, d, tk, os⟩ := s
  have kk : ∀ b o, hp.get? b = some o → ((hp.push (PySem.W.kdv_tup [])).push (PySem.HandSPX.excO C hp.objs.size)).get? b = some o := fun b o e => Heap.get?_push_of_some _ (Heap.get?_push_of_some _ e)
  have hget : ((hp.push (PySem.W.kdv_tup [])).push (PySem.HandSPX.excO C hp.objs.size)).get? (hp.objs.size + 1) = some (PySem.HandSPX.excO C hp.objs.size) := by heap_get
  refine wpAny_call (PySem.HandSPX.call_own F.excBase_ValueError (fun Y => PySem.HandSPX.refsVE_contains Y bm hbm) (X _ _ hC) (PySem.W.looks_findIn X Z.iC) (fun self => PySem.W.bind_fn X self Z.tI) (Nat.zero_le _) ?_)
  refine init_call0 (s := ⟨(hp.push (PySem.W.kdv_tup [])).push (PySem.HandSPX.excO C hp.objs.size), g, d, tk, os⟩) Z (X.keeps kk) (lim.keeps kk) (glob.keeps kk) (blt.keeps kk) hmb (room.make C [] []).depth S hev hbody (hbind _ _) hget fun h' t1 tk' k e1 => ?_
  refine ⟨rfl, hq h' t1 tk' (fun b o z => k b o (fun y => ?_) (kk b o z)) e1⟩
  have := Heap.lt_size z
  rw [y] at this
  exact absurd this (show ¬ hp.objs.size + 1 < hp.objs.size by omega)
theorem xk1_mk {nm sf par f msg : Str} {j : Nat} {p0 p1 p2 p3 p4 p5 q1 q2 q3 q4 : Pos} (mgC : mg nm = some (.ref C)) (Z : XIn P K mg C fI cc cda q fd) (S : XSc fd sf) (hev : SupEv fd fI msg j p0 p1 p2 p3 p4)
    (hpar : fd.scope.names.lookup par = some .local) (hne : par ≠ sf) (hno : findIn K (.ref C) f = some none) (hd1 : (sf == ("__debug__" : Str)) = false) (hd2 : (par == ("__debug__" : Str)) = false)
    (hsw : ∀ L, swapsWith (.Name par q4) (some (.Attribute (.Name sf q1) f q2)) q3.line (callEnv fd L fI) = pure false)
    (hbody : fd.body = .stmts [.Expr (.Call (.Attribute (.Call (.Name "super" p0) [] [] p1) "__init__" p2) [.Constant (.str msg) j p3] [] p4) p5, .Assign [.Attribute (.Name sf q1) f q2] (.Name par q4) q3])
    (hbind : ∀ s e u, BindsTo s fd ⟨[e, u], []⟩ [(sf, e), (par, u)]) : XK1 P w K mg nm f C := by
  refine ⟨mgC, Z.T, fun A s u Q E mb X hK lim glob blt hmb room hq => ?_⟩
  obtain ⟨nm', qq, N, bs, bm, sn, sub, ab, col, dd, k0', k1, k2, k3, k5, hC, hbm⟩ := Z.T.cls
  obtain ⟨hp, g, d, tk, os⟩ := s
  have kk : ∀ b o, hp.get? b = some o → ((hp.push (PySem.W.kdv_tup [u])).push (PySem.HandSPX.excO C hp.objs.size)).get? b = some o := fun b o e => Heap.get?_push_of_some _ (Heap.get?_push_of_some _ e)
  have hget : ((hp.push (PySem.W.kdv_tup [u])).push (PySem.HandSPX.excO C hp.objs.size)).get? (hp.objs.size + 1) = some (PySem.HandSPX.excO C hp.objs.size) := by heap_get
  refine wpAny_call (PySem.HandSPX.call_own F.excBase_ValueError (fun Y => PySem.HandSPX.refsVE_contains Y bm hbm) (X _ _ hC) (PySem.W.looks_findIn X Z.iC) (fun self => PySem.W.bind_fn X self Z.tI) (by show 1 ≤ sizeLine; rw [sizeLine_eq]; omega) ?_)
  refine init_call1 (s := ⟨(hp.push (PySem.W.kdv_tup [u])).push (PySem.HandSPX.excO C hp.objs.size), g, d, tk, os⟩) Z (X.keeps kk) (lim.keeps kk) (glob.keeps kk) (blt.keeps kk) hmb (room.make C [u] []).depth S hev hpar hne hno hd1 hd2 hsw hbody (fun o => hK o (Nat.le_succ _)) (hbind _ _ _) hget fun h' t1 tk' dx k dn dne e1 n1 => ?_
  refine ⟨rfl, hq h' t1 tk' dx (fun b o z => k b o (fun y => ?_) (kk b o z)) ?_ dne e1 n1⟩
  · have := Heap.lt_size z
    rw [y] at this
    exact absurd this (show ¬ hp.objs.size + 1 < hp.objs.size by omega)
  · have dn' : ((hp.push (PySem.W.kdv_tup [u])).push (PySem.HandSPX.excO C hp.objs.size)).objs.size ≤ dx := dn
    rw [Heap.size_push, Heap.size_push] at dn'
    show hp.objs.size ≤ dx
    omega
end
end DL

namespace DL
open PySem PySem.Spec PySem.Calls PyProof.Rows L2

/-! ### raise of an own class -/
section
variable {X : Cx} {nm f : Str} {C : Addr} {e : Expr} {p pos : Pos}
theorem pmk0 (G : XK0 X.prog X.w X.K X.mg nm C) (hr : Room 1 X.A) (hg : Gl X nm) (hdb : (nm == ("__debug__" : Str)) = false := by decide) : PMk X (.Call (.Name nm p) [] [] pos) (fun _ H Q => Q (.ref C) none H) := by
  intro pins s σ H Q I h
  refine wpAny_Call_Name_kw (ld_glob I hg G.mgC ?_ hdb)
  refine PySem.W.callWith_K0 I.kIn G.T.kC ?_
  obtain ⟨mb, bN, hb⟩ := I.ok.mod.blt
  have ks : ∀ b o, X.base.get? b = some o → s.heap.get? b = some o := fun b o z => (I.bs b o z).1
  refine G.run X.A s _ _ mb I.kIn (fun o _ z => ?_) (I.ok.mod.nolimit.keeps ks) (I.ok.mod.glob.keeps ks) (bN.keeps ks) (hb _ (by decide)) hr fun h' t1 tk k e1 => ?_
  · exact absurd (Heap.lt_size (I.kIn _ _ z)) (Nat.not_lt_of_le (Nat.le_succ _))
  · have hn : s.heap.get? (s.heap.objs.size + 1) = none := by
      cases z : s.heap.get? (s.heap.objs.size + 1) with
      | none => rfl
      | some o => exact absurd (Heap.lt_size z) (Nat.not_lt_of_le (Nat.le_succ _))
    exact ⟨_, _, _, s, H, .ref C, none, rfl, I, k, hn, e1, ⟨rfl, rfl⟩, rfl, rfl, I.hok.fresh (Nat.le_succ _), rfl, I.bare, raises_own G.T.exC G.T.tyC, h⟩
theorem pmk1 (G : XK1 X.prog X.w X.K X.mg nm f C) (hr : Room 1 X.A) (hg : Gl X nm) (hdb : (nm == ("__debug__" : Str)) = false := by decide)
    (hst : starEach [e] X.env = (false, eval e X.env) :: starEach [] X.env := by rfl) :
    PMk X (.Call (.Name nm p) [e] [] pos) (fun σ H Q => SE X e σ H fun v H1 => ∀ dd, H1 dd = none → Q (.ref C) (some dd) (upd H1 dd (.xd [(f, v)]))) := by
  intro pins s σ H Q I h
  refine wpAny_Call_Name_kw (ld_glob I hg G.mgC ?_ hdb)
  have ha : PA X [e] (tCons (SE X e) tNil) := pa_cons pe_SE pa_nil hst
  have h0 : tCons (SE X e) tNil σ H fun vs H1 => ∃ v, vs = [v] ∧ ∀ dd, H1 dd = none → Q (.ref C) (some dd) (upd H1 dd (.xd [(f, v)])) := by
    exact SE.mono h fun v H1 q => ⟨v, rfl, q⟩
  refine PySem.W.callWith_K (h₀ := X.base) I.ok.mod.kin G.T.kC (thn (ha.run pos pins s σ H _ I h0) fun us s1 hh => ?_) hst rfl
  obtain ⟨vs, H1, I1, r1, v, ev, q⟩ := hh
  subst ev
  refine ⟨I1.kIn, ?_⟩
  cases r1 with
  | cons ru rn =>
    rename_i u us'
    cases rn
    show wpAny _ _ (call (.ref C) [u]) _ _ _
    obtain ⟨mb, bN, hb⟩ := I1.ok.mod.blt
    have ks : ∀ b o, X.base.get? b = some o → s1.heap.get? b = some o := fun b o z => (I1.bs b o z).1
    refine G.run X.A s1 u _ _ mb I1.kIn (fun o _ z => ?_) (I1.ok.mod.nolimit.keeps ks) (I1.ok.mod.glob.keeps ks) (bN.keeps ks) (hb _ (by decide)) hr fun h' t1 tk dx k dn dne e1 n1 => ?_
    · exact absurd (Heap.lt_size (I1.kIn _ _ z)) (Nat.not_lt_of_le (Nat.le_succ _))
    · obtain ⟨G', g1, g2⟩ := restrict h' fun b => decide (b ≠ s1.heap.objs.size + 1)
      have gk : ∀ b, b ≠ s1.heap.objs.size + 1 → G'.get? b = h'.get? b := fun b hb => g1 b (decide_eq_true hb)
      have ge : G'.get? (s1.heap.objs.size + 1) = none := g2 _ (by simp)
      have kG : ∀ b o, s1.heap.get? b = some o → G'.get? b = some o := fun b o z => by
        rw [gk b (fun y => absurd (Heap.lt_size (y ▸ z)) (Nat.not_lt_of_le (Nat.le_succ _)))]
        exact k b o z
      have nsG : G'.Ns1 dx (fun y => if y = f then some u else none) := by
        obtain ⟨o, es, ep, z, r⟩ := n1
        exact ⟨o, es, ep, by rw [gk dx dne]; exact z, r⟩
      have J : Inv X pins σ (upd H1 dx (.xd [(f, v)])) { s1 with heap := G', toks := tk } := I1.laid kG dn ⟨_, nsG, fun y => by
        show RelO (List.lookup y [(f, v)]) (if y = f then some u else none)
        by_cases hy : y = f
        · subst hy
          rw [if_pos rfl]
          simp [List.lookup_cons]
          exact ru
        · rw [if_neg hy, List.lookup_cons, show (y == f) = false from beq_false_of_ne hy]
          trivial⟩
      refine ⟨_, _, _, { s1 with heap := G', toks := tk }, _, .ref C, some dx, rfl, J, fun b o z => ?_, ge, e1, ⟨rfl, rfl⟩, rfl, rfl, ?_, rfl, I1.bare, raises_own G.T.exC G.T.tyC, q dx (I1.hok.fresh dn)⟩
      · by_cases hb : b = s1.heap.objs.size + 1
        · have z' : G'.get? b = some o := z
          rw [hb, ge] at z'
          cases z'
        · exact (gk b hb).symm.trans z
      · rw [upd_ne (Ne.symm dne)]
        exact I1.hok.fresh (Nat.le_succ _)
end
section
variable {X : CD} {nm f : Str} {C : Addr} {e : Expr} {p pos pos2 : Pos} {ρ : Rn} {m : Led} {E : EndsD}
theorem s_raise0 (G : XK0 X.prog X.w X.K X.mg nm C) (hr : Room 1 X.A) (h : X.xq nm none ρ m) (hc : X.calm = true := by rfl) (hg : Gl X nm := by rfl) (hdb : (nm == ("__debug__" : Str)) = false := by decide) : S1 X (.Raise (some (.Call (.Name nm p) [] [] pos)) none pos2) ρ m E := .mk fun F σ H en at_ =>
  SS.of (ps_raise hc at_.tk (pmk0 G hr hg hdb)) ⟨nm, C, none, ρ, F, m, G.mgC, rfl, Step.refl at_.toAt, en, rfl, h⟩
theorem s_raise1 (G : XK1 X.prog X.w X.K X.mg nm f C) (hr : Room 1 X.A) (h : EX X e ρ m fun d m1 => X.xq nm (some (f, d)) ρ m1) (hc : X.calm = true := by rfl) (hg : Gl X nm := by rfl) (hdb : (nm == ("__debug__" : Str)) = false := by decide)
    (hst : starEach [e] X.env = (false, eval e X.env) :: starEach [] X.env := by rfl) : S1 X (.Raise (some (.Call (.Name nm p) [e] [] pos)) none pos2) ρ m E := .mk fun F σ H en at_ =>
  SS.of (ps_raise hc at_.tk (pmk1 G hr hg hdb hst)) (h.go en at_ fun v d F1 m1 H1 s1 en1 q r => fun dd hdd => by
    have nw := Step.new (o := .xd [(f, v)]) s1.at2.toAt hdd
    exact ⟨nm, C, some (f, d), ρ, _, m1, G.mgC, rfl, s1.trans nw, en1.mono nw.ex, ⟨dd, v, rfl, upd_same, q.mono nw.ex⟩, r⟩)
end

/-! ### defs that may raise -/
abbrev SpX := List D → Led → (D → Led → Prop) → (Str → Option (Str × D) → Led → Prop) → Prop
def liftX (K : Frag) (mg : Str → Option Value) (sp : SpX) : Sp := fun vs H Q E => ∃ F m ds R XR, Dens K F vs ds ∧ At K F m H ∧ sp ds m R XR ∧ (∀ d m2 v F2 H2, R d m2 → Step K F m H F2 m2 H2 → Den K F2 v d → Q v H2) ∧
  ∀ nm C fd F2 m2 H2 d, XR nm fd m2 → mg nm = some (.ref C) → Step K F m H F2 m2 H2 → FdD K F2 d fd → E (.ref C) d H2
structure KnowsX (P : Program) (w : World) (K : Frag) (mg : Str → Option Value) (base : Heap) (k : Nat) (x : Str) (n : Nat) (dd : List D) (sp : SpX) : Prop where
  fn : ∃ f fd ps ds dvs, FnOk P w K mg base (L2.CX P w) k f fd ps (liftX K mg sp) ∧ mg x = some (.ref f) ∧ PySem.W.keepIn K (.ref f) = true ∧ Binds K fd ps ds ∧ Vals dvs ds ∧ (∀ F, Dens K F dvs dd) ∧ ps.length = n
theorem KnowsX.mono {P : Program} {w : World} {K : Frag} {mg : Str → Option Value} {base : Heap} {k j : Nat} {x : Str} {n : Nat} {dd : List D} {sp : SpX} (G : KnowsX P w K mg base k x n dd sp) (h : k ≤ j) : KnowsX P w K mg base j x n dd sp := by
  obtain ⟨f, fd, ps, ds, dvs, FO, r⟩ := G.fn
  exact ⟨f, fd, ps, ds, dvs, FO.mono h, r⟩
section
variable {X : CD} {e : Expr} {es : List Expr} {ρ : Rn} {m : Led} {R : D → Led → Prop} {x : Str} {p pos : Pos} {k n : Nat} {dd : List D} {sp : SpX}
theorem x_callX (G : KnowsX X.prog X.w X.K X.mg X.base k x n dd sp) (hr : Room k X.A) (h : AX X (e :: es) ρ m fun ds m1 => sp (ds ++ dd) m1 R (fun nm fd m2 => X.xq nm fd ρ m2)) (hg : Gl X x := by rfl)
    (hdb : (x == ("__debug__" : Str)) = false := by decide) (he : starEach (e :: es) X.env = (false, eval e X.env) :: starEach es X.env := by rfl) (hpl : (backTo pos (starEach es X.env)).any (·.1) = false := by rfl) :
    EX X (.Call (.Name x p) (e :: es) [] pos) ρ m R := .mk fun F σ H en at_ => by
  obtain ⟨f, fd, ps, dsv, dvs, FO, hm, hk, hb, hv, hdd, hl⟩ := G.fn
  refine SE.of (pe_callSD (E := WE (WD X.toCx F m H X.xq)) FO hr hg hm hk hb hv (fun σ => passAt at_.tk σ) (pa_SA (es := e :: es)) hdb he hpl) ?_
  refine h.go en at_ fun vs ds F1 m1 H1 s1 en1 q r => ?_
  exact ⟨F1, m1, ds ++ dd, R, _, q.append (hdd F1), s1.st.at2, r, fun d m2 v F2 H2 rd st qd => ⟨d, F2, m2, s1.trans st, qd, rd⟩,
    fun nm C fd' F2 m2 H2 d xr hC st fdd => ⟨nm, C, fd', ρ, F2, m2, hC, rfl, s1.trans st, en1.mono st.ex, fdd, xr⟩⟩
end
section
variable {P : Program} {w : World} {K : Frag} {mg : Str → Option Value} {base : Heap}
/-- THE RULE for a def that may raise -/
theorem def_okX {x qual : Str} {st : Stmt} {f : Addr} {fd : FuncData} {N ps : List Str} {k : Nat} {sp : SpX} (F : Fun K x qual st f fd) (S : FnScope N ps (defScope st)) (len : ∀ ds m R XR, sp ds m R XR → ds.length = ps.length)
    (body : ∀ (cdv : Value) (A : Around) (outer : List PySem.Env) (s : Shared) (H : Hp) (E : XK) (ds : List D) (m : Led) (R : D → Led → Prop) (XR : Str → Option (Str × D) → Led → Prop), Room k (A.deeper (envOfC qual (defScope st) s.heap.objs.size f cdv)) → sp ds m R XR →
      SX ⟨cxOf (L2.CX P w) P w K mg base N qual (defScope st) f cdv A outer s H E, fun nm fd _ m2 => ∃ m3, m3.Sublist m2 ∧ XR nm fd m3⟩ (defBody st) (startR N ds) m { nx := fun _ m2 => ∃ m3, m3.Sublist m2 ∧ R .non m3, rt := fun d m2 => ∃ m3, m3.Sublist m2 ∧ R d m3 }) : FnOk P w K mg base (L2.CX P w) (k + 1) f fd ps (liftX K mg sp) := by
  refine F.okX S (fun vs H Q E ⟨F0, m, ds, R, XR, q, _, h, _⟩ => by rw [q.length]; exact len ds m R XR h) (fun cdv A outer s H vs Q E hr ⟨F0, m, ds, R, XR, q, at_, h, k, kx⟩ => ?_)
  refine ⟨_, pss_SS, ?_⟩
  have hb := body cdv A outer s H E ds m R XR hr h
  have hl : vs.length ≤ N.length := by
    rw [q.length, len ds m R XR h]
    have := congrArg List.length S.pre
    rw [List.length_take] at this
    omega
  have en : DL.Env (cxOf (L2.CX P w) P w K mg base N qual (defScope st) f cdv A outer s H E) F0 (start N vs) (startR N ds) := ⟨S.nd, startR_names N ds, startR_envs N vs ds hl q⟩
  have ax : AtX ⟨cxOf (L2.CX P w) P w K mg base N qual (defScope st) f cdv A outer s H E, fun nm fd _ m2 => ∃ m3, m3.Sublist m2 ∧ XR nm fd m3⟩ F0 m H := by
    refine ⟨at_, ?_, passes_of rfl⟩
    refine (takes_of (E := E) rfl rfl rfl rfl).imp fun cls d σ H2 ⟨nm, C, fd', ρ2, F2, m2, h1, h2, h3, h4, h5, m3, sl, xr⟩ => ?_
    subst h2
    exact kx nm C fd' F2 m3 H2 d xr h1 (h3.trans (Step.drop h3.at2 sl)) h5
  refine (hb.run F0 (start N vs) H en ax).mono (fun σ2 H2 ⟨ρ2, F2, m2, s2, en2, m3, sl, r⟩ => ?_) (fun v H2 ⟨d, F2, m2, s2, q2, m3, sl, r⟩ => ?_) (fun _ _ ⟨_, _, _, _, _, z⟩ => z) (fun _ _ ⟨_, _, _, _, _, z⟩ => z)
  · exact k .non m3 .non F2 H2 r (s2.trans (Step.drop s2.at2 sl)) .non
  · exact k d m3 v F2 H2 r (s2.trans (Step.drop s2.at2 sl)) q2
end

/-! ### try .. except X [as n] -/
/-- the class x of the program is caught by a clause that names c -/
def XM (K : Frag) (mg : Str → Option Value) (x c : Str) (b : Bool) : Prop := ∃ C Cc, mg x = some (.ref C) ∧ mg c = some (.ref Cc) ∧ PySem.W.exmOne K (.ref C) (.ref Cc) = some b
theorem Env.cast {X Y : Cx} {F : Hp} {σ : L2.St} {ρ : Rn} (e : DL.Env X F σ ρ) (h1 : Y.N = X.N := by rfl) (h2 : Y.K = X.K := by rfl) : DL.Env Y F σ ρ := ⟨by rw [h1]; exact e.nd, by rw [h1]; exact e.nm, by rw [h2]; exact e.ev⟩
section
variable {X Y : CD} {F H : Hp} {m : Led} {σ : L2.St} {E : EndsD}
theorem PN.cast {R : Rn → Led → Prop} {H2 : Hp} (h : PN X F m H R σ H2) (h1 : Y.N = X.N := by rfl) (h2 : Y.K = X.K := by rfl) : PN Y F m H R σ H2 := by
  obtain ⟨ρ2, F2, m2, s, e, r⟩ := h
  exact ⟨ρ2, F2, m2, by rw [h2]; exact s, e.cast h1 h2, r⟩
theorem SSs.cast {Z : Cx} {sts : List Stmt} {H2 : Hp} (h : SSs Z sts (ED X F m H E) σ H2) (h1 : Y.N = X.N := by rfl) (h2 : Y.K = X.K := by rfl) : SSs Z sts (ED Y F m H E) σ H2 :=
  h.mono (fun _ _ q => q.cast h1 h2) (fun _ _ q => by show PQ Y.K F m H E.rt _ _; rw [h2]; exact q) (fun _ _ q => q.cast h1 h2) fun _ _ q => q.cast h1 h2
end
section
variable {X : CD} {x n : Str} {i : Nat} {body sts : List Stmt} {b₀ : Stmt} {np pos pos' : Pos} {ρ : Rn} {m : Led} {E : EndsD}
abbrev CD.tr (X : CD) (pn : List (Addr × Obj)) (xe : Value → Shared → Prop) (q : XQ) : CD := ⟨X.toCx.tr pn xe, q⟩
abbrev CD.suite (X : CD) (a : Addr) (pn : List (Addr × Obj)) : CD := ⟨X.toCx.suite a pn, fun _ _ _ _ => False⟩
/-- what is wished of an exception in the body of: try .. except x -/
def qOnly (X : CD) (x : Str) (sts : List Stmt) (E : EndsD) : XQ := fun nm fd ρ2 m2 => ∃ b, XM X.K X.mg nm x b ∧ (b = true → ∀ a oe pn, SX (X.suite a ((a, oe) :: pn)) sts ρ2 m2 E) ∧ (b = false → X.xq nm fd ρ2 m2)
def tBody (X : CD) (body : List Stmt) (W : L2.WX) : TS := fun D σ H => ∀ pn xe, Takes (X.toCx.tr pn xe) W → PassesOwn (model X.prog X.w) X.A X.env xe → SSs (X.toCx.tr pn xe) body D σ H
theorem s_try (hc : ∃ Cc, X.mg x = some (.ref Cc)) (h : ∀ pn xe, SX (X.tr pn xe (qOnly X x (b₀ :: sts) E)) body ρ m E) (hs : X.stack = X.env :: X.outer := by rfl) (hf : X.env.frame = some X.env.locals := by rfl) (hg : Gl X x := by rfl) (hdb : (x == ("__debug__" : Str)) = false := by decide) :
    S1 X (.Try body [.ExceptHandler (some (.Name x np)) none (b₀ :: sts) pos'] [] [] pos) ρ m E := .mk fun F σ H en at_ => by
  obtain ⟨Cc, hCc⟩ := hc
  refine SS.of (ps_try_only (tb := tBody X body) (ts := fun a cls d D σ H => ∀ oe pn, SSs (X.toCx.suite a ((a, oe) :: pn)) (b₀ :: sts) D σ H) hs hf ⟨hg, hdb, .inl hCc⟩ at_.tk (fun W pn xe tk po => ⟨fun pins s σ H D I hh => hh pn xe tk po pins s I⟩) (fun a oe cls d pn hz hd => ⟨fun pins s σ H D I hh => hh oe pn pins s I⟩)) ?_
  intro pn xe tk po
  have ax : AtX (X.tr pn xe (qOnly X x (b₀ :: sts) E)) F m H := by
    refine ⟨at_.toAt, tk.imp ?_, po⟩
    intro cls d σ2 H2 ⟨nm, C, fd, ρ2, F2, m2, h1, h2, h3, h4, h5, b, ⟨C', Cc', e1, e2, e3⟩, hy, hn⟩
    subst h2
    have e1' := e1.symm.trans h1
    have e2' := e2.symm.trans hCc
    cases e1'
    cases e2'
    refine ⟨b, e3, fun hb a na oe pn' => ?_, fun hb => ⟨nm, C, fd, ρ2, F2, m2, h1, rfl, h3, h4.cast, h5, hn hb⟩⟩
    exact SSs.cast (X := X.suite a ((a, oe) :: pn')) (SSs.step (X := X.suite a ((a, oe) :: pn')) h3 ((hy hb a oe pn').run F2 σ2 H2 h4.cast (.quiet h3.at2)))
  exact SSs.cast (X := X.tr pn xe (qOnly X x (b₀ :: sts) E)) ((h pn xe).run F σ H en.cast ax)
/-- the exception as a value of the clause's name -/
def ExD (a : Addr) : Option (Str × D) → Addr → D
  | none, _ => .ref a
  | some (f, x), dd => .exc a dd f x
/-- an except suite with the exception named: what is known of its object -/
def SuOk (K : Frag) (mg : Str → Option Value) (nm : Str) (fd : Option (Str × D)) (dd : Addr) (oe : Obj) : Prop := ∃ C, mg nm = some (.ref C) ∧ Zc (.ref C) (fd.map fun _ => dd) oe ∧ ∃ vs, oe.data = .fields vs
inductive DelAt : Rn → Nat → Str → Rn → Prop
  | here {x : Str} {o : Option D} {r : Rn} : DelAt ((x, o) :: r) 0 x ((x, none) :: r)
  | there {x : Str} {r r' : Rn} {q : Str × Option D} {i : Nat} : DelAt r i x r' → DelAt (q :: r) (i + 1) x (q :: r')
/-- what is wished of an exception in the body of: try .. except x as n -/
def qAs (X : CD) (x n : Str) (i : Nat) (sts : List Stmt) (E : EndsD) : XQ := fun nm fd ρ2 m2 => ∃ b, XM X.K X.mg nm x b ∧ (b = true → ∀ a dd oe pn, SuOk X.K X.mg nm fd dd oe → ∃ ρ3, SetAt ρ2 i n (ExD a fd dd) ρ3 ∧
    SX (X.suite a ((a, oe) :: pn)) sts ρ3 m2 { nx := fun ρ4 m4 => ∃ ρ5, DelAt ρ4 i n ρ5 ∧ E.nx ρ5 m4, rt := E.rt, bk := fun ρ4 m4 => ∃ ρ5, DelAt ρ4 i n ρ5 ∧ E.bk ρ5 m4, ct := fun ρ4 m4 => ∃ ρ5, DelAt ρ4 i n ρ5 ∧ E.ct ρ5 m4 }) ∧ (b = false → X.xq nm fd ρ2 m2)
theorem DelAt.eq : ∀ {ρ ρ' : Rn} {i : Nat} {x : Str}, DelAt ρ i x ρ' → ρ' = ρ.set i (x, none) ∧ (ρ.map (·.1))[i]? = some x
  | _, _, _, _, .here => ⟨rfl, rfl⟩
  | _, _, _, _, .there h => by
    obtain ⟨h1, h2⟩ := h.eq
    exact ⟨by rw [List.set_cons_succ, h1], by rw [List.map_cons, List.getElem?_cons_succ]; exact h2⟩
theorem Env.del {X : Cx} {F : Hp} {σ : L2.St} {ρ ρ' : Rn} (e : DL.Env X F σ ρ) (h : DelAt ρ i n ρ') : DL.Env X F (σ.set i none) ρ' := by
  obtain ⟨rfl, hx⟩ := h.eq
  refine ⟨e.nd, ?_, ⟨?_, fun j d hj => ?_⟩⟩
  · rw [List.map_set, ← e.nm]
    apply List.ext_getElem?
    intro j
    by_cases hj : i = j
    · subst hj
      rw [hx, List.getElem?_set_self (List.getElem?_eq_some_iff.mp hx).1]
    · rw [List.getElem?_set_ne hj]
  · simpa using e.ev.len
  · rw [List.map_set] at hj
    by_cases hij : i = j
    · subst hij
      by_cases hl : i < (ρ.map (·.2)).length
      · rw [List.getElem?_set_self hl] at hj; cases hj
      · rw [List.getElem?_eq_none (by simpa using hl)] at hj; cases hj
    · rw [List.getElem?_set_ne hij] at hj
      obtain ⟨v, e1, e2⟩ := e.ev.get j d hj
      exact ⟨v, by rw [List.getElem?_set_ne hij]; exact e1, e2⟩
theorem s_tryAs (hc : ∃ Cc, X.mg x = some (.ref Cc)) (hi : SlotAt ρ i n) (h : ∀ pn xe, SX (X.tr pn xe (qAs X x n i (b₀ :: sts) E)) body ρ m E) (hs : X.stack = X.env :: X.outer := by rfl) (hf : X.env.frame = some X.env.locals := by rfl) (hln : X.env.kindOf n = some .local := by rfl) (hg : Gl X x := by rfl) (hdb : (x == ("__debug__" : Str)) = false := by decide) :
    S1 X (.Try body [.ExceptHandler (some (.Name x np)) (some n) (b₀ :: sts) pos'] [] [] pos) ρ m E := .mk fun F σ H en at_ => by
  obtain ⟨Cc, hCc⟩ := hc
  have hiN : X.N[i]? = some n := by rw [← en.nm]; exact hi.ix
  refine SS.of (ps_try_as (tb := tBody X body) (i := i) (ts := fun a cls d D σ H => ∀ oe pn, Zc cls d oe → (∃ vs, oe.data = .fields vs) → SSs (X.toCx.suite a ((a, oe) :: pn)) (b₀ :: sts) D σ H) hs hf en.nd hiN hln ⟨hg, hdb, .inl hCc⟩ at_.tk (fun W pn xe tk po => ⟨fun pins s σ H D I hh => hh pn xe tk po pins s I⟩) (fun a oe cls d pn hz hd => ⟨fun pins s σ H D I hh => hh oe pn hz hd pins s I⟩)) ?_
  intro pn xe tk po
  have ax : AtX (X.tr pn xe (qAs X x n i (b₀ :: sts) E)) F m H := by
    refine ⟨at_.toAt, tk.imp ?_, po⟩
    intro cls d σ2 H2 ⟨nm, C, fd, ρ2, F2, m2, h1, h2, h3, h4, h5, b, ⟨C', Cc', e1, e2, e3⟩, hy, hn⟩
    subst h2
    have e1' := e1.symm.trans h1
    have e2' := e2.symm.trans hCc
    cases e1'
    cases e2'
    refine ⟨b, e3, fun hb a na oe pn' hz hv => ?_, fun hb => ⟨nm, C, fd, ρ2, F2, m2, h1, rfl, h3, h4.cast, h5, hn hb⟩⟩
    obtain ⟨dd, hd, hden⟩ : ∃ dd, d = fd.map (fun _ => dd) ∧ Den X.K F2 (.ref a) (ExD a fd dd) := by
      cases fd with
      | none => exact ⟨0, h5, .ref a⟩
      | some fx =>
        obtain ⟨f, x⟩ := fx
        obtain ⟨dd, v, hd, hF, hq⟩ := h5
        exact ⟨dd, hd, .exc hF hq⟩
    obtain ⟨ρ3, hset, hsx⟩ := hy hb a dd oe pn' ⟨C, h1, hd ▸ hz, hv⟩
    have en3 : DL.Env X.toCx F2 (σ2.set i (some (.ref a))) ρ3 := (h4.cast (Y := X.toCx)).set hset hden
    have r := SSs.step (X := X.suite a ((a, oe) :: pn')) h3 (hsx.run F2 _ H2 en3.cast (.quiet h3.at2))
    exact r.mono (fun σ4 H4 ⟨ρ4, F4, m4, s4, en4, ρ5, dl, k⟩ => ⟨ρ5, F4, m4, s4, (en4.cast (Y := X.toCx)).del dl, k⟩) (fun _ _ q => q) (fun σ4 H4 ⟨ρ4, F4, m4, s4, en4, ρ5, dl, k⟩ => ⟨ρ5, F4, m4, s4, (en4.cast (Y := X.toCx)).del dl, k⟩) (fun σ4 H4 ⟨ρ4, F4, m4, s4, en4, ρ5, dl, k⟩ => ⟨ρ5, F4, m4, s4, (en4.cast (Y := X.toCx)).del dl, k⟩)
  exact SSs.cast (X := X.tr pn xe (qAs X x n i (b₀ :: sts) E)) ((h pn xe).run F σ H en.cast ax)
/-- e.f in an except suite -/
theorem x_exf {nm f : Str} {a dd : Addr} {oe : Obj} {pn : List (Addr × Obj)} {v : D} {e : Expr} {R : D → Led → Prop} {fd : Str × D} (su : SuOk X.K X.mg nm (some fd) dd oe) (T : ∀ C, X.mg nm = some (.ref C) → XfC X.K C ∧ PySem.W.findIn X.K (.ref C) f = some none)
    (h : EX (X.suite a ((a, oe) :: pn)) e ρ m fun d m1 => d = .exc a dd f v ∧ R v m1) (hb : attributeBase e f X.env (eval e X.env) = eval e X.env := by rfl) : EX (X.suite a ((a, oe) :: pn)) (.Attribute e f pos) ρ m R := .mk fun F σ H en at_ => by
  obtain ⟨C, hC, hz, hv⟩ := su
  obtain ⟨T1, T2⟩ := T C hC
  refine SE.of (pe_xf (X := X.toCx) T1 T2 hz hv (pe_SE (e := e)) hb) ?_
  refine h.go en at_ fun v1 d F1 m1 H1 s1 en1 q ⟨ed, r⟩ => ?_
  subst ed
  cases q with
  | exc hF hq => exact ⟨rfl, rfl, dd, _, _, rfl, s1.st.at2.sub _ _ hF, by simp [List.lookup_cons], _, F1, m1, s1.st, hq, r⟩
end
end DL

namespace DL
open PySem PySem.Spec PySem.Calls PyProof.Rows L2

section
variable {P : Program} {w : World} {K : Frag} {mg : Str → Option Value} {base : Heap}
/-- a def by its written form, defaults and all -/
abbrev FnD (K : Frag) (x qual : Str) (st : Stmt) (dvs : List V) (f : Addr) (fd : FuncData) : Prop := FunD K x qual (defArgs st) (defBody st) (defScope st) dvs [] f fd
theorem fnD_mk {x qual : Str} {st : Stmt} {f : Addr} {oc : Value} {od an : Option Addr} {osl : Array (Option Value)} {kV doc pm cdv ct : Value} (l : K.lookup f = some ⟨oc, od, .func (PySem.W.fnOf x qual (defArgs st) (defBody st) (defScope st) .none kV doc pm an cdv ct), osl⟩)
    (c : PySem.W.codeIn K cdv qual = true) (k : PySem.W.keepIn K (.ref f) = true) : FnD K x qual st [] f (PySem.W.fnOf x qual (defArgs st) (defBody st) (defScope st) .none kV doc pm an cdv ct) := ⟨⟨oc, od, .none, kV, doc, pm, an, cdv, ct, osl, rfl, l, c, .inl ⟨rfl, rfl⟩, .inl rfl⟩, k⟩
theorem fnD_mk1 {x qual : Str} {st : Stmt} {f T : Addr} {oc : Value} {od an : Option Addr} {osl : Array (Option Value)} {kV doc pm cdv ct : Value} {v : V} {u : Value} {o : Obj} {n : Nat} (l : K.lookup f = some ⟨oc, od, .func (PySem.W.fnOf x qual (defArgs st) (defBody st) (defScope st) (.ref T) kV doc pm an cdv ct), osl⟩)
    (c : PySem.W.codeIn K cdv qual = true) (k : PySem.W.keepIn K (.ref f) = true) (lT : K.lookup T = some o) (oT : o.data = .seq [u].toArray n) (r : RelV v u) :
    FnD K x qual st [v] f (PySem.W.fnOf x qual (defArgs st) (defBody st) (defScope st) (.ref T) kV doc pm an cdv ct) := ⟨⟨oc, od, .ref T, kV, doc, pm, an, cdv, ct, osl, rfl, l, c, .inr ⟨by simp, T, o, [u], n, rfl, lT, oT, .cons r .nil⟩, .inl rfl⟩, k⟩
/-- THE RULE for a def that may raise, with defaults -/
theorem def_okD {x qual : Str} {st : Stmt} {f : Addr} {fd : FuncData} {dvs : List V} {N ps : List Str} {k : Nat} {sp : SpX} (F : FnD K x qual st dvs f fd) (S : FnScope N ps (defScope st)) (len : ∀ ds m R XR, sp ds m R XR → ds.length = ps.length)
    (body : ∀ (cdv : Value) (A : Around) (outer : List PySem.Env) (s : Shared) (H : Hp) (E : XK) (ds : List D) (m : Led) (R : D → Led → Prop) (XR : Str → Option (Str × D) → Led → Prop), Room k (A.deeper (envOfC qual (defScope st) s.heap.objs.size f cdv)) → sp ds m R XR →
      SX ⟨cxOf (L2.CX P w) P w K mg base N qual (defScope st) f cdv A outer s H E, fun nm fd _ m2 => ∃ m3, m3.Sublist m2 ∧ XR nm fd m3⟩ (defBody st) (startR N ds) m { nx := fun _ m2 => ∃ m3, m3.Sublist m2 ∧ R .non m3, rt := fun d m2 => ∃ m3, m3.Sublist m2 ∧ R d m3 }) : FnOk P w K mg base (L2.CX P w) (k + 1) f fd ps (liftX K mg sp) := by
  refine F.ok S (fun vs H Q E ⟨F0, m, ds, R, XR, q, _, h, _⟩ => by rw [q.length]; exact len ds m R XR h) (fun cdv A outer s H vs Q E hr ⟨F0, m, ds, R, XR, q, at_, h, k, kx⟩ => ?_)
  refine ⟨_, pss_SS, ?_⟩
  have hb := body cdv A outer s H E ds m R XR hr h
  have hl : vs.length ≤ N.length := by
    rw [q.length, len ds m R XR h]
    have := congrArg List.length S.pre
    rw [List.length_take] at this
    omega
  have en : DL.Env (cxOf (L2.CX P w) P w K mg base N qual (defScope st) f cdv A outer s H E) F0 (start N vs) (startR N ds) := ⟨S.nd, startR_names N ds, startR_envs N vs ds hl q⟩
  have ax : AtX ⟨cxOf (L2.CX P w) P w K mg base N qual (defScope st) f cdv A outer s H E, fun nm fd _ m2 => ∃ m3, m3.Sublist m2 ∧ XR nm fd m3⟩ F0 m H := by
    refine ⟨at_, ?_, passes_of rfl⟩
    refine (takes_of (E := E) rfl rfl rfl rfl).imp fun cls d σ H2 ⟨nm, C, fd', ρ2, F2, m2, h1, h2, h3, h4, h5, m3, sl, xr⟩ => ?_
    subst h2
    exact kx nm C fd' F2 m3 H2 d xr h1 (h3.trans (Step.drop h3.at2 sl)) h5
  refine (hb.run F0 (start N vs) H en ax).mono (fun σ2 H2 ⟨ρ2, F2, m2, s2, en2, m3, sl, r⟩ => ?_) (fun v H2 ⟨d, F2, m2, s2, q2, m3, sl, r⟩ => ?_) (fun _ _ ⟨_, _, _, _, _, z⟩ => z) (fun _ _ ⟨_, _, _, _, _, z⟩ => z)
  · exact k .non m3 .non F2 H2 r (s2.trans (Step.drop s2.at2 sl)) .non
  · exact k d m3 v F2 H2 r (s2.trans (Step.drop s2.at2 sl)) q2
end

/-! ### a call with keywords alone -/
structure KnowsK (P : Program) (w : World) (K : Frag) (mg : Str → Option Value) (base : Heap) (k : Nat) (x : Str) (ks : List Str) (gD : List D → List D) (sp : SpX) : Prop where
  fn : ∃ f fd ps g gV, FnOk P w K mg base (L2.CX P w) k f fd ps (liftX K mg sp) ∧ mg x = some (.ref f) ∧ PySem.W.keepIn K (.ref f) = true ∧ KBn K fd ps 0 ks g gV ∧ ∀ F zs ds, Dens K F zs ds → zs.length = ks.length → Dens K F (gV [] zs) (gD ds)
theorem KnowsK.mono {P : Program} {w : World} {K : Frag} {mg : Str → Option Value} {base : Heap} {k j : Nat} {x : Str} {ks : List Str} {gD : List D → List D} {sp : SpX} (G : KnowsK P w K mg base k x ks gD sp) (h : k ≤ j) : KnowsK P w K mg base j x ks gD sp := by
  obtain ⟨f, fd, ps, g, gV, FO, r⟩ := G.fn
  exact ⟨f, fd, ps, g, gV, FO.mono h, r⟩

def SK (X : Cx) (kws : List Keyword) (σ : L2.St) (H : Hp) (Q : List V → Hp → Prop) : Prop := ∀ pos pins s, Inv X pins σ H s → wpAny (model X.prog X.w) X.A (evalAll ((backToKw pos (keywordEach kws X.env)).map (·.2))) (AP X pins σ Q) X.xe s
theorem pk_SK {X : Cx} {kws : List Keyword} : PK X kws (SK X kws) := ⟨fun pos pins s σ H Q I h => h pos pins s I⟩
theorem SK.of {X : Cx} {kws : List Keyword} {σ : L2.St} {H : Hp} {t : TA} {Q : List V → Hp → Prop} (h : PK X kws t) (q : t σ H Q) : SK X kws σ H Q := fun pos pins s I => h.run pos pins s σ H Q I q
theorem SK.mono {X : Cx} {kws : List Keyword} {σ : L2.St} {H : Hp} {Q Q' : List V → Hp → Prop} (h : SK X kws σ H Q) (q : ∀ v H', Q v H' → Q' v H') : SK X kws σ H Q' := fun pos pins s I => thn (h pos pins s I) fun u s' ⟨v, H', I', r, k⟩ => ⟨v, H', I', r, q v H' k⟩
structure KX (X : CD) (kws : List Keyword) (ρ : Rn) (m : Led) (R : List D → Led → Prop) : Prop where
  run : ∀ F σ H, Env X F σ ρ → AtX X F m H → SK X kws σ H (PL X.K F m H R)
section
variable {X : CD} {e : Expr} {kws : List Keyword} {ks : List Str} {nm : Option Str} {gD : List D → List D} {ρ : Rn} {m : Led} {R : D → Led → Prop} {x : Str} {p pos kpos : Pos} {k : Nat} {sp : SpX}
theorem k_nil {R : List D → Led → Prop} (h : R [] m) : KX X [] ρ m R := .mk fun F σ H en at_ => SK.of pk_nil ⟨[], F, m, Step.refl at_.toAt, .nil, h⟩
theorem k_cons {R : List D → Led → Prop} (h : EX X e ρ m fun d m1 => KX X kws ρ m1 fun ds m2 => R (d :: ds) m2) : KX X (⟨nm, e, kpos⟩ :: kws) ρ m R := .mk fun F σ H en at_ =>
  SK.of (pk_cons (pe_SE (e := e)) (pk_SK (kws := kws))) (h.go en at_ fun v d F1 m1 H1 s1 en1 q r => (r.run F1 σ H1 en1 s1.at2).mono fun vs H2 ⟨ds, F2, m2, s2, q2, r2⟩ => ⟨d :: ds, F2, m2, s1.trans s2, .cons (q.mono s2.ex) q2, r2⟩)
theorem x_callK (G : KnowsK X.prog X.w X.K X.mg X.base k x ks gD sp) (hr : Room k X.A) (h : KX X kws ρ m fun ds m1 => ds.length = ks.length ∧ sp (gD ds) m1 R (fun nm fd m2 => X.xq nm fd ρ m2))
    (hall : (backToKw pos (keywordEach kws X.env)).all (·.1.isSome) = true := by rfl) (hks : (backToKw pos (keywordEach kws X.env)).filterMap (·.1) = ks := by rfl) (hg : Gl X x := by rfl) (hdb : (x == ("__debug__" : Str)) = false := by decide)
    (hpl : ((backTo pos (starEach [] X.env)).any (·.1) || (backToKw pos (keywordEach kws X.env)).any (·.1.isNone)) = false := by rfl) : EX X (.Call (.Name x p) [] kws pos) ρ m R := .mk fun F σ H en at_ => by
  obtain ⟨f, fd, ps, g, gV, FO, hm, hk, hb, hgD⟩ := G.fn
  intro pins s I
  refine wpAny_Call_Name_kw (ld_glob I hg hm ?_ hdb)
  refine PySem.W.callWith_KW0 (h₀ := X.base) I.ok.mod.kin hk hall (thn (h.run F σ H en at_ pos pins s I) fun ws s2 ⟨zs, H2, I2, rz, ds, F2, m2, st, qd, hl, hsp⟩ => ⟨I2.kIn, ?_⟩) hpl
  have lz : zs.length = ks.length := qd.length.trans hl
  rw [hks]
  refine wpAny_call (codeAny_mono (FO.run X.A X.stack s2 H2 ⟨[], ks.zip ws⟩ (g [] ws) (gV [] zs) (PQ X.K F m H R) (WE (WD X.toCx F m H X.xq) σ) hr I2.env0 (hb.to s2 [] ws I2.kIn rfl (rz.length.symm.trans lz)) (hb.rel .nil rz) ?_) fun r s' hq => ?_)
  · exact ⟨F2, m2, gD ds, R, _, hgD F2 zs ds qd lz, st.at2, hsp, fun d m3 v F3 H3 rd st3 qd3 => ⟨d, F3, m3, st.trans st3, qd3, rd⟩, fun nm C fd' F3 m3 H3 d xr hC st3 fdd => ⟨nm, C, fd', ρ, F3, m3, hC, rfl, st.trans st3, en.mono (st.ex.trans st3.ex), fdd, xr⟩⟩
  · match r with
    | .error er => exact passAt at_.tk σ pins H2 s2 er s' I2 hq
    | .ok (.ret u) => exact I2.after hq
    | .ok .next => exact False.elim hq
    | .ok .brk => exact False.elim hq
    | .ok .cont => exact False.elim hq
end

/-! ### a def called within an except suite -/
structure KnowsP (P : Program) (w : World) (K : Frag) (mg : Str → Option Value) (base : Heap) (k : Nat) (x : Str) (n : Nat) (sp : SpD) : Prop where
  fn : ∃ (f : Addr) (fd : FuncData) (ps : List Str), (∀ (A : Around) (outer : List PySem.Env) (s : Shared) (H : Hp) (args : Args) (us : List Value) (vs : List V) (Q : VK) (E : XK) (p : Addr × Obj), L2H.RoomH k A → L2H.PinOk outer H s p → Env0 P w K mg base A outer s H → BindsTo s fd args (ps.zip us) → Vals vs us → lift K sp vs H Q E →
      codeAny (model P w) A (.call (.ref f) args) (CR CX0 outer P w H s Q E) s) ∧ mg x = some (.ref f) ∧ PySem.W.keepIn K (.ref f) = true ∧ Binds K fd ps [] ∧ ps.length = n ∧ ∀ ds m R, sp ds m R → ds.length = n
section
variable {P : Program} {w : World} {K : Frag} {mg : Str → Option Value} {base : Heap}
theorem def_okP {x qual : Str} {st : Stmt} {f : Addr} {fd : FuncData} {N ps : List Str} {k n : Nat} {sp : SpD} (F : Fun K x qual st f fd) (S : FnScope N ps (defScope st)) (hn : ps.length = n) (len : ∀ ds m R, sp ds m R → ds.length = n) (hm : mg x = some (.ref f)) (hb : Binds K fd ps [])
    (body : ∀ (cdv : Value) (A : Around) (outer : List PySem.Env) (s : Shared) (H : Hp) (p : Addr × Obj) (ds : List D) (m : Led) (R : D → Led → Prop), L2H.RoomH k (A.deeper (envOfC qual (defScope st) s.heap.objs.size f cdv)) → sp ds m R →
      SX ⟨(L2H.cxH CX0 P w K mg base N qual (defScope st) f cdv A outer s H E0 p).nox, fun _ _ _ _ => False⟩ (defBody st) (startR N ds) m { nx := fun _ m2 => ∃ m3, m3.Sublist m2 ∧ R .non m3, rt := fun d m2 => ∃ m3, m3.Sublist m2 ∧ R d m3 }) : KnowsP P w K mg base (k + 1) x n sp := by
  obtain ⟨oc, od, kV, doc, pm, an, cdv, ct, osl, rfl, lk, hcd⟩ := F.ex
  refine ⟨f, _, ps, fun A outer s H args us vs Q E p hr hpin e0 hbd r hsp => ?_, hm, F.kp, hb, hn, len⟩
  obtain ⟨F0, m, ds, R, q, at_, h, k⟩ := hsp
  have hl : vs.length = ps.length := by rw [q.length, len ds m R h, hn]
  have hl2 : vs.length ≤ N.length := by
    have := congrArg List.length S.pre
    rw [List.length_take] at this
    omega
  have kx : ∀ b o, base.get? b = some o → s.heap.get? b = some o := fun b o e => (e0.bs b o e).1
  refine codeAny_call_function hr.depth (e0.mod.kin.keeps kx _ _ lk) rfl S.co S.gen rfl (PySem.W.codeRec_of (e0.mod.kin.keeps kx) hcd) (hbd _ _ _ _ (wpAny_newFunctionEnv_cells S.kind (fun ⟨n, v⟩ hy => ?_) fun env he s1 x => ?_))
  · rcases S.par n (List.of_mem_zip hy).1 with z | z
    · exact .inl z
    · exact .inr ⟨z, PySem.W.cellsFrom_some _ _ _ (.inl z)⟩
  subst he
  refine ⟨(e0.mod.nolimit.keeps kx).keeps x.toInCall.keep, codeAny_func ?_⟩
  have I0 : Inv (L2H.cxH CX0 P w K mg base N qual (defScope st) f cdv A outer s H E0 p) [] (L2.start N vs) H s1 := L2H.inv_startH S hpin e0 hl r x
  have en : DL.Env (L2H.cxH CX0 P w K mg base N qual (defScope st) f cdv A outer s H E0 p).nox F0 (start N vs) (startR N ds) := ⟨S.nd, startR_names N ds, startR_envs N vs ds hl2 q⟩
  have I := I0.wish (fun _ _ => False)
  refine wpAny_mono ((body cdv A outer s H p ds m R (hr.deeper _) h).run F0 (start N vs) H en (.quiet at_) [] s1 I) (fun fl s' hs => ?_) fun e s' hs => hs.elim
  match fl with
  | .ret u =>
    obtain ⟨v, σ', H', J, rv, d, F2, m2, s2, q2, m3, sl, rr⟩ := hs
    exact ⟨v, H', J.os, J.bare, J.base, J.hok, rv, k d m3 v F2 H' rr (s2.trans (Step.drop s2.at2 sl)) q2⟩
  | .next =>
    obtain ⟨σ', H', J, ρ2, F2, m2, s2, en2, m3, sl, rr⟩ := hs
    exact ⟨.non, H', J.os, J.bare, J.base, J.hok, rfl, k .non m3 .non F2 H' rr (s2.trans (Step.drop s2.at2 sl)) .non⟩
  | .brk => obtain ⟨_, _, _, _, _, _, _, _, z⟩ := hs; exact z.elim
  | .cont => obtain ⟨_, _, _, _, _, _, _, _, z⟩ := hs; exact z.elim
end
section
variable {X : CD} {e : Expr} {es : List Expr} {ρ : Rn} {m : Led} {R : D → Led → Prop} {x : Str} {p pos : Pos} {k n : Nat} {sp : SpD} {a : Addr} {oe : Obj} {pn : List (Addr × Obj)}
theorem x_callP (G : KnowsP X.prog X.w X.K X.mg X.base k x n sp) (hr : Room k X.A) (h : AX (X.suite a ((a, oe) :: pn)) (e :: es) ρ m fun ds m1 => sp ds m1 R) (hg : Gl X x := by rfl)
    (hdb : (x == ("__debug__" : Str)) = false := by decide) (he : starEach (e :: es) X.env = (false, eval e X.env) :: starEach es X.env := by rfl) (hpl : (backTo pos (starEach es X.env)).any (·.1) = false := by rfl) :
    EX (X.suite a ((a, oe) :: pn)) (.Call (.Name x p) (e :: es) [] pos) ρ m R := .mk fun F σ H en at_ => by
  obtain ⟨f, fd, ps, FR, hm, hk, hb, hl, len⟩ := G.fn
  intro pins s I
  refine wpAny_Call_Name_kw (ld_glob I hg hm ?_ hdb)
  refine PySem.W.callWith_K (h₀ := X.base) I.ok.mod.kin hk (thn (h.run F σ H en at_ pos pins s I) fun us s1 ⟨vs, H1, I1, r, ds, F1, m1, st, q, hsp⟩ => ⟨I1.kIn, ?_⟩) he hpl
  have P1 := I1.pin (a, oe) (List.mem_append_left _ List.mem_cons_self)
  have hpin : L2H.PinOk (X.suite a ((a, oe) :: pn)).stack H1 s1 (a, oe) := ⟨P1.1, P1.2.1, fun hm => (List.mem_cons.mp (I1.stkSub a hm)).elim P1.2.2.1 P1.2.2.2.1, P1.2.2.2.2⟩
  have lu : us.length = ps.length := by rw [← r.length, q.length, len ds m1 R hsp, hl]
  have b := hb s1 us I1.kIn (by rw [List.append_nil]; exact lu)
  rw [List.append_nil] at b
  have rm : L2H.RoomH k (X.suite a ((a, oe) :: pn)).A := ⟨hr.dp, hr.un⟩
  refine wpAny_call (codeAny_mono (FR _ _ s1 H1 ⟨us, []⟩ us vs (PQ X.K F m H R) E0 (a, oe) rm hpin I1.env0 b r ⟨F1, m1, ds, R, q, st.at2, hsp, fun d m2 v F2 H2 rd st2 qd => ⟨d, F2, m2, st.trans st2, qd, rd⟩⟩) fun r s' hq => ?_)
  match r with
  | .error er => exact False.elim hq
  | .ok (.ret u) => exact I1.after hq
  | .ok .next => exact False.elim hq
  | .ok .brk => exact False.elim hq
  | .ok .cont => exact False.elim hq
end
end DL

namespace DL
open PySem PySem.Spec PyProof.Rows L2 RZ

/-! ### comprehensions over pairs -/
section
variable {X : CD} {elt it : Expr} {scope : Scope} {ρ : Rn} {m : Led} {R : D → Led → Prop} {pos p0 p1 p2 : Pos} {y z : Str} {j k n0 : Nat}
theorem Den.pair_inv {K : Frag} {F : Hp} {v : V} {d1 d2 : D} (q : Den K F v (.tup [d1, d2])) : ∃ a v1 v2, v = .ref a ∧ SqT K F a [v1, v2] ∧ Den K F v1 d1 ∧ Den K F v2 d2 := by
  cases q with
  | tup h hs =>
    cases hs with
    | cons q1 r =>
      cases r with
      | cons q2 r2 =>
        cases r2
        exact ⟨_, _, _, rfl, h, q1, q2⟩
theorem wipe2 {F : Hp} {σ : L2.St} {ρ1 ρ2 : Rn} {d1 d2 : D} {v1 v2 : V} (en : Env X F σ ρ) (h1 : SetAt ρ j y d1 ρ1) (q1 : Den X.K F v1 d1) (h2 : SetAt ρ1 k z d2 ρ2) (q2 : Den X.K F v2 d2) : Env X F (((L2.wipe σ [j, k]).set j (some v1)).set k (some v2)) ρ2 := by
  have e : ((L2.wipe σ [j, k]).set j (some v1)).set k (some v2) = (σ.set j (some v1)).set k (some v2) := by
    show ((((σ.set k none).set j none).set j (some v1)).set k (some v2)) = _
    rw [List.set_set]
    by_cases hjk : k = j
    · subst hjk
      rw [List.set_set, List.set_set, List.set_set]
    · rw [List.set_comm _ _ hjk, List.set_set]
  rw [e]
  exact (en.set h1 q1).set h2 q2
def CompP (X : CD) (scope : Scope) (ifs : List Expr) (elt : Expr) (y : Str) (j : Nat) (z : Str) (k : Nat) (ρ : Rn) (R : List D → Led → Prop) (ds : List D) (m1 : Led) : Prop := ∃ I : Nat → List D → Led → Prop, I 0 [] m1 ∧
  (∀ i d acc m', ds[i]? = some d → I i acc m' → ∃ d1 d2 ρ1 ρ2, d = .tup [d1, d2] ∧ SetAt ρ j y d1 ρ1 ∧ SetAt ρ1 k z d2 ρ2 ∧ ∀ (s : Shared) (H0 : Hp) (C : Addr) (cl : List (Str × Addr)) (fp : List Addr),
    match ifs with
    | [] => EX (X.blk s H0 scope (compEnvC scope cl C X.env) fp) elt ρ2 m' fun z m3 => acc.length < 100000 ∧ I (i + 1) (acc ++ [z]) m3
    | [c] => TX (X.blk s H0 scope (compEnvC scope cl C X.env) fp) c ρ2 m' fun k m2 => (k = true → ∀ (s : Shared) (H0 : Hp) (C : Addr) (cl : List (Str × Addr)) (fp : List Addr), EX (X.blk s H0 scope (compEnvC scope cl C X.env) fp) elt ρ2 m2 fun z m3 => acc.length < 100000 ∧ I (i + 1) (acc ++ [z]) m3) ∧ (k = false → I (i + 1) acc m2)
    | _ => False) ∧ ∀ acc m', I ds.length acc m' → R acc m'
/-- the reading of a comprehension over pairs -/
theorem lc_readP {ifs : List Expr} {F σ H} (hl1 : ifs.length ≤ 1) (en : Env X F σ ρ) (at_ : AtX X F m H) (R : List D → Led → Prop) (QQ : VK) (h : IX X (.Tuple [.Name y p1, .Name z p2] n0 p0) it ρ m (CompP X scope ifs elt y j z k ρ R))
    (fin : ∀ Dl acc vs F1 m1 H1 F' m' H', Step X.K F m H F1 m1 H1 → H1 Dl = none → Step X.K F1 m1 H1 F' m' H' → F' Dl = none → Dl ∉ keys m' → H' Dl = some (.lst vs) → Dens X.K F' vs acc → R acc m' → QQ (.ref Dl) H') : tLc (SI X (.Tuple [.Name y p1, .Name z p2] n0 p0) it) (gTup X.K 2 (gCons (gName j) (gCons (gName k) gNil))) (STs X scope ifs) (SEb X scope elt) [j, k] σ H QQ := by
  refine (h.run F σ H en at_).mono fun J H1 ⟨ds, F1, m1, st, ⟨I, i0, turn, done⟩, w⟩ => fun Dl hDl => ?_
  have hF1 : F1 Dl = none := st.at2.sub.free hDl
  have hk1 : Dl ∉ keys m1 := st.at2.notkey hDl
  refine lc_it w (fun i H' => ∃ acc vs F' m', Step X.K F1 m1 H1 F' m' H' ∧ H' Dl = some (.lst vs) ∧ Dens X.K F' vs acc ∧ I i acc m' ∧ F' Dl = none ∧ Dl ∉ keys m') ⟨[], [], F1, m1, (Step.refl st.at2).poke hDl hF1 hk1, upd_same, .nil, i0, hF1, hk1⟩
    (fun i H' _ ⟨acc, vs, F', m', s', _⟩ => s'.ex.trans s'.at2.sub) (fun i x H' H'' hi ⟨acc, vs, F', m', s', hl, hs, hI, hF', hk'⟩ yy => ?_) (fun H' ⟨acc, vs, F', m', s', hl, hs, hI, hF', hk'⟩ => ?_)
  · obtain ⟨F3, d, hd, s3, q⟩ := yy F' m' s'.ex s'.at2
    obtain ⟨d1, d2, ρ1, ρ2, rfl, hset, hset2, turn⟩ := turn i d acc m' hd hI
    obtain ⟨a, v1, v2, rfl, hq0, q1, q2⟩ := q.pair_inv
    obtain ⟨a1, a2, a3⟩ := s3.stay hF' hk' hl
    have en2 := wipe2 (en.mono (st.ex.trans (s'.ex.trans s3.ex))) hset q1 hset2 q2
    have fin : ∀ {F4 m4 H4 v zz}, Step X.K F3 m' H'' F4 m4 H4 → Den X.K F4 v zz → acc.length < 100000 ∧ I (i + 1) (acc ++ [zz]) m4 → ∃ acc, H4 Dl = some (.lst acc) ∧ acc.length < sizeLine ∧ ∃ acc_1 vs F' m', Step X.K F1 m1 H1 F' m' (upd H4 Dl (.lst (acc ++ [v]))) ∧ upd H4 Dl (.lst (acc ++ [v])) Dl = some (.lst vs) ∧ Dens X.K F' vs acc_1 ∧ I (i + 1) acc_1 m' ∧ F' Dl = none ∧ Dl ∉ keys m' := fun {F4 m4 H4 v zz} s4 q4 hh => by
      obtain ⟨b1, b2, b3⟩ := s4.stay a2 a3 a1
      exact ⟨vs, b1, lenLt (by rw [hs.length]; exact hh.1), acc ++ [zz], vs ++ [v], F4, m4, ((s'.trans s3).trans s4).poke hDl b2 b3, upd_same, (hs.mono (s3.ex.trans s4.ex)).snoc q4, hh.2, b2, b3⟩
    refine ⟨a, [v1, v2], rfl, s3.at2.sub.sqT hq0, rfl, v1, [v2], rfl, v2, [], rfl, rfl, ?_⟩
    refine ⟨by rw [wipe_set (by simp), wipe_set (by simp), wipe_wipe _ _ fun _ q => q], ?_⟩
    match ifs, turn with
    | [], turn =>
      unfold STs
      dsimp only
      rw [if_pos rfl]
      intro s H0 C cl fp
      exact EX.go (turn s H0 C cl fp) en2.blk (.quiet s3.at2) fun v z F4 m4 H4 s4 _ q4 hh => fin s4 q4 hh
    | [c], turn =>
      show ∀ s H0 C cl fp, ST (X.blk s H0 scope (compEnvC scope cl C X.env) fp) c _ H'' _
      intro s H0 C cl fp
      refine TX.go (turn s H0 C cl fp) en2.blk (.quiet s3.at2) fun k F4 m4 H4 s4 _ r => ?_
      cases k with
      | true =>
        rw [if_pos rfl]
        intro s' H0' C' cl' fp'
        exact EX.go (r.1 rfl s' H0' C' cl' fp') (en2.mono s4.ex).blk (.quiet s4.at2.toAt) fun v z F5 m5 H5 s5 _ q5 hh => fin (s4.st.trans s5.st) q5 hh
      | false =>
        rw [if_neg Bool.false_ne_true]
        obtain ⟨b1, b2, b3⟩ := Step.stay s4.st a2 a3 a1
        exact ⟨acc, vs, F4, m4, (s'.trans s3).trans s4, b1, hs.mono (s3.ex.trans s4.ex), r.2 rfl, b2, b3⟩
    | _ :: _ :: _, turn => exact absurd hl1 (by simp)
  · exact fin Dl acc vs F1 m1 H1 F' m' H' st hDl s' hF' hk' hl hs (done acc m' (by simpa using hI))
/-- [elt for y in it if ..] -/
theorem x_lcP {ifs : List Expr} (hj : SlotAt ρ j y) (hk0 : SlotAt ρ k z) (h : IX X (.Tuple [.Name y p1, .Name z p2] n0 p0) it ρ m (CompP X scope ifs elt y j z k ρ fun acc m' => R (.lst acc) m')) (hl1 : ifs.length ≤ 1 := by decide) (hok : blkC X.N X.env.scope scope [(y, j), (z, k)] = true := by kernel_rfl)
    (hx : ∀ cl C, Loc (compEnvC scope cl C X.env).scope y := by intro _ _; first | exact Or.inl rfl | exact Or.inr rfl) (hx2 : ∀ cl C, Loc (compEnvC scope cl C X.env).scope z := by intro _ _; first | exact Or.inl rfl | exact Or.inr rfl) (hf : ∀ cl C, (scope.names.lookup y == some .cell) = true ∨ (compEnvC scope cl C X.env).scope.names.lookup y = some .local := by intro _ _; first | exact .inl rfl | exact .inr rfl) (hf2 : ∀ cl C, (scope.names.lookup z == some .cell) = true ∨ (compEnvC scope cl C X.env).scope.names.lookup z = some .local := by intro _ _; first | exact .inl rfl | exact .inr rfl)
    (hc : X.calm = true := by rfl) (hs : ∀ x, foldedSetIterable it X.env x = pure x := by intro _; rfl) : EX X (.ListComp elt [⟨.Tuple [.Name y p1, .Name z p2] n0 p0, it, ifs, 0⟩] scope pos) ρ m R := .mk fun F σ H en at_ =>
  SE.of (pe_lc (own := [(y, j), (z, k)]) hc en.nd (pi_SI (it := it)) (blkOk_by hok) (fun s H0 C cl fp => pg_tup (X := X.blk s H0 scope (compEnvC scope cl C X.env) fp) hc (pgs_cons (pg_name (X := X.blk s H0 scope (compEnvC scope cl C X.env) fp) (i := j) en.nd (by show X.N[j]? = some y; rw [← en.nm]; exact hj.ix) (hx cl C) (hf cl C)) (pgs_cons (pg_name (X := X.blk s H0 scope (compEnvC scope cl C X.env) fp) (i := k) en.nd (by show X.N[k]? = some z; rw [← en.nm]; exact hk0.ix) (hx2 cl C) (hf2 cl C)) pgs_nil))) (fun s H0 C cl fp => pts_STs s H0 C cl fp) (fun s H0 C cl fp => pe_SEb s H0 C cl fp) hs)
    (lc_readP hl1 en at_ _ _ h (fun Dl acc vs F1 m1 H1 F' m' H' st hD s' hF hk hl hs r => let ⟨F2, st2, q⟩ := lc_frz (R := fun _ _ => True) st hD s' hF hk hl hs; ⟨_, F2, m', st2, q, r⟩))
/-- x = [..] on one line, x a local -/
theorem s_setLcP {ifs : List Expr} {E : EndsD} {x : Str} {i : Nat} {px spos : Pos} (hj : SlotAt ρ j y) (hk0 : SlotAt ρ k z) (hi : SlotAt ρ i x) (h : IX X (.Tuple [.Name y p1, .Name z p2] n0 p0) it ρ m (CompP X scope ifs elt y j z k ρ fun acc m' => ∃ ρ', SetAt ρ i x (.lst acc) ρ' ∧ E.nx ρ' m'))
    (hxl : X.env.scope.names.lookup x = some .local := by rfl) (ha : (scope.names.any fun (n, k) => n == x && (k == .local || k == .cell)) = false := by decide +kernel) (hk : X.env.scope.kind = .function := by rfl) (hln : (px.line == pos.line) = true := by rfl)
    (hl1 : ifs.length ≤ 1 := by decide) (hok : blkC X.N X.env.scope scope [(y, j), (z, k)] = true := by kernel_rfl)
    (hx : ∀ cl C, Loc (compEnvC scope cl C X.env).scope y := by intro _ _; first | exact Or.inl rfl | exact Or.inr rfl) (hx2 : ∀ cl C, Loc (compEnvC scope cl C X.env).scope z := by intro _ _; first | exact Or.inl rfl | exact Or.inr rfl) (hf : ∀ cl C, (scope.names.lookup y == some .cell) = true ∨ (compEnvC scope cl C X.env).scope.names.lookup y = some .local := by intro _ _; first | exact .inl rfl | exact .inr rfl) (hf2 : ∀ cl C, (scope.names.lookup z == some .cell) = true ∨ (compEnvC scope cl C X.env).scope.names.lookup z = some .local := by intro _ _; first | exact .inl rfl | exact .inr rfl)
    (hc : X.calm = true := by rfl) (hs : ∀ x, foldedSetIterable it X.env x = pure x := by intro _; rfl) : S1 X (.Assign [.Name x px] (.ListComp elt [⟨.Tuple [.Name y p1, .Name z p2] n0 p0, it, ifs, 0⟩] scope pos) spos) ρ m E := .mk fun F σ H en at_ =>
  SS.of (ps_setLc (i := i) (own := [(y, j), (z, k)]) hc en.nd (by rw [← en.nm]; exact hi.ix) hxl (sw_true hk hxl hln ha) (pi_SI (it := it)) (blkOk_by hok) (fun s H0 C cl fp => pg_tup (X := X.blk s H0 scope (compEnvC scope cl C X.env) fp) hc (pgs_cons (pg_name (X := X.blk s H0 scope (compEnvC scope cl C X.env) fp) (i := j) en.nd (by show X.N[j]? = some y; rw [← en.nm]; exact hj.ix) (hx cl C) (hf cl C)) (pgs_cons (pg_name (X := X.blk s H0 scope (compEnvC scope cl C X.env) fp) (i := k) en.nd (by show X.N[k]? = some z; rw [← en.nm]; exact hk0.ix) (hx2 cl C) (hf2 cl C)) pgs_nil))) (fun s H0 C cl fp => pts_STs s H0 C cl fp) (fun s H0 C cl fp => pe_SEb s H0 C cl fp) hs)
    (lc_readP hl1 en at_ _ _ h (fun Dl acc vs F1 m1 H1 F' m' H' st hD s' hF hk hl hs ⟨ρ', hset, r⟩ => let ⟨F2, st2, q⟩ := lc_frz (R := fun _ _ => True) st hD s' hF hk hl hs; ⟨ρ', F2, m', st2, (en.mono st2.ex).set hset q, r⟩))
/-- the same, the list to be changed -/
theorem x_lcPM {ifs : List Expr} (hj : SlotAt ρ j y) (hk0 : SlotAt ρ k z) (h : IX X (.Tuple [.Name y p1, .Name z p2] n0 p0) it ρ m (CompP X scope ifs elt y j z k ρ fun acc m' => ∀ p, R (.ref p) (m' ++ [(p, .lst acc)]))) (hl1 : ifs.length ≤ 1 := by decide) (hok : blkC X.N X.env.scope scope [(y, j), (z, k)] = true := by kernel_rfl)
    (hx : ∀ cl C, Loc (compEnvC scope cl C X.env).scope y := by intro _ _; first | exact Or.inl rfl | exact Or.inr rfl) (hx2 : ∀ cl C, Loc (compEnvC scope cl C X.env).scope z := by intro _ _; first | exact Or.inl rfl | exact Or.inr rfl) (hf : ∀ cl C, (scope.names.lookup y == some .cell) = true ∨ (compEnvC scope cl C X.env).scope.names.lookup y = some .local := by intro _ _; first | exact .inl rfl | exact .inr rfl) (hf2 : ∀ cl C, (scope.names.lookup z == some .cell) = true ∨ (compEnvC scope cl C X.env).scope.names.lookup z = some .local := by intro _ _; first | exact .inl rfl | exact .inr rfl)
    (hc : X.calm = true := by rfl) (hs : ∀ x, foldedSetIterable it X.env x = pure x := by intro _; rfl) : EX X (.ListComp elt [⟨.Tuple [.Name y p1, .Name z p2] n0 p0, it, ifs, 0⟩] scope pos) ρ m R := .mk fun F σ H en at_ =>
  SE.of (pe_lc (own := [(y, j), (z, k)]) hc en.nd (pi_SI (it := it)) (blkOk_by hok) (fun s H0 C cl fp => pg_tup (X := X.blk s H0 scope (compEnvC scope cl C X.env) fp) hc (pgs_cons (pg_name (X := X.blk s H0 scope (compEnvC scope cl C X.env) fp) (i := j) en.nd (by show X.N[j]? = some y; rw [← en.nm]; exact hj.ix) (hx cl C) (hf cl C)) (pgs_cons (pg_name (X := X.blk s H0 scope (compEnvC scope cl C X.env) fp) (i := k) en.nd (by show X.N[k]? = some z; rw [← en.nm]; exact hk0.ix) (hx2 cl C) (hf2 cl C)) pgs_nil))) (fun s H0 C cl fp => pts_STs s H0 C cl fp) (fun s H0 C cl fp => pe_SEb s H0 C cl fp) hs)
    (lc_readP hl1 en at_ _ _ h (fun Dl acc vs F1 m1 H1 F' m' H' st hD s' hF hk hl hs r => ⟨_, F', _, st.trans (s'.takeM hD hF hk hl (mo := .lst acc) ⟨vs, rfl, hs⟩), .ref Dl, r Dl⟩))

theorem s_setLcPM {ifs : List Expr} {E : EndsD} {x : Str} {i : Nat} {px spos : Pos} (hj : SlotAt ρ j y) (hk0 : SlotAt ρ k z) (hi : SlotAt ρ i x) (h : IX X (.Tuple [.Name y p1, .Name z p2] n0 p0) it ρ m (CompP X scope ifs elt y j z k ρ fun acc m' => ∀ p, ∃ ρ', SetAt ρ i x (.ref p) ρ' ∧ E.nx ρ' (m' ++ [(p, .lst acc)])))
    (hxl : X.env.scope.names.lookup x = some .local := by rfl) (ha : (scope.names.any fun (n, k) => n == x && (k == .local || k == .cell)) = false := by decide +kernel) (hk : X.env.scope.kind = .function := by rfl) (hln : (px.line == pos.line) = true := by rfl)
    (hl1 : ifs.length ≤ 1 := by decide) (hok : blkC X.N X.env.scope scope [(y, j), (z, k)] = true := by kernel_rfl)
    (hx : ∀ cl C, Loc (compEnvC scope cl C X.env).scope y := by intro _ _; first | exact Or.inl rfl | exact Or.inr rfl) (hx2 : ∀ cl C, Loc (compEnvC scope cl C X.env).scope z := by intro _ _; first | exact Or.inl rfl | exact Or.inr rfl) (hf : ∀ cl C, (scope.names.lookup y == some .cell) = true ∨ (compEnvC scope cl C X.env).scope.names.lookup y = some .local := by intro _ _; first | exact .inl rfl | exact .inr rfl) (hf2 : ∀ cl C, (scope.names.lookup z == some .cell) = true ∨ (compEnvC scope cl C X.env).scope.names.lookup z = some .local := by intro _ _; first | exact .inl rfl | exact .inr rfl)
    (hc : X.calm = true := by rfl) (hs : ∀ x, foldedSetIterable it X.env x = pure x := by intro _; rfl) : S1 X (.Assign [.Name x px] (.ListComp elt [⟨.Tuple [.Name y p1, .Name z p2] n0 p0, it, ifs, 0⟩] scope pos) spos) ρ m E := .mk fun F σ H en at_ =>
  SS.of (ps_setLc (i := i) (own := [(y, j), (z, k)]) hc en.nd (by rw [← en.nm]; exact hi.ix) hxl (sw_true hk hxl hln ha) (pi_SI (it := it)) (blkOk_by hok) (fun s H0 C cl fp => pg_tup (X := X.blk s H0 scope (compEnvC scope cl C X.env) fp) hc (pgs_cons (pg_name (X := X.blk s H0 scope (compEnvC scope cl C X.env) fp) (i := j) en.nd (by show X.N[j]? = some y; rw [← en.nm]; exact hj.ix) (hx cl C) (hf cl C)) (pgs_cons (pg_name (X := X.blk s H0 scope (compEnvC scope cl C X.env) fp) (i := k) en.nd (by show X.N[k]? = some z; rw [← en.nm]; exact hk0.ix) (hx2 cl C) (hf2 cl C)) pgs_nil))) (fun s H0 C cl fp => pts_STs s H0 C cl fp) (fun s H0 C cl fp => pe_SEb s H0 C cl fp) hs)
    (lc_readP hl1 en at_ _ _ h (fun Dl acc vs F1 m1 H1 F' m' H' st hD s' hF hk hl hs r => let ⟨ρ', hset, r2⟩ := r Dl; have st2 := st.trans (s'.takeM hD hF hk hl (mo := .lst acc) ⟨vs, rfl, hs⟩); ⟨ρ', F', _, st2, (en.mono st2.ex).set hset (.ref Dl), r2⟩))
end
end DL

namespace DL
open PySem PySem.Spec PyProof.Rows L2 RZ

/-! ### == through the ledger, at any depth -/
mutual
inductive DW (m : Led) : D → D → Prop
  | now (d : D) : DW m d d
  | led {i : Nat} {a : Addr} {ds es : List D} : m[i]? = some (a, .lst ds) → DWs m ds es → DW m (.ref a) (.lst es)
  | tup {ds es : List D} : DWs m ds es → DW m (.tup ds) (.tup es)
inductive DWs (m : Led) : List D → List D → Prop
  | nil : DWs m [] []
  | cons {d e : D} {ds es : List D} : DW m d e → DWs m ds es → DWs m (d :: ds) (e :: es)
end
theorem DWs.now {m : Led} : ∀ ds : List D, DWs m ds ds
  | [] => .nil
  | d :: ds => .cons (.now d) (DWs.now ds)
mutual
theorem DW.dp {K : Frag} {F H : Hp} {m : Led} (at_ : At K F m H) : ∀ {d d' : D} {v : V} (n : Nat), DW m d d' → Sh n d' → Den K F v d → Dp K H v (py d')
  | _, _, v, n, .now d, hs, q => Dp.up at_.sub (q.dp n _ _ hs)
  | _, _, v, 0, .led _ _, hs, _ => hs.elim
  | _, _, v, n + 1, .led hi h, hs, q => by
    cases q
    obtain ⟨hh, ⟨xs, rfl, qs⟩, e⟩ := at_.get hi
    exact .lst (.inl (.inl e)) (DWs.dp at_ n h hs qs)
  | _, _, v, 0, .tup _, hs, _ => hs.elim
  | _, _, v, n + 1, .tup h, hs, q => by
    cases q with
    | tup q qs => exact .tup (at_.sub.sqT q) (DWs.dp at_ n h hs qs)
theorem DWs.dp {K : Frag} {F H : Hp} {m : Led} (at_ : At K F m H) : ∀ {ds es : List D} {vs : List V} (n : Nat), DWs m ds es → (∀ x ∈ es, Sh n x) → Dens K F vs ds → DpAll K H vs (pys es)
  | _, _, _, n, .nil, _, .nil => .nil
  | _, _, _, n, .cons h hs, k, .cons q qs => .cons (DW.dp at_ n h (k _ List.mem_cons_self) q) (DWs.dp at_ n hs (fun x hx => k x (List.mem_cons_of_mem _ hx)) qs)
end
section
variable {X : CD} {d1 d2 e1 e2 : D} {m : Led} {R : D → Led → Prop}
theorem o_eqW (hu : X.A.units + 64 < cLine) (h1 : DW m d1 e1) (h2 : DW m d2 e2) (s1 : NB 20 e1) (s2 : NB 20 e2) (k : ∀ b : Bool, (b = true ↔ e1 = e2) → R (.bl b) m) : OX X (compareOp .Eq) d1 d2 m R := OX.of (op_eqP hu) fun F H x y q1 q2 at_ =>
  ⟨_, _, h1.dp at_.toAt 20 s1.sh q1, h2.dp at_.toAt 20 s2.sh q2, (s1.sh.ok).1, (s2.sh.ok).1, Nat.le_trans (s1.sh.ok).2 (by decide), PQ.now at_.toAt (.bl _) (k _ (eqv_iff 20 20 _ _ s1 s2))⟩
theorem o_neW (hu : X.A.units + 64 < cLine) (h1 : DW m d1 e1) (h2 : DW m d2 e2) (s1 : NB 20 e1) (s2 : NB 20 e2) (k : ∀ b : Bool, (b = true ↔ e1 = e2) → R (.bl (!b)) m) : OX X (compareOp .NotEq) d1 d2 m R := OX.of (op_neP hu) fun F H x y q1 q2 at_ =>
  ⟨_, _, h1.dp at_.toAt 20 s1.sh q1, h2.dp at_.toAt 20 s2.sh q2, (s1.sh.ok).1, (s2.sh.ok).1, Nat.le_trans (s1.sh.ok).2 (by decide), PQ.now at_.toAt (.bl _) (k _ (eqv_iff 20 20 _ _ s1 s2))⟩
end

section
variable {X : CD} {d : D} {m : Led} {R : D → Led → Prop}
theorem b_listTM {ds : List D} (k : ∀ p, R (.ref p) (m ++ [(p, .lst ds)])) : BX X (.type "list") [.tup ds] m R := BX.of call_list_of fun F H xs qs at_ => by
  obtain ⟨v, rfl, q⟩ := qs.one
  obtain ⟨p, ys, rfl, e1, s1⟩ := tup_read at_.toAt q
  exact ⟨p, ys, rfl, .inr e1, fun l hl => new_lstM at_ hl s1 k⟩
end

/-! ### the forms that the walker takes -/
section
variable {X : CD} {e : Expr} {es : List Expr} {kws : List Keyword} {ρ : Rn} {m : Led} {R : D → Led → Prop} {E : EndsD} {x nm f : Str} {p pos pos2 np pos' : Pos} {k n : Nat} {dd : List D} {sp : SpX} {mg : Str → Option Value} {P : Program} {w : World} {K : Frag} {base : Heap} {C : Addr} {ks : List Str} {gD : List D → List D}
theorem c_callX (G : KnowsX P w K mg base k x n dd sp) (hr : Room k X.A) (h : AX X (e :: es) ρ m fun ds m1 => sp (ds ++ dd) m1 R (fun nm fd m2 => X.xq nm fd ρ m2)) (hX : X.prog = P ∧ X.w = w ∧ X.K = K ∧ X.mg = mg ∧ X.base = base := by exact ⟨rfl, rfl, rfl, rfl, rfl⟩) (hg : Gl X x := by rfl)
    (hdb : (x == ("__debug__" : Str)) = false := by decide) (he : starEach (e :: es) X.env = (false, eval e X.env) :: starEach es X.env := by rfl) (hpl : (backTo pos (starEach es X.env)).any (·.1) = false := by rfl) :
    EX X (.Call (.Name x p) (e :: es) [] pos) ρ m R := by
  obtain ⟨rfl, rfl, rfl, rfl, rfl⟩ := hX
  exact x_callX G hr h hg hdb he hpl
theorem c_callK (G : KnowsK P w K mg base k x ks gD sp) (hr : Room k X.A) (h : KX X kws ρ m fun ds m1 => ds.length = ks.length ∧ sp (gD ds) m1 R (fun nm fd m2 => X.xq nm fd ρ m2)) (hX : X.prog = P ∧ X.w = w ∧ X.K = K ∧ X.mg = mg ∧ X.base = base := by exact ⟨rfl, rfl, rfl, rfl, rfl⟩)
    (hall : (backToKw pos (keywordEach kws X.env)).all (·.1.isSome) = true := by rfl) (hks : (backToKw pos (keywordEach kws X.env)).filterMap (·.1) = ks := by rfl) (hg : Gl X x := by rfl) (hdb : (x == ("__debug__" : Str)) = false := by decide)
    (hpl : ((backTo pos (starEach [] X.env)).any (·.1) || (backToKw pos (keywordEach kws X.env)).any (·.1.isNone)) = false := by rfl) : EX X (.Call (.Name x p) [] kws pos) ρ m R := by
  obtain ⟨rfl, rfl, rfl, rfl, rfl⟩ := hX
  exact x_callK G hr h hall hks hg hdb hpl
theorem c_raise0 (G : XK0 P w K mg nm C) (hr : Room 1 X.A) (h : X.xq nm none ρ m) (hX : X.prog = P ∧ X.w = w ∧ X.K = K ∧ X.mg = mg := by exact ⟨rfl, rfl, rfl, rfl⟩) (hc : X.calm = true := by rfl) (hg : Gl X nm := by rfl) (hdb : (nm == ("__debug__" : Str)) = false := by decide) : S1 X (.Raise (some (.Call (.Name nm p) [] [] pos)) none pos2) ρ m E := by
  obtain ⟨rfl, rfl, rfl, rfl⟩ := hX
  exact s_raise0 G hr h hc hg hdb
theorem c_raise1 (G : XK1 P w K mg nm f C) (hr : Room 1 X.A) (h : EX X e ρ m fun d m1 => X.xq nm (some (f, d)) ρ m1) (hX : X.prog = P ∧ X.w = w ∧ X.K = K ∧ X.mg = mg := by exact ⟨rfl, rfl, rfl, rfl⟩) (hc : X.calm = true := by rfl) (hg : Gl X nm := by rfl) (hdb : (nm == ("__debug__" : Str)) = false := by decide)
    (hst : starEach [e] X.env = (false, eval e X.env) :: starEach [] X.env := by rfl) : S1 X (.Raise (some (.Call (.Name nm p) [e] [] pos)) none pos2) ρ m E := by
  obtain ⟨rfl, rfl, rfl, rfl⟩ := hX
  exact s_raise1 G hr h hc hg hdb hst
theorem c_callP {spd : SpD} {a : Addr} {oe : Obj} {pn : List (Addr × Obj)} (G : KnowsP P w K mg base k x n spd) (hr : Room k X.A) (h : AX (X.suite a ((a, oe) :: pn)) (e :: es) ρ m fun ds m1 => spd ds m1 R) (hX : X.prog = P ∧ X.w = w ∧ X.K = K ∧ X.mg = mg ∧ X.base = base := by exact ⟨rfl, rfl, rfl, rfl, rfl⟩) (hg : Gl X x := by rfl)
    (hdb : (x == ("__debug__" : Str)) = false := by decide) (he : starEach (e :: es) X.env = (false, eval e X.env) :: starEach es X.env := by rfl) (hpl : (backTo pos (starEach es X.env)).any (·.1) = false := by rfl) :
    EX (X.suite a ((a, oe) :: pn)) (.Call (.Name x p) (e :: es) [] pos) ρ m R := by
  obtain ⟨rfl, rfl, rfl, rfl, rfl⟩ := hX
  exact x_callP G hr h hg hdb he hpl
end
/-- a class's own __init__ (the j-th statement of the class's body) -/
def inClass (st : Stmt) (j : Nat) : Stmt := match st with
  | .ClassDef _ _ _ body _ _ _ _ _ _ _ => body.getD j (.Pass ⟨0, 0, 0, 0⟩)
  | _ => .Pass ⟨0, 0, 0, 0⟩
end DL

namespace DL
open PySem PySem.Spec PyProof.Rows L2 RZ

/-! ### what a piece of code does, over data: what is wanted of the value and of what is raised -/
abbrev XR := Str → Option (Str × D) → Led → Prop
abbrev M (α : Type) := Led → (α → Led → Prop) → XR → Prop
def ret {α : Type} (a : α) : M α := fun m R _ => R a m
def bnd {α β : Type} (c : M α) (k : α → M β) : M β := fun m R E => c m (fun a m' => k a m' R E) E
def bad {α : Type} : M α := fun _ _ _ => False
def iteM {α : Type} (k : Bool) (a b : M α) : M α := fun m R E => (k = true → a m R E) ∧ (k = false → b m R E)
theorem ret_d {α : Type} {a : α} {m R E} : ret a m R E = R a m := rfl
theorem bnd_d {α β : Type} {c : M α} {k : α → M β} {m R E} : bnd c k m R E = c m (fun a m' => k a m' R E) E := rfl
theorem iteM_t {α : Type} {a b : M α} {m R E} : iteM true a b m R E = a m R E := by simp [iteM]
theorem iteM_f {α : Type} {a b : M α} {m R E} : iteM false a b m R E = b m R E := by simp [iteM]

/-- what is raised is wished for by the context -/
abbrev XA (X : CD) (ρ : Rn) (E : XR) : Prop := ∀ nm fd m2, E nm fd m2 → X.xq nm fd ρ m2
abbrev XF (X : CD) (E : XR) : Prop := ∀ ρ nm fd m2, E nm fd m2 → X.xq nm fd ρ m2

/-! ### judgements -/
structure Ev (X : CD) (e : Expr) (ρ : Rn) (c : M D) : Prop where
  run : ∀ m R E, XA X ρ E → c m R E → EX X e ρ m R
structure Tv (X : CD) (e : Expr) (ρ : Rn) (c : M Bool) : Prop where
  run : ∀ m R E, XA X ρ E → c m R E → TX X e ρ m R
structure Wv (X : CD) (e : Expr) (ρ : Rn) (c : M Bool) : Prop where
  run : ∀ m R E, XA X ρ E → c m R E → WX X e ρ m R
structure EvA (X : CD) (es : List Expr) (ρ : Rn) (c : M (List D)) : Prop where
  run : ∀ m R E, XA X ρ E → c m R E → AX X es ρ m R
structure EvO (X : CD) (o : Option Expr) (ρ : Rn) (c : M (Option Int)) : Prop where
  run : ∀ m R E, XA X ρ E → c m R E → PX X o ρ m R
structure Iv (X : CD) (tg it : Expr) (ρ : Rn) (c : M (List D)) : Prop where
  run : ∀ m R E, XA X ρ E → c m R E → IX X tg it ρ m R
theorem AX.mono {X : CD} {es : List Expr} {ρ : Rn} {m : Led} {R R' : List D → Led → Prop} (h : AX X es ρ m R) (q : ∀ d m', R d m' → R' d m') : AX X es ρ m R' := .mk fun F σ H en a => (h.run F σ H en a).mono fun v H1 ⟨d, F1, m1, s, k, r⟩ => ⟨d, F1, m1, s, k, q d m1 r⟩
theorem WX.mono {X : CD} {e : Expr} {ρ : Rn} {m : Led} {R R' : Bool → Led → Prop} (h : WX X e ρ m R) (q : ∀ d m', R d m' → R' d m') : WX X e ρ m R' := .mk fun F σ H en a => (h.run F σ H en a).mono fun v H1 ⟨F1, m1, s, r⟩ => ⟨F1, m1, s, q v m1 r⟩
theorem IX.mono {X : CD} {tg it : Expr} {ρ : Rn} {m : Led} {R R' : List D → Led → Prop} (h : IX X tg it ρ m R) (q : ∀ d m', R d m' → R' d m') : IX X tg it ρ m R' := .mk fun F σ H en a => (h.run F σ H en a).mono fun v H1 ⟨d, F1, m1, s, r, w⟩ => ⟨d, F1, m1, s, q d m1 r, w⟩
theorem PX.mono {X : CD} {o : Option Expr} {ρ : Rn} {m : Led} {R R' : Option Int → Led → Prop} (h : PX X o ρ m R) (q : ∀ d m', R d m' → R' d m') : PX X o ρ m R' := by
  cases o with
  | none => exact q _ _ h
  | some e => exact EX.mono h fun d m' ⟨i, e, r⟩ => ⟨i, e, q _ _ r⟩

/-! ### operations over data -/
def noneM : M D := ret .non
/-- a list of the ledger or a frozen one -/
def lstM (d : D) : M (List D) := fun m R _ => match d with
  | .lst ds => R ds m
  | .ref a => ∃ (n : Nat) (ds : List D), m[n]? = some (a, .lst ds) ∧ R ds m
  | _ => False
theorem lstM_v {d : D} {m R E} (h : lstM d m R E) : ∃ ds, LstV m d ds ∧ R ds m := by
  cases d <;> try exact h.elim
  · exact ⟨_, .inl rfl, h⟩
  · obtain ⟨n, ds, h1, h2⟩ := h
    exact ⟨ds, .inr ⟨n, _, rfl, h1⟩, h2⟩
def isSeqD : D → Bool
  | .lst _ => true
  | .ref _ => true
  | _ => false
def addM (a b : D) : M D := fun m R E => match a, b with
  | .int i, .int j => R (.int (i + j)) m
  | .lst as, .lst bs => as.length + bs.length ≤ 100000 ∧ R (.lst (as ++ bs)) m
  | .lst as, .ref b => lstM (.ref b) m (fun bs m' => as.length + bs.length ≤ 100000 ∧ R (.lst (as ++ bs)) m') E
  | .ref a, .lst bs => lstM (.ref a) m (fun as m' => as.length + bs.length ≤ 100000 ∧ R (.lst (as ++ bs)) m') E
  | _, _ => False
/-- a + b, the new list to be changed -/
def addMM (a b : D) : M D := fun m R E => lstM a m (fun as m1 => lstM b m1 (fun bs m2 => as.length + bs.length ≤ 100000 ∧ ∀ p, R (.ref p) (m2 ++ [(p, .lst (as ++ bs))])) E) E
def subM (a b : D) : M D := fun m R _ => match a, b with
  | .int i, .int j => R (.int (i - j)) m
  | _, _ => False
def mulM (a b : D) : M D := fun m R _ => match a, b with
  | .int i, .int j => IntMulOk i j ∧ R (.int (i * j)) m
  | _, _ => False
def fdivM (a b : D) : M D := fun m R _ => match a, b with
  | .int i, .int j => CDivG i j ∧ R (.int (i.fdiv j)) m
  | _, _ => False
def modM (a b : D) : M D := fun m R _ => match a, b with
  | .int i, .int j => j ≠ 0 ∧ R (.int (i.fmod j)) m
  | _, _ => False
def powM (a b : D) : M D := fun m R _ => match a, b with
  | .int i, .int j => CPow i j ∧ R (.int (i ^ j.toNat)) m
  | _, _ => False
def binM (op : Operator) (a b : D) : M D := match op with
  | .Add => addM a b
  | .Sub => subM a b
  | .Mult => mulM a b
  | .FloorDiv => fdivM a b
  | .Mod => modM a b
  | .Pow => powM a b
  | _ => bad
section
variable {X : CD} {m : Led} {R : D → Led → Prop} {E : XR} {a b : D}
theorem addM_ok (h : addM a b m R E) : OX X (binaryOp .Add) a b m R := by
  cases a <;> cases b <;> try exact h.elim
  · exact o_add h
  · exact o_cat (.inl rfl) (.inl rfl) h.1 h.2
  · obtain ⟨n, ds, h1, h2, h3⟩ := h
    exact o_cat (.inl rfl) (.inr ⟨n, _, rfl, h1⟩) h2 h3
  · obtain ⟨n, ds, h1, h2, h3⟩ := h
    exact o_cat (.inr ⟨n, _, rfl, h1⟩) (.inl rfl) h2 h3
theorem addMM_ok (h : addMM a b m R E) : OX X (binaryOp .Add) a b m R := by
  obtain ⟨ds, h1, h2⟩ := lstM_v h
  obtain ⟨es, h3, h4⟩ := lstM_v h2
  exact o_catM h1 h3 h4.1 h4.2
theorem binM_ok {op : Operator} (h : binM op a b m R E) : OX X (binaryOp op) a b m R := by
  cases op <;> try exact h.elim
  · exact addM_ok h
  · have h : subM a b m R E := h
    cases a <;> cases b <;> try exact h.elim
    exact o_sub h
  · have h : mulM a b m R E := h
    cases a <;> cases b <;> try exact h.elim
    exact o_mul h.1 h.2
  · have h : modM a b m R E := h
    cases a <;> cases b <;> try exact h.elim
    exact o_modN h.1 h.2
  · have h : powM a b m R E := h
    cases a <;> cases b <;> try exact h.elim
    exact o_pow h.1 h.2
  · have h : fdivM a b m R E := h
    cases a <;> cases b <;> try exact h.elim
    exact o_fdivN h.1 h.2
end
/-- op= -/
def inplM (op : Operator) (a b : D) : M D := fun m R _ => match op, a, b with
  | .Add, .int i, .int j => R (.int (i + j)) m
  | .Sub, .int i, .int j => R (.int (i - j)) m
  | _, _, _ => False
theorem inplM_ok {X : CD} {op : Operator} {a b : D} {m R E} (h : inplM op a b m R E) : OX X (inplaceOp op) a b m R := by
  cases op <;> try exact h.elim
  all_goals cases a <;> cases b <;> try exact h.elim
  · exact o_iadd h
  · exact o_isub h
def unM (op : UnaryOp) (a : D) : M D := fun m R _ => match op, a with
  | .USub, .int i => R (.int (-i)) m
  | _, _ => False
theorem unM_ok {X : CD} {op : UnaryOp} {a : D} {m R E} (h : unM op a m R E) : UX X (unaryOp op) a m R := by
  cases op <;> try exact h.elim
  all_goals cases a <;> try exact h.elim
  exact u_neg h
/-! comparisons -/
/-- == of data: None, bools, ints, texts, lists and tuples of such, seen through the ledger -/
def eqD (a b : D) : Bool := PyData.eqv (py a) (py b)
def eqB (a b : D) : M Bool := fun m R _ => ∃ a' b', DW m a a' ∧ DW m b b' ∧ Sh 20 a' ∧ Sh 20 b' ∧ R (eqD a' b') m
def neB (a b : D) : M Bool := fun m R _ => ∃ a' b', DW m a a' ∧ DW m b b' ∧ Sh 20 a' ∧ Sh 20 b' ∧ R (!eqD a' b') m
def ordB (f : Int → Int → Bool) (a b : D) : M Bool := fun m R _ => match a, b with
  | .int i, .int j => R (f i j) m
  | _, _ => False
def isB (a b : D) : M Bool := fun m R _ => match b with
  | .non => R (isN a) m
  | _ => False
def isnB (a b : D) : M Bool := fun m R _ => match b with
  | .non => R (!isN a) m
  | _ => False
def cmpB (op : CmpOp) (a b : D) : M Bool := match op with
  | .Eq => eqB a b
  | .NotEq => neB a b
  | .Lt => ordB (fun i j => decide (i < j)) a b
  | .LtE => ordB (fun i j => decide (i ≤ j)) a b
  | .Gt => ordB (fun i j => decide (j < i)) a b
  | .GtE => ordB (fun i j => decide (j ≤ i)) a b
  | .Is => isB a b
  | .IsNot => isnB a b
  | _ => bad
theorem cmpB_ok {X : CD} {op : CmpOp} {a b : D} {m : Led} {R : Bool → Led → Prop} {E : XR} (hu : X.A.units + 64 < cLine) (h : cmpB op a b m R E) : OX X (compareOp op) a b m fun d m' => ∃ k, d = .bl k ∧ R k m' := by
  cases op <;> try exact h.elim
  · obtain ⟨a', b', h1, h2, h3, h4, h5⟩ := h
    exact OX.of (op_eqP hu) fun F H x y q1 q2 at_ => ⟨_, _, h1.dp at_.toAt 20 h3 q1, h2.dp at_.toAt 20 h4 q2, (h3.ok).1, (h4.ok).1, Nat.le_trans (h3.ok).2 (by decide), PQ.now at_.toAt (.bl _) ⟨_, rfl, h5⟩⟩
  · obtain ⟨a', b', h1, h2, h3, h4, h5⟩ := h
    exact OX.of (op_neP hu) fun F H x y q1 q2 at_ => ⟨_, _, h1.dp at_.toAt 20 h3 q1, h2.dp at_.toAt 20 h4 q2, (h3.ok).1, (h4.ok).1, Nat.le_trans (h3.ok).2 (by decide), PQ.now at_.toAt (.bl _) ⟨_, rfl, h5⟩⟩
  all_goals first
    | (have h : ordB _ a b m R E := h
       cases a <;> cases b <;> try exact h.elim)
    | skip
  · exact o_lt ⟨_, rfl, h⟩
  · exact o_le ⟨_, rfl, h⟩
  · exact o_gt ⟨_, rfl, h⟩
  · exact o_ge ⟨_, rfl, h⟩
  · have h : isB a b m R E := h
    cases b <;> try exact h.elim
    exact o_isN ⟨_, rfl, h⟩
  · have h : isnB a b m R E := h
    cases b <;> try exact h.elim
    exact o_notN ⟨_, rfl, h⟩
def blM (b : Bool) : M D := ret (.bl b)
def cmpM (op : CmpOp) (a b : D) : M D := bnd (cmpB op a b) blM
theorem cmpM_ok {X : CD} {op : CmpOp} {a b : D} {m : Led} {R : D → Led → Prop} {E : XR} (hu : X.A.units + 64 < cLine) (h : cmpM op a b m R E) : OX X (compareOp op) a b m R :=
  .mk fun F σ H x y pins s v u q1 q2 at_ I rx ry => thn ((cmpB_ok hu h).run F σ H x y pins s v u q1 q2 at_ I rx ry) fun w s3 ⟨v3, H3, I3, r3, d, F3, m3, st3, q3, k, ek, kk⟩ => ⟨v3, H3, I3, r3, d, F3, m3, st3, q3, by subst ek; exact kk⟩
/-- truth -/
def truB (d : D) : M Bool := fun m R _ => ∃ k, TruD m d k ∧ R k m
/-- o[i] -/
def ixM (o i : D) : M D := fun m R _ => match o, i with
  | .tup ds, .int i => ∃ x, atI ds i = some x ∧ R x m
  | .lst ds, .int i => ∃ x, atI ds i = some x ∧ R x m
  | .ref a, .int i => ∃ (n : Nat) (ds : List D) (x : D), m[n]? = some (a, .lst ds) ∧ atI ds i = some x ∧ R x m
  | .str z, .int i => ∃ c, z.length ≤ 100000 ∧ atI z.cps.toList i = some c ∧ R (.str ⟨#[c]⟩) m
  | _, _ => False
theorem ixM_ok {X : CD} {a b : D} {m R E} (h : ixM a b m R E) : IxX X a b m R := by
  cases a <;> cases b <;> try exact h.elim
  · obtain ⟨c, h1, h2, h3⟩ := h
    exact i_str h1 h2 h3
  · obtain ⟨x, h1, h2⟩ := h
    exact i_lst (.inl rfl) h1 h2
  · obtain ⟨x, h1, h2⟩ := h
    exact i_tup h1 h2
  · obtain ⟨n, ds, x, h1, h2, h3⟩ := h
    exact i_lst (.inr ⟨n, _, rfl, h1⟩) h2 h3
/-- o[lo:hi] -/
def slM (d : D) (lo hi : Option Int) : M D := fun m R E => match d with
  | .tup ds => (¬ (HT.sIx ds.length 0 lo = 0 ∧ HT.sIx ds.length ds.length hi = ds.length)) ∧ R (.tup (cutD ds lo hi)) m
  | d => lstM d m (fun ds m' => R (.lst (cutD ds lo hi)) m') E
theorem slM_ok {X : CD} {d : D} {lo hi : Option Int} {m R E} (h : slM d lo hi m R E) : SlX X d lo hi m R := by
  cases d <;> try exact h.elim
  · exact sl_lst (.inl rfl) h
  · exact sl_tupD h.1 h.2
  · obtain ⟨n, ds, h1, h2⟩ := h
    exact sl_lst (.inr ⟨n, _, rfl, h1⟩) h2
def mkT (ds : List D) : M D := fun m R _ => ds.length ≤ 100000 ∧ R (.tup ds) m
def mkL (ds : List D) : M D := fun m R _ => ds.length ≤ 100000 ∧ R (.lst ds) m
def newL (ds : List D) : M D := fun m R _ => ds.length ≤ 100000 ∧ ∀ p, R (.ref p) (m ++ [(p, .lst ds)])
/-- a list of the ledger, from then on frozen -/
def frzM (d : D) : M D := fun m R _ => match d with
  | .ref p => ∃ (n : Nat) (ds : List D), m[n]? = some (p, .lst ds) ∧ R (.lst ds) (m.eraseIdx n)
  | d => R d m

/-! ### expressions -/
section
variable {X : CD} {e a b t : Expr} {es : List Expr} {ρ : Rn} {pos p2 : Pos} {c ca cb : M D} {ct : M Bool} {cs : M (List D)} {i : Nat} {x : Str} {d : D}
theorem ev_var (h : LookAt ρ i x d) (hv : Vis X.env.scope x := by first | exact Or.inl rfl | exact Or.inr (Or.inl rfl) | exact Or.inr (Or.inr rfl)) (hd : (x == ("__debug__" : Str)) = false := by decide)
    (hcd : (x == ("__classdict__" : Str)) = false := by decide) : Ev X (.Name x pos) ρ (ret d) := ⟨fun m R E _ k => x_var h k hv hd hcd⟩
theorem ev_int {i : Int} {j : Nat} : Ev X (.Constant (.int i) j pos) ρ (ret (.int i)) := ⟨fun m R E _ k => x_int k⟩
theorem ev_bl {i : Bool} {j : Nat} : Ev X (.Constant (.bool i) j pos) ρ (ret (.bl i)) := ⟨fun m R E _ k => x_bl k⟩
theorem ev_non {j : Nat} : Ev X (.Constant .none j pos) ρ (ret .non) := ⟨fun m R E _ k => x_non k⟩
theorem ev_str {x : Str} {j : Nat} : Ev X (.Constant (.str x) j pos) ρ (ret (.str x)) := ⟨fun m R E _ k => x_str k⟩
theorem ev_ty {mg : Str → Option Value} {nn : String} (hm : mg x = none) (hv : bootBuiltins x = some (.type nn)) (hX : X.mg = mg := by rfl) (h : Gl X x := by rfl) (hn : x ≠ "__name__" := by decide) (hd : (x == ("__debug__" : Str)) = false := by decide) : Ev X (.Name x pos) ρ (ret (.ty nn)) := ⟨fun m R E _ k => c_ty hm hv k hX h hn hd⟩
theorem ev_glob {mg : Str → Option Value} {K : Frag} {d : D} (hgc : GC K mg x d) (hX : X.mg = mg ∧ X.K = K := by exact ⟨rfl, rfl⟩) (h : Gl X x := by rfl) (hd : (x == ("__debug__" : Str)) = false := by decide) : Ev X (.Name x pos) ρ (ret d) := ⟨fun m R E _ k => c_glob hgc k hX h hd⟩
theorem ev_bin {op : Operator} (ha : Ev X a ρ ca) (hb : Ev X b ρ cb) : Ev X (.BinOp a op b pos) ρ (bnd ca fun x => bnd cb fun y => binM op x y) := ⟨fun m R E xa h =>
  x_bin ((ha.run m _ E xa h).mono fun d1 m1 h1 => (hb.run m1 _ E xa h1).mono fun d2 m2 h2 => binM_ok h2)⟩
theorem ev_catM (ha : Ev X a ρ ca) (hb : Ev X b ρ cb) : Ev X (.BinOp a .Add b pos) ρ (bnd ca fun x => bnd cb fun y => addMM x y) := ⟨fun m R E xa h =>
  x_bin ((ha.run m _ E xa h).mono fun d1 m1 h1 => (hb.run m1 _ E xa h1).mono fun d2 m2 h2 => addMM_ok h2)⟩
theorem ev_un {op : UnaryOp} (ha : Ev X a ρ ca) : Ev X (.UnaryOp op a pos) ρ (bnd ca fun x => unM op x) := ⟨fun m R E xa h => x_un ((ha.run m _ E xa h).mono fun d1 m1 h1 => unM_ok h1)⟩
theorem ev_cmp {op : CmpOp} (hu : X.A.units + 64 < cLine) (ha : Ev X a ρ ca) (hb : Ev X b ρ cb) (hm : behindInMarks op b = false := by first | exact nobehind _ (by decide) (by decide) | rfl | with_unfolding_all rfl) : Ev X (.Compare a [op] [b] pos) ρ (bnd ca fun x => bnd cb fun y => cmpM op x y) := ⟨fun m R E xa h =>
  x_cmp ((ha.run m _ E xa h).mono fun d1 m1 h1 => (hb.run m1 _ E xa h1).mono fun d2 m2 h2 => cmpM_ok hu h2) hm⟩
theorem tv_cmp {op : CmpOp} (hu : X.A.units + 64 < cLine) (ha : Ev X a ρ ca) (hb : Ev X b ρ cb) (hm : behindInMarks op b = false := by first | exact nobehind _ (by decide) (by decide) | rfl | with_unfolding_all rfl) : Tv X (.Compare a [op] [b] pos) ρ (bnd ca fun x => bnd cb fun y => cmpB op x y) := ⟨fun m R E xa h =>
  t_cmp ((ha.run m _ E xa h).mono fun d1 m1 h1 => (hb.run m1 _ E xa h1).mono fun d2 m2 h2 => cmpB_ok hu h2) hm⟩
theorem tv_val (ha : Ev X a ρ ca) (he : ∀ whole, isTrue a X.env whole = (do let v ← whole; standAt a.pos; holding [v] (truthy v)) := by intro _; rfl) : Tv X a ρ (bnd ca truB) := ⟨fun m R E xa h => t_tru ((ha.run m _ E xa h).mono fun d m1 h => h) he⟩
def notB (k : Bool) : M Bool := ret (!k)
theorem tv_not (ha : Tv X a ρ ct) : Tv X (.UnaryOp .Not a pos) ρ (bnd ct notB) := ⟨fun m R E xa h => t_not ((ha.run m _ E xa h).mono fun d m1 h => h)⟩
theorem wv_and1 (ha : Tv X a ρ ct) : Wv X (.BoolOp .And [a] pos) ρ ct := ⟨fun m R E xa h => w_and1 (ha.run m R E xa h)⟩
theorem wv_or1 (ha : Tv X a ρ ct) : Wv X (.BoolOp .Or [a] pos) ρ ct := ⟨fun m R E xa h => w_or1 (ha.run m R E xa h)⟩
def andB (c : M Bool) (k : Bool) : M Bool := iteM k c (ret false)
def orB (c : M Bool) (k : Bool) : M Bool := iteM k (ret true) c
theorem wv_and {ct2 : M Bool} {rest : List Expr} (ha : Tv X a ρ ct) (hb : Wv X (.BoolOp .And (b :: rest) pos) ρ ct2) : Wv X (.BoolOp .And (a :: b :: rest) pos) ρ (bnd ct (andB ct2)) := ⟨fun m R E xa h =>
  w_and ((ha.run m _ E xa h).mono fun k m1 h1 => ⟨fun e => hb.run m1 R E xa (h1.1 e), fun e => h1.2 e⟩)⟩
theorem wv_or {ct2 : M Bool} {rest : List Expr} (ha : Tv X a ρ ct) (hb : Wv X (.BoolOp .Or (b :: rest) pos) ρ ct2) : Wv X (.BoolOp .Or (a :: b :: rest) pos) ρ (bnd ct (orB ct2)) := ⟨fun m R E xa h =>
  w_or ((ha.run m _ E xa h).mono fun k m1 h1 => ⟨fun e => h1.1 e, fun e => hb.run m1 R E xa (h1.2 e)⟩)⟩
theorem tv_w (ha : Wv X a ρ ct) : Tv X a ρ ct := ⟨fun m R E xa h => t_w (ha.run m R E xa h)⟩
/-- and, or, not as values: bools ahead of the last -/
def andM (c : M D) (d : D) : M D := fun m R E => ∃ k, d = .bl k ∧ iteM k c (ret (.bl false)) m R E
def orM (c : M D) (d : D) : M D := fun m R E => ∃ k, d = .bl k ∧ iteM k (ret (.bl true)) c m R E
def notM (d : D) : M D := fun m R _ => ∃ k, d = .bl k ∧ R (.bl (!k)) m
theorem ev_one {op : BoolOp} (ha : Ev X a ρ ca) : Ev X (.BoolOp op [a] pos) ρ ca := ⟨fun m R E xa h => x_one (ha.run m R E xa h)⟩
theorem ev_and {rest : List Expr} (ha : Ev X a ρ ca) (hb : Ev X (.BoolOp .And (b :: rest) pos) ρ cb) : Ev X (.BoolOp .And (a :: b :: rest) pos) ρ (bnd ca (andM cb)) := ⟨fun m R E xa h =>
  x_and ((ha.run m _ E xa h).mono fun d m1 ⟨k, ek, h1⟩ => ⟨k, ek, fun e => hb.run m1 R E xa (h1.1 e), fun e => h1.2 e⟩)⟩
theorem ev_or {rest : List Expr} (ha : Ev X a ρ ca) (hb : Ev X (.BoolOp .Or (b :: rest) pos) ρ cb) : Ev X (.BoolOp .Or (a :: b :: rest) pos) ρ (bnd ca (orM cb)) := ⟨fun m R E xa h =>
  x_or ((ha.run m _ E xa h).mono fun d m1 ⟨k, ek, h1⟩ => ⟨k, ek, fun e => h1.1 e, fun e => hb.run m1 R E xa (h1.2 e)⟩)⟩
theorem ev_not (ha : Ev X a ρ ca) : Ev X (.UnaryOp .Not a pos) ρ (bnd ca notM) := ⟨fun m R E xa h => x_not ((ha.run m _ E xa h).mono fun d m1 h => h)⟩
theorem ev_if (ht : Tv X t ρ ct) (ha : Ev X a ρ ca) (hb : Ev X b ρ cb) : Ev X (.IfExp t a b pos) ρ (bnd ct fun k => iteM k ca cb) := ⟨fun m R E xa h =>
  x_if ((ht.run m _ E xa h).mono fun k m1 h1 => ⟨fun e => ha.run m1 R E xa (h1.1 e), fun e => hb.run m1 R E xa (h1.2 e)⟩)⟩
theorem eva_nil : EvA X [] ρ (ret []) := ⟨fun m R E _ h => a_nil h⟩
theorem eva_cons (h1 : Ev X e ρ c) (h2 : EvA X es ρ cs) (hs : starEach (e :: es) X.env = (false, eval e X.env) :: starEach es X.env := by rfl) : EvA X (e :: es) ρ (bnd c fun d => bnd cs fun ds => ret (d :: ds)) := ⟨fun m R E xa h =>
  a_cons ((h1.run m _ E xa h).mono fun d m1 h => (h2.run m1 _ E xa h).mono fun ds m2 h => h) hs⟩
theorem ev_tup {x1 : Nat} (h : EvA X es ρ cs) : Ev X (.Tuple es x1 pos) ρ (bnd cs mkT) := ⟨fun m R E xa k => x_tup (h.run m _ E xa k)⟩
theorem ev_lst (h : EvA X es ρ cs) : Ev X (.List es pos) ρ (bnd cs mkL) := ⟨fun m R E xa k => x_lst (h.run m _ E xa k)⟩
theorem ev_lstM (h : EvA X es ρ cs) : Ev X (.List es pos) ρ (bnd cs newL) := ⟨fun m R E xa k => x_lstM (h.run m _ E xa k)⟩
theorem ev_ix (ha : Ev X a ρ ca) (hb : Ev X b ρ cb) (hs : PlainIx b := by intro _ _; rfl) : Ev X (.Subscript a b pos) ρ (bnd ca fun x => bnd cb fun y => ixM x y) := ⟨fun m R E xa h =>
  x_ix ((ha.run m _ E xa h).mono fun d1 m1 h1 => (hb.run m1 _ E xa h1).mono fun d2 m2 h2 => ixM_ok h2) hs⟩
def intO (d : D) : M (Option Int) := fun m R _ => match d with
  | .int i => R (some i) m
  | _ => False
theorem evo_none : EvO X none ρ (ret none) := ⟨fun m R E _ h => h⟩
theorem evo_some (h : Ev X e ρ c) : EvO X (some e) ρ (bnd c intO) := ⟨fun m R E xa k => (h.run m _ E xa k).mono fun d m1 h => by
  cases d <;> try exact h.elim
  exact ⟨_, rfl, h⟩⟩
theorem ev_slice {lo hi : Option Expr} {cl ch : M (Option Int)} (h : Ev X e ρ c) (hl : EvO X lo ρ cl) (hh : EvO X hi ρ ch) : Ev X (.Subscript e (.Slice lo hi none p2) pos) ρ (bnd c fun d => bnd cl fun l => bnd ch fun u => slM d l u) := ⟨fun m R E xa k =>
  x_slice ((h.run m _ E xa k).mono fun d m1 k => (hl.run m1 _ E xa k).mono fun l m2 k => (hh.run m2 _ E xa k).mono fun u m3 k => slM_ok k)⟩
/-- an expression whose value is a list of the ledger that nobody else holds -/
theorem ev_frz (h : Ev X e ρ c) : Ev X e ρ (bnd c frzM) := ⟨fun m R E xa k => .mk fun F σ H en at_ => (h.run m _ E xa k).go en at_ fun v d F1 m1 H1 s1 en1 q r => by
  cases d with
  | ref p =>
    obtain ⟨n, ds, hm, r⟩ := r
    cases q
    obtain ⟨F2, s2, q2⟩ := Step.freeze s1.at2.toAt hm
    exact ⟨_, F2, _, s1.trans s2, q2, r⟩
  | _ => exact ⟨_, F1, m1, s1.st, q, r⟩⟩
end
end DL

namespace DL
open PySem PySem.Spec PySem.Calls PyProof.Rows L2 RZ

/-! ### calls -/
section
variable {X : CD} {e a b t : Expr} {es : List Expr} {kws : List Keyword} {ρ : Rn} {m : Led} {R : D → Led → Prop} {E : XR} {p pos p2 : Pos} {c ca cb : M D} {cs : M (List D)} {x : Str} {k n : Nat} {dd : List D} {sp : SpX} {mg : Str → Option Value} {P : Program} {w : World} {K : Frag} {base : Heap} {ks : List Str} {gD : List D → List D}
theorem x_callE (G : KnowsX X.prog X.w X.K X.mg X.base k x n dd sp) (hr : Room k X.A) (xa : XA X ρ E) (h : AX X (e :: es) ρ m fun ds m1 => sp (ds ++ dd) m1 R E) (hg : Gl X x)
    (hdb : (x == ("__debug__" : Str)) = false) (he : starEach (e :: es) X.env = (false, eval e X.env) :: starEach es X.env) (hpl : (backTo pos (starEach es X.env)).any (·.1) = false) :
    EX X (.Call (.Name x p) (e :: es) [] pos) ρ m R := .mk fun F σ H en at_ => by
  obtain ⟨f, fd, ps, dsv, dvs, FO, hm, hk, hb, hv, hdd, hl⟩ := G.fn
  refine SE.of (pe_callSD (E := WE (WD X.toCx F m H X.xq)) FO hr hg hm hk hb hv (fun σ => passAt at_.tk σ) (pa_SA (es := e :: es)) hdb he hpl) ?_
  refine h.go en at_ fun vs ds F1 m1 H1 s1 en1 q r => ?_
  exact ⟨F1, m1, ds ++ dd, R, E, q.append (hdd F1), s1.st.at2, r, fun d m2 v F2 H2 rd st qd => ⟨d, F2, m2, s1.trans st, qd, rd⟩,
    fun nm C fd' F2 m2 H2 d xr hC st fdd => ⟨nm, C, fd', ρ, F2, m2, hC, rfl, s1.trans st, en1.mono st.ex, fdd, xa _ _ _ xr⟩⟩
theorem ev_callD (G : KnowsX P w K mg base k x n dd sp) (hr : Room k X.A) (h : EvA X (e :: es) ρ cs) (hX : X.prog = P ∧ X.w = w ∧ X.K = K ∧ X.mg = mg ∧ X.base = base := by exact ⟨rfl, rfl, rfl, rfl, rfl⟩) (hg : Gl X x := by rfl)
    (hdb : (x == ("__debug__" : Str)) = false := by decide) (he : starEach (e :: es) X.env = (false, eval e X.env) :: starEach es X.env := by rfl) (hpl : (backTo pos (starEach es X.env)).any (·.1) = false := by rfl) :
    Ev X (.Call (.Name x p) (e :: es) [] pos) ρ (bnd cs fun ds => sp (ds ++ dd)) := ⟨fun m R E xa k => by
  obtain ⟨rfl, rfl, rfl, rfl, rfl⟩ := hX
  exact x_callE G hr xa (h.run m _ E xa k) hg hdb he hpl⟩
theorem ev_call (G : KnowsX P w K mg base k x n [] sp) (hr : Room k X.A) (h : EvA X (e :: es) ρ cs) (hX : X.prog = P ∧ X.w = w ∧ X.K = K ∧ X.mg = mg ∧ X.base = base := by exact ⟨rfl, rfl, rfl, rfl, rfl⟩) (hg : Gl X x := by rfl)
    (hdb : (x == ("__debug__" : Str)) = false := by decide) (he : starEach (e :: es) X.env = (false, eval e X.env) :: starEach es X.env := by rfl) (hpl : (backTo pos (starEach es X.env)).any (·.1) = false := by rfl) :
    Ev X (.Call (.Name x p) (e :: es) [] pos) ρ (bnd cs sp) := ⟨fun m R E xa k => by
  obtain ⟨rfl, rfl, rfl, rfl, rfl⟩ := hX
  exact x_callE G hr xa ((h.run m _ E xa k).mono fun ds m1 h => by rw [List.append_nil]; exact h) hg hdb he hpl⟩
theorem x_callKE (G : KnowsK X.prog X.w X.K X.mg X.base k x ks gD sp) (hr : Room k X.A) (xa : XA X ρ E) (h : KX X kws ρ m fun ds m1 => ds.length = ks.length ∧ sp (gD ds) m1 R E)
    (hall : (backToKw pos (keywordEach kws X.env)).all (·.1.isSome) = true) (hks : (backToKw pos (keywordEach kws X.env)).filterMap (·.1) = ks) (hg : Gl X x) (hdb : (x == ("__debug__" : Str)) = false)
    (hpl : ((backTo pos (starEach [] X.env)).any (·.1) || (backToKw pos (keywordEach kws X.env)).any (·.1.isNone)) = false) : EX X (.Call (.Name x p) [] kws pos) ρ m R := .mk fun F σ H en at_ => by
  obtain ⟨f, fd, ps, g, gV, FO, hm, hk, hb, hgD⟩ := G.fn
  intro pins s I
  refine wpAny_Call_Name_kw (ld_glob I hg hm ?_ hdb)
  refine PySem.W.callWith_KW0 (h₀ := X.base) I.ok.mod.kin hk hall (thn (h.run F σ H en at_ pos pins s I) fun ws s2 ⟨zs, H2, I2, rz, ds, F2, m2, st, qd, hl, hsp⟩ => ⟨I2.kIn, ?_⟩) hpl
  have lz : zs.length = ks.length := qd.length.trans hl
  rw [hks]
  refine wpAny_call (codeAny_mono (FO.run X.A X.stack s2 H2 ⟨[], ks.zip ws⟩ (g [] ws) (gV [] zs) (PQ X.K F m H R) (WE (WD X.toCx F m H X.xq) σ) hr I2.env0 (hb.to s2 [] ws I2.kIn rfl (rz.length.symm.trans lz)) (hb.rel .nil rz) ?_) fun r s' hq => ?_)
  · exact ⟨F2, m2, gD ds, R, E, hgD F2 zs ds qd lz, st.at2, hsp, fun d m3 v F3 H3 rd st3 qd3 => ⟨d, F3, m3, st.trans st3, qd3, rd⟩, fun nm C fd' F3 m3 H3 d xr hC st3 fdd => ⟨nm, C, fd', ρ, F3, m3, hC, rfl, st.trans st3, en.mono (st.ex.trans st3.ex), fdd, xa _ _ _ xr⟩⟩
  · match r with
    | .error er => exact passAt at_.tk σ pins H2 s2 er s' I2 hq
    | .ok (.ret u) => exact I2.after hq
    | .ok .next => exact False.elim hq
    | .ok .brk => exact False.elim hq
    | .ok .cont => exact False.elim hq
structure EvK (X : CD) (kws : List Keyword) (ρ : Rn) (c : M (List D)) : Prop where
  run : ∀ m R E, XA X ρ E → c m R E → KX X kws ρ m R
theorem KX.mono {R R' : List D → Led → Prop} (h : KX X kws ρ m R) (q : ∀ d m', R d m' → R' d m') : KX X kws ρ m R' := .mk fun F σ H en a => (h.run F σ H en a).mono fun v H1 ⟨d, F1, m1, s, k, r⟩ => ⟨d, F1, m1, s, k, q d m1 r⟩
theorem evk_nil : EvK X [] ρ (ret []) := ⟨fun m R E _ h => k_nil h⟩
theorem evk_cons {nm : Option Str} {kpos : Pos} (h1 : Ev X e ρ c) (h2 : EvK X kws ρ cs) : EvK X (⟨nm, e, kpos⟩ :: kws) ρ (bnd c fun d => bnd cs fun ds => ret (d :: ds)) := ⟨fun m R E xa h =>
  k_cons ((h1.run m _ E xa h).mono fun d m1 h => (h2.run m1 _ E xa h).mono fun ds m2 h => h)⟩
def kwM (n : Nat) (gD : List D → List D) (sp : SpX) (ds : List D) : M D := fun m R E => ds.length = n ∧ sp (gD ds) m R E
theorem ev_callK (G : KnowsK P w K mg base k x ks gD sp) (hr : Room k X.A) (h : EvK X kws ρ cs) (hX : X.prog = P ∧ X.w = w ∧ X.K = K ∧ X.mg = mg ∧ X.base = base := by exact ⟨rfl, rfl, rfl, rfl, rfl⟩)
    (hall : (backToKw pos (keywordEach kws X.env)).all (·.1.isSome) = true := by rfl) (hks : (backToKw pos (keywordEach kws X.env)).filterMap (·.1) = ks := by rfl) (hg : Gl X x := by rfl) (hdb : (x == ("__debug__" : Str)) = false := by decide)
    (hpl : ((backTo pos (starEach [] X.env)).any (·.1) || (backToKw pos (keywordEach kws X.env)).any (·.1.isNone)) = false := by rfl) : Ev X (.Call (.Name x p) [] kws pos) ρ (bnd cs (kwM ks.length gD sp)) := ⟨fun m R E xa k => by
  obtain ⟨rfl, rfl, rfl, rfl, rfl⟩ := hX
  exact x_callKE G hr xa (h.run m _ E xa k) hall hks hg hdb hpl⟩
/-! built-ins -/
theorem ev_blt {id : String} {f : List D → M D} (hm : mg x = none) (hv : bootBuiltins x = some (.builtin id)) (ok : ∀ ds m R E, f ds m R E → BX X (.builtin id) ds m R) (h : EvA X (e :: es) ρ cs) (hX : X.mg = mg := by rfl) (hg : Gl X x := by rfl) (hn : x ≠ "__name__" := by decide) (hdb : (x == ("__debug__" : Str)) = false := by decide)
    (he : starEach (e :: es) X.env = (false, eval e X.env) :: starEach es X.env := by rfl) (hpl : (backTo pos (starEach es X.env)).any (·.1) = false := by rfl) : Ev X (.Call (.Name x p) (e :: es) [] pos) ρ (bnd cs f) := ⟨fun m R E xa k =>
  c_cb hm hv ((h.run m _ E xa k).mono fun ds m1 h => ok ds m1 R E h) hX hg hn hdb he hpl⟩
theorem ev_blT {T : String} {f : List D → M D} (hm : mg x = none) (hv : bootBuiltins x = some (.type T)) (ok : ∀ ds m R E, f ds m R E → BX X (.type T) ds m R) (h : EvA X (e :: es) ρ cs) (hX : X.mg = mg := by rfl) (hg : Gl X x := by rfl) (hn : x ≠ "__name__" := by decide) (hdb : (x == ("__debug__" : Str)) = false := by decide)
    (he : starEach (e :: es) X.env = (false, eval e X.env) :: starEach es X.env := by rfl) (hpl : (backTo pos (starEach es X.env)).any (·.1) = false := by rfl) : Ev X (.Call (.Name x p) (e :: es) [] pos) ρ (bnd cs f) := ⟨fun m R E xa k =>
  c_ct hm hv ((h.run m _ E xa k).mono fun ds m1 h => ok ds m1 R E h) hX hg hn hdb he hpl⟩
end
def lenM (ds : List D) : M D := fun m R E => match ds with
  | [.tup xs] => R (.int (xs.length : Nat)) m
  | [.str z] => z.length ≤ 100000 ∧ R (.int (z.length : Nat)) m
  | [d] => lstM d m (fun xs m' => R (.int (xs.length : Nat)) m') E
  | _ => False
def absM (ds : List D) : M D := fun m R _ => match ds with
  | [.int i] => R (.int (i.natAbs : Int)) m
  | _ => False
def maxM (ds : List D) : M D := fun m R _ => match ds with
  | [.int i, .int j] => R (.int (max i j)) m
  | _ => False
def minM (ds : List D) : M D := fun m R _ => match ds with
  | [.int i, .int j] => R (.int (min i j)) m
  | _ => False
def intM (ds : List D) : M D := fun m R _ => match ds with
  | [.int i] => R (.int i) m
  | [.bl c] => R (.int (if c then 1 else 0)) m
  | _ => False
def listM (ds : List D) : M D := fun m R E => match ds with
  | [.tup xs] => R (.lst xs) m
  | [.lsk xs] => R (.lst xs) m
  | [d] => lstM d m (fun xs m' => R (.lst xs) m') E
  | _ => False
/-- list(x), to be changed -/
def listMM (ds : List D) : M D := fun m R E => match ds with
  | [.tup xs] => ∀ p, R (.ref p) (m ++ [(p, .lst xs)])
  | [d] => lstM d m (fun xs m' => ∀ p, R (.ref p) (m' ++ [(p, .lst xs)])) E
  | _ => False
def tupleM (ds : List D) : M D := fun m R E => match ds with
  | [.tup xs] => R (.tup xs) m
  | [d] => lstM d m (fun xs m' => R (.tup xs) m') E
  | _ => False
def sumM (ds : List D) : M D := fun m R E => match ds with
  | [d] => lstM d m (fun xs m' => ∃ ns : List Int, xs = ns.map D.int ∧ R (.int ns.sum) m') E
  | _ => False
def allM (ds : List D) : M D := fun m R E => match ds with
  | [d] => lstM d m (fun xs m' => ∃ ns : List Bool, xs = ns.map D.bl ∧ R (.bl (ns.all id)) m') E
  | _ => False
def anyM (ds : List D) : M D := fun m R E => match ds with
  | [d] => lstM d m (fun xs m' => ∃ ns : List Bool, xs = ns.map D.bl ∧ R (.bl (ns.any id)) m') E
  | _ => False
/-- isinstance of the plain kinds -/
def kinds : List String := ["NoneType", "bool", "int", "str", "list", "tuple"]
def tyNames : List String := ["int", "bool", "list", "tuple", "dict", "str"]
def isiD (t n : String) : Bool := t == n || (t == "bool" && n == "int")
theorem kitB_all : ∀ t ∈ kinds, ∀ n ∈ tyNames, kitB t n = some (isiD t n) := by decide +kernel
theorem tyD_kinds {d : D} {t : String} (h : tyD d = some t) : t ∈ kinds := by
  cases d <;> simp only [tyD, Option.some.injEq, reduceCtorEq] at h <;> subst h <;> decide +kernel
def isiM (ds : List D) : M D := fun m R E => match ds with
  | [.ref a, .ty n] => (∃ (i : Nat) (xs : List D), m[i]? = some (a, .lst xs)) ∧ n ∈ tyNames ∧ R (.bl (isiD "list" n)) m
  | [d, .ty n] => ∃ t, tyD d = some t ∧ n ∈ tyNames ∧ R (.bl (isiD t n)) m
  | _ => False
section
variable {X : CD}
theorem lenM_ok (ds : List D) (m R E) (h : lenM ds m R E) : BX X (.builtin "len") ds m R := by
  unfold lenM at h
  split at h
  · exact b_lenT h
  · exact b_lenS h.1 h.2
  · obtain ⟨xs, h1, h2⟩ := lstM_v h
    exact b_len h1 h2
  · exact h.elim
theorem absM_ok (ds : List D) (m R E) (h : absM ds m R E) : BX X (.builtin "abs") ds m R := by
  unfold absM at h
  split at h
  · exact b_abs h
  · exact h.elim
theorem maxM_ok (hc : X.calm = true := by rfl) (ds : List D) (m R E) (h : maxM ds m R E) : BX X (.builtin "max") ds m R := by
  unfold maxM at h
  split at h
  · exact b_max2 h hc
  · exact h.elim
theorem minM_ok (hc : X.calm = true := by rfl) (ds : List D) (m R E) (h : minM ds m R E) : BX X (.builtin "min") ds m R := by
  unfold minM at h
  split at h
  · exact b_min2 h hc
  · exact h.elim
theorem intM_ok (ds : List D) (m R E) (h : intM ds m R E) : BX X (.type "int") ds m R := by
  unfold intM at h
  split at h
  · exact b_int h
  · exact b_intB h
  · exact h.elim
theorem listM_ok (ds : List D) (m R E) (h : listM ds m R E) : BX X (.type "list") ds m R := by
  unfold listM at h
  split at h
  · exact b_listT h
  · exact b_listK h
  · obtain ⟨xs, h1, h2⟩ := lstM_v h
    exact b_list h1 h2
  · exact h.elim
theorem listMM_ok (ds : List D) (m R E) (h : listMM ds m R E) : BX X (.type "list") ds m R := by
  unfold listMM at h
  split at h
  · exact b_listTM h
  · obtain ⟨xs, h1, h2⟩ := lstM_v h
    exact b_listM h1 h2
  · exact h.elim
theorem tupleM_ok (ds : List D) (m R E) (h : tupleM ds m R E) : BX X (.type "tuple") ds m R := by
  unfold tupleM at h
  split at h
  · exact b_tupleT h
  · obtain ⟨xs, h1, h2⟩ := lstM_v h
    exact b_tuple h1 h2
  · exact h.elim
theorem sumM_ok (hc : X.calm = true := by rfl) (ds : List D) (m R E) (h : sumM ds m R E) : BX X (.builtin "sum") ds m R := by
  unfold sumM at h
  split at h
  · obtain ⟨xs, h1, ns, rfl, h2⟩ := lstM_v h
    exact b_sum h1 h2 hc
  · exact h.elim
theorem allM_ok (hc : X.calm = true := by rfl) (ds : List D) (m R E) (h : allM ds m R E) : BX X (.builtin "all") ds m R := by
  unfold allM at h
  split at h
  · obtain ⟨xs, h1, ns, rfl, h2⟩ := lstM_v h
    exact b_all h1 h2 hc
  · exact h.elim
theorem anyM_ok (hc : X.calm = true := by rfl) (ds : List D) (m R E) (h : anyM ds m R E) : BX X (.builtin "any") ds m R := by
  unfold anyM at h
  split at h
  · obtain ⟨xs, h1, ns, rfl, h2⟩ := lstM_v h
    exact b_any h1 h2 hc
  · exact h.elim
theorem isiM_ok (ds : List D) (m R E) (h : isiM ds m R E) : BX X (.builtin "isinstance") ds m R := by
  unfold isiM at h
  split at h
  · obtain ⟨⟨i, xs, h1⟩, h2, h3⟩ := h
    refine BX.of call_isi fun F H vs qs at_ => ?_
    obtain ⟨v, w, rfl, q1, q2⟩ := qs.two
    cases q2
    cases q1
    obtain ⟨hh, ⟨ys, rfl, hs⟩, e2⟩ := at_.toAt.get h1
    exact ⟨_, .ty _, _, _, _, rfl, .ty _, .base (.lst e2), kit_ty (kitB_all _ (by decide +kernel) _ h2), PQ.now at_.toAt (.bl _) h3⟩
  · obtain ⟨t, h1, h2, h3⟩ := h
    exact b_isi h1 (kitB_all _ (tyD_kinds h1) _ h2) h3
  · exact h.elim
end

/-! ### what is walked -/
section
variable {X : CD} {a b e tg it : Expr} {ρ : Rn} {p pos tpos : Pos} {mg : Str → Option Value} {c ca cb : M D}
def seqM (d : D) : M (List D) := fun m R _ => match d with
  | .lst ds => R ds m
  | .tup ds => R ds m
  | _ => False
theorem iv_seq (h : Ev X it ρ c) : Iv X tg it ρ (bnd c seqM) := ⟨fun m R E xa k => ix_seq ((h.run m _ E xa k).mono fun d m1 h => by
  cases d <;> try exact h.elim
  · exact ⟨_, .inl rfl, h⟩
  · exact ⟨_, .inr rfl, h⟩)⟩
def rngM (d : D) : M (List D) := fun m R _ => match d with
  | .int j => -100000 ≤ j ∧ j ≤ 100000 ∧ R (rangeD 0 j.toNat) m
  | _ => False
theorem iv_range1 (hm : mg "range" = none) (h : Ev X a ρ c) (hX : X.mg = mg := by rfl) (hg : Gl X "range" := by rfl) (hs : starEach [a] X.env = [(false, eval a X.env)] := by rfl) : Iv X tg (.Call (.Name "range" p) [a] [] pos) ρ (bnd c rngM) := ⟨fun m R E xa k => j_range1 hm ((h.run m _ E xa k).mono fun d m1 h => by
  cases d <;> try exact h.elim
  exact ⟨_, rfl, h⟩) hX hg hs⟩
def rngM2 (d d2 : D) : M (List D) := fun m R _ => match d, d2 with
  | .int i, .int j => (-100000 ≤ i ∧ i ≤ 100000 ∧ -100000 ≤ j ∧ j ≤ 100000) ∧ R (rangeD i (j - i).toNat) m
  | _, _ => False
theorem iv_range2 (hm : mg "range" = none) (ha : Ev X a ρ ca) (hb : Ev X b ρ cb) (hX : X.mg = mg := by rfl) (hg : Gl X "range" := by rfl)
    (hs : starEach [a, b] X.env = [(false, eval a X.env), (false, eval b X.env)] := by rfl) (hs2 : starEach [b] X.env = [(false, eval b X.env)] := by rfl) (hs1 : starEach [a, b] X.env = (false, eval a X.env) :: starEach [b] X.env := by rfl) : Iv X tg (.Call (.Name "range" p) [a, b] [] pos) ρ (bnd ca fun x => bnd cb fun y => rngM2 x y) := ⟨fun m R E xa k =>
  j_range2 hm ((ha.run m _ E xa k).mono fun d1 m1 h1 => (hb.run m1 _ E xa h1).mono fun d2 m2 h => by
    cases d1 <;> cases d2 <;> try exact h.elim
    exact ⟨_, _, rfl, rfl, h⟩) hX hg hs hs2 hs1⟩
def zipM (d d2 : D) : M (List D) := fun m R _ => match d, d2 with
  | .lst as, .lst bs => R (zipD as bs) m
  | .tup as, .tup bs => R (zipD as bs) m
  | _, _ => False
theorem iv_zip {elts : List Expr} {kk : Nat} (hm : mg "zip" = none) (ha : Ev X a ρ ca) (hb : Ev X b ρ cb) (hX : X.mg = mg := by rfl) (hg : Gl X "zip" := by rfl)
    (hs : starEach [a, b] X.env = (false, eval a X.env) :: starEach [b] X.env := by rfl) (hs2 : starEach [b] X.env = (false, eval b X.env) :: starEach [] X.env := by rfl) (hpl : (backTo pos (starEach [b] X.env)).any (·.1) = false := by rfl) : Iv X (.Tuple elts kk tpos) (.Call (.Name "zip" p) [a, b] [] pos) ρ (bnd ca fun x => bnd cb fun y => zipM x y) := ⟨fun m R E xa k =>
  j_zip hm ((ha.run m _ E xa k).mono fun d1 m1 h1 => (hb.run m1 _ E xa h1).mono fun d2 m2 h => by
    cases d1 <;> cases d2 <;> try exact h.elim
    · exact ⟨_, _, .inl ⟨rfl, rfl⟩, h⟩
    · exact ⟨_, _, .inr ⟨rfl, rfl⟩, h⟩) hX hg hs hs2 hpl⟩
def enumM (d : D) : M (List D) := fun m R _ => match d with
  | .lst as => R (enumD as) m
  | _ => False
theorem iv_enum {elts : List Expr} {kk : Nat} (hm : mg "enumerate" = none) (ha : Ev X a ρ ca) (hX : X.mg = mg := by rfl) (hg : Gl X "enumerate" := by rfl)
    (hs : starEach [a] X.env = [(false, eval a X.env)] := by rfl) (hs2 : starEach [a] X.env = (false, eval a X.env) :: starEach [] X.env := by rfl) : Iv X (.Tuple elts kk tpos) (.Call (.Name "enumerate" p) [a] [] pos) ρ (bnd ca enumM) := ⟨fun m R E xa k =>
  j_enum hm ((ha.run m _ E xa k).mono fun d1 m1 h => by
    cases d1 <;> try exact h.elim
    exact ⟨_, rfl, h⟩) hX hg hs hs2⟩
end
end DL

namespace DL
open PySem PySem.Spec PySem.Calls PyProof.Rows L2 RZ

/-! ### comprehensions -/
def NoX : XR := fun _ _ _ => False
def compM (f : D → M (Option D)) : List D → List D → M (List D)
  | [], acc => ret acc
  | d :: ds, acc => fun m R E => f d m (fun o m' => match o with
    | some z => acc.length < 100000 ∧ compM f ds (acc ++ [z]) m' R E
    | none => compM f ds acc m' R E) NoX
def someM (d : D) : M (Option D) := ret (some d)
def lsM (ds : List D) : M D := ret (.lst ds)
def lsMM (ds : List D) : M D := fun m R _ => ∀ p, R (.ref p) (m ++ [(p, .lst ds)])
def un2 (d : D) (k : D → D → M (Option D)) : M (Option D) := fun m R E => ∃ a b, d = .tup [a, b] ∧ k a b m R E
section
variable {X : CD} {elt it t : Expr} {scope : Scope} {ifs : List Expr} {ρ : Rn} {pos py p0 p1 p2 px spos : Pos} {y z x : Str} {i j k n0 : Nat} {ci : M (List D)} {f : D → M (Option D)} {celt : D → M D} {ct : D → M Bool} {celt2 : D → D → M D} {ct2 : D → D → M Bool} {ρ2 : D → Rn} {ρ3 : D → D → Rn}
structure Cv (X : CD) (scope : Scope) (ifs : List Expr) (elt : Expr) (y : Str) (j : Nat) (ρ : Rn) (f : D → M (Option D)) : Prop where
  run : ∀ (d : D) (m : Led) (R : Option D → Led → Prop), f d m R NoX → ∃ ρ2, SetAt ρ j y d ρ2 ∧ ∀ (s : Shared) (H0 : Hp) (C : Addr) (cl : List (Str × Addr)) (fp : List Addr),
    match ifs with
    | [] => EX (X.blk s H0 scope (compEnvC scope cl C X.env) fp) elt ρ2 m fun z m3 => R (some z) m3
    | [c] => TX (X.blk s H0 scope (compEnvC scope cl C X.env) fp) c ρ2 m fun k m2 => (k = true → ∀ (s : Shared) (H0 : Hp) (C : Addr) (cl : List (Str × Addr)) (fp : List Addr), EX (X.blk s H0 scope (compEnvC scope cl C X.env) fp) elt ρ2 m2 fun z m3 => R (some z) m3) ∧ (k = false → R none m2)
    | _ => False
structure CvP (X : CD) (scope : Scope) (ifs : List Expr) (elt : Expr) (y : Str) (j : Nat) (z : Str) (k : Nat) (ρ : Rn) (f : D → M (Option D)) : Prop where
  run : ∀ (d : D) (m : Led) (R : Option D → Led → Prop), f d m R NoX → ∃ d1 d2 ρ1 ρ2, d = .tup [d1, d2] ∧ SetAt ρ j y d1 ρ1 ∧ SetAt ρ1 k z d2 ρ2 ∧ ∀ (s : Shared) (H0 : Hp) (C : Addr) (cl : List (Str × Addr)) (fp : List Addr),
    match ifs with
    | [] => EX (X.blk s H0 scope (compEnvC scope cl C X.env) fp) elt ρ2 m fun z m3 => R (some z) m3
    | [c] => TX (X.blk s H0 scope (compEnvC scope cl C X.env) fp) c ρ2 m fun k m2 => (k = true → ∀ (s : Shared) (H0 : Hp) (C : Addr) (cl : List (Str × Addr)) (fp : List Addr), EX (X.blk s H0 scope (compEnvC scope cl C X.env) fp) elt ρ2 m2 fun z m3 => R (some z) m3) ∧ (k = false → R none m2)
    | _ => False
theorem cv0 (hset : ∀ d, SetAt ρ j y d (ρ2 d)) (he : ∀ d s H0 C cl fp, Ev (X.blk s H0 scope (compEnvC scope cl C X.env) fp) elt (ρ2 d) (celt d)) : Cv X scope [] elt y j ρ fun d => bnd (celt d) someM :=
  ⟨fun d m R h => ⟨ρ2 d, hset d, fun s H0 C cl fp => (he d s H0 C cl fp).run m _ NoX (fun _ _ _ z => z) h⟩⟩
theorem cv1 (hset : ∀ d, SetAt ρ j y d (ρ2 d)) (ht : ∀ d s H0 C cl fp, Tv (X.blk s H0 scope (compEnvC scope cl C X.env) fp) t (ρ2 d) (ct d)) (he : ∀ d s H0 C cl fp, Ev (X.blk s H0 scope (compEnvC scope cl C X.env) fp) elt (ρ2 d) (celt d)) :
    Cv X scope [t] elt y j ρ fun d => bnd (ct d) fun k => iteM k (bnd (celt d) someM) (ret none) :=
  ⟨fun d m R h => ⟨ρ2 d, hset d, fun s H0 C cl fp => ((ht d s H0 C cl fp).run m _ NoX (fun _ _ _ z => z) h).mono fun k m2 h => ⟨fun e s H0 C cl fp => (he d s H0 C cl fp).run m2 _ NoX (fun _ _ _ z => z) (h.1 e), fun e => h.2 e⟩⟩⟩
theorem cvp0 {ρ1 : D → Rn} (hset : ∀ d, SetAt ρ j y d (ρ1 d)) (hset2 : ∀ d d', SetAt (ρ1 d) k z d' (ρ3 d d')) (he : ∀ d d' s H0 C cl fp, Ev (X.blk s H0 scope (compEnvC scope cl C X.env) fp) elt (ρ3 d d') (celt2 d d')) : CvP X scope [] elt y j z k ρ fun d => un2 d fun d1 d2 => bnd (celt2 d1 d2) someM :=
  ⟨fun d m R ⟨a, b, e, h⟩ => ⟨a, b, ρ1 a, ρ3 a b, e, hset a, hset2 a b, fun s H0 C cl fp => (he a b s H0 C cl fp).run m _ NoX (fun _ _ _ z => z) h⟩⟩
theorem cvp1 {ρ1 : D → Rn} (hset : ∀ d, SetAt ρ j y d (ρ1 d)) (hset2 : ∀ d d', SetAt (ρ1 d) k z d' (ρ3 d d')) (ht : ∀ d d' s H0 C cl fp, Tv (X.blk s H0 scope (compEnvC scope cl C X.env) fp) t (ρ3 d d') (ct2 d d')) (he : ∀ d d' s H0 C cl fp, Ev (X.blk s H0 scope (compEnvC scope cl C X.env) fp) elt (ρ3 d d') (celt2 d d')) :
    CvP X scope [t] elt y j z k ρ fun d => un2 d fun d1 d2 => bnd (ct2 d1 d2) fun k => iteM k (bnd (celt2 d1 d2) someM) (ret none) :=
  ⟨fun d m R ⟨a, b, e, h⟩ => ⟨a, b, ρ1 a, ρ3 a b, e, hset a, hset2 a b, fun s H0 C cl fp => ((ht a b s H0 C cl fp).run m _ NoX (fun _ _ _ z => z) h).mono fun k m2 h => ⟨fun e s H0 C cl fp => (he a b s H0 C cl fp).run m2 _ NoX (fun _ _ _ z => z) (h.1 e), fun e => h.2 e⟩⟩⟩
theorem drop_at {α : Type} {xs : List α} {i : Nat} {x : α} (h : xs[i]? = some x) : xs.drop i = x :: xs.drop (i + 1) := by
  obtain ⟨hl, e⟩ := List.getElem?_eq_some_iff.mp h
  rw [List.drop_eq_getElem_cons hl, e]
theorem Cv.I (hc : Cv X scope ifs elt y j ρ f) {ds : List D} {m : Led} {R : List D → Led → Prop} {E : XR} (h : compM f ds [] m R E) : CompI X scope ifs elt y j ρ R ds m := by
  refine ⟨fun i acc m' => compM f (ds.drop i) acc m' R E, h, fun i d acc m' hd hI => ?_, fun acc m' hI => ?_⟩
  · dsimp only at hI
    rw [drop_at hd] at hI
    obtain ⟨ρ2, h1, h2⟩ := hc.run d m' _ hI
    refine ⟨ρ2, h1, fun s H0 C cl fp => ?_⟩
    have h5 := h2 s H0 C cl fp
    rcases ifs with _ | ⟨c, _ | ⟨_, _⟩⟩ <;> exact h5
  · dsimp only at hI
    rw [List.drop_length] at hI
    exact hI
theorem CvP.I (hc : CvP X scope ifs elt y j z k ρ f) {ds : List D} {m : Led} {R : List D → Led → Prop} {E : XR} (h : compM f ds [] m R E) : CompP X scope ifs elt y j z k ρ R ds m := by
  refine ⟨fun i acc m' => compM f (ds.drop i) acc m' R E, h, fun i d acc m' hd hI => ?_, fun acc m' hI => ?_⟩
  · dsimp only at hI
    rw [drop_at hd] at hI
    obtain ⟨d1, d2, ρ1, ρ2, h1, h2, h3, h4⟩ := hc.run d m' _ hI
    refine ⟨d1, d2, ρ1, ρ2, h1, h2, h3, fun s H0 C cl fp => ?_⟩
    have h5 := h4 s H0 C cl fp
    rcases ifs with _ | ⟨c, _ | ⟨_, _⟩⟩ <;> exact h5
  · dsimp only at hI
    rw [List.drop_length] at hI
    exact hI
theorem ev_lc (hj : SlotAt ρ j y) (hi : Iv X (.Name y py) it ρ ci) (hcv : Cv X scope ifs elt y j ρ f) (hl1 : ifs.length ≤ 1 := by decide) (hok : blkC X.N X.env.scope scope [(y, j)] = true := by kernel_rfl)
    (hx : ∀ cl C, Loc (compEnvC scope cl C X.env).scope y := by intro _ _; first | exact Or.inl rfl | exact Or.inr rfl) (hf : ∀ cl C, (scope.names.lookup y == some .cell) = true ∨ (compEnvC scope cl C X.env).scope.names.lookup y = some .local := by intro _ _; first | exact .inl rfl | exact .inr rfl)
    (hc : X.calm = true := by rfl) (hs : ∀ x, foldedSetIterable it X.env x = pure x := by intro _; rfl) : Ev X (.ListComp elt [⟨.Name y py, it, ifs, 0⟩] scope pos) ρ (bnd ci fun ds => bnd (compM f ds []) lsM) := ⟨fun m R E xa h =>
  x_lc hj ((hi.run m _ E xa h).mono fun ds m1 h => hcv.I h) hl1 hok hx hf hc hs⟩
theorem ev_lcM (hj : SlotAt ρ j y) (hi : Iv X (.Name y py) it ρ ci) (hcv : Cv X scope ifs elt y j ρ f) (hl1 : ifs.length ≤ 1 := by decide) (hok : blkC X.N X.env.scope scope [(y, j)] = true := by kernel_rfl)
    (hx : ∀ cl C, Loc (compEnvC scope cl C X.env).scope y := by intro _ _; first | exact Or.inl rfl | exact Or.inr rfl) (hf : ∀ cl C, (scope.names.lookup y == some .cell) = true ∨ (compEnvC scope cl C X.env).scope.names.lookup y = some .local := by intro _ _; first | exact .inl rfl | exact .inr rfl)
    (hc : X.calm = true := by rfl) (hs : ∀ x, foldedSetIterable it X.env x = pure x := by intro _; rfl) : Ev X (.ListComp elt [⟨.Name y py, it, ifs, 0⟩] scope pos) ρ (bnd ci fun ds => bnd (compM f ds []) lsMM) := ⟨fun m R E xa h =>
  x_lcM hj ((hi.run m _ E xa h).mono fun ds m1 h => hcv.I h) hl1 hok hx hf hc hs⟩
theorem ev_lcP (hj : SlotAt ρ j y) (hk0 : SlotAt ρ k z) (hi : Iv X (.Tuple [.Name y p1, .Name z p2] n0 p0) it ρ ci) (hcv : CvP X scope ifs elt y j z k ρ f) (hl1 : ifs.length ≤ 1 := by decide) (hok : blkC X.N X.env.scope scope [(y, j), (z, k)] = true := by kernel_rfl)
    (hx : ∀ cl C, Loc (compEnvC scope cl C X.env).scope y := by intro _ _; first | exact Or.inl rfl | exact Or.inr rfl) (hx2 : ∀ cl C, Loc (compEnvC scope cl C X.env).scope z := by intro _ _; first | exact Or.inl rfl | exact Or.inr rfl) (hf : ∀ cl C, (scope.names.lookup y == some .cell) = true ∨ (compEnvC scope cl C X.env).scope.names.lookup y = some .local := by intro _ _; first | exact .inl rfl | exact .inr rfl) (hf2 : ∀ cl C, (scope.names.lookup z == some .cell) = true ∨ (compEnvC scope cl C X.env).scope.names.lookup z = some .local := by intro _ _; first | exact .inl rfl | exact .inr rfl)
    (hc : X.calm = true := by rfl) (hs : ∀ x, foldedSetIterable it X.env x = pure x := by intro _; rfl) : Ev X (.ListComp elt [⟨.Tuple [.Name y p1, .Name z p2] n0 p0, it, ifs, 0⟩] scope pos) ρ (bnd ci fun ds => bnd (compM f ds []) lsM) := ⟨fun m R E xa h =>
  x_lcP hj hk0 ((hi.run m _ E xa h).mono fun ds m1 h => hcv.I h) hl1 hok hx hx2 hf hf2 hc hs⟩
theorem ev_lcPM (hj : SlotAt ρ j y) (hk0 : SlotAt ρ k z) (hi : Iv X (.Tuple [.Name y p1, .Name z p2] n0 p0) it ρ ci) (hcv : CvP X scope ifs elt y j z k ρ f) (hl1 : ifs.length ≤ 1 := by decide) (hok : blkC X.N X.env.scope scope [(y, j), (z, k)] = true := by kernel_rfl)
    (hx : ∀ cl C, Loc (compEnvC scope cl C X.env).scope y := by intro _ _; first | exact Or.inl rfl | exact Or.inr rfl) (hx2 : ∀ cl C, Loc (compEnvC scope cl C X.env).scope z := by intro _ _; first | exact Or.inl rfl | exact Or.inr rfl) (hf : ∀ cl C, (scope.names.lookup y == some .cell) = true ∨ (compEnvC scope cl C X.env).scope.names.lookup y = some .local := by intro _ _; first | exact .inl rfl | exact .inr rfl) (hf2 : ∀ cl C, (scope.names.lookup z == some .cell) = true ∨ (compEnvC scope cl C X.env).scope.names.lookup z = some .local := by intro _ _; first | exact .inl rfl | exact .inr rfl)
    (hc : X.calm = true := by rfl) (hs : ∀ x, foldedSetIterable it X.env x = pure x := by intro _; rfl) : Ev X (.ListComp elt [⟨.Tuple [.Name y p1, .Name z p2] n0 p0, it, ifs, 0⟩] scope pos) ρ (bnd ci fun ds => bnd (compM f ds []) lsMM) := ⟨fun m R E xa h =>
  x_lcPM hj hk0 ((hi.run m _ E xa h).mono fun ds m1 h => hcv.I h) hl1 hok hx hx2 hf hf2 hc hs⟩
end

/-! ### blocks -/
inductive Fl (σ τ : Type) where
  | nx (s : σ) | rt (d : D) | bk (t : τ) | ct (t : τ)
inductive Le : Rn → Rn → Prop
  | nil : Le [] []
  | same {q : Str × Option D} {r r' : Rn} : Le r r' → Le (q :: r) (q :: r')
  | drop {x : Str} {o : Option D} {r r' : Rn} : Le r r' → Le ((x, none) :: r) ((x, o) :: r')
theorem Le.names : ∀ {r r' : Rn}, Le r r' → r.map (·.1) = r'.map (·.1)
  | _, _, .nil => rfl
  | _, _, .same h => by rw [List.map_cons, List.map_cons, h.names]
  | _, _, .drop h => by rw [List.map_cons, List.map_cons, h.names]
theorem Le.get : ∀ {r r' : Rn}, Le r r' → ∀ (i : Nat) (d : D), (r.map (·.2))[i]? = some (some d) → (r'.map (·.2))[i]? = some (some d)
  | _, _, .nil, i, d, h => h
  | _, _, .same h, 0, d, e => e
  | _, _, .same h, i + 1, d, e => by simpa using h.get i d (by simpa using e)
  | _, _, .drop h, 0, d, e => by simp at e
  | _, _, .drop h, i + 1, d, e => by simpa using h.get i d (by simpa using e)
theorem Env.le {X : Cx} {F : Hp} {σ : L2.St} {ρ ρ' : Rn} (e : Env X F σ ρ) (h : Le ρ' ρ) : Env X F σ ρ' :=
  ⟨e.nd, by rw [h.names]; exact e.nm, ⟨by rw [List.length_map]; have := congrArg List.length h.names; simp only [List.length_map] at this; rw [this, e.ev.len, List.length_map], fun i d q => e.ev.get i d (h.get i d q)⟩⟩
section
variable {X : CD} {sts : List Stmt} {st : Stmt} {ρ ρ' : Rn} {m : Led} {E : EndsD} {e tg : Expr} {d : D}
theorem SX.le (h : SX X sts ρ' m E) (l : Le ρ' ρ) : SX X sts ρ m E := .mk fun F σ H en at_ => h.run F σ H (en.le l) at_
theorem TX.le {R : Bool → Led → Prop} (h : TX X e ρ' m R) (l : Le ρ' ρ) : TX X e ρ m R := .mk fun F σ H en at_ => h.run F σ H (en.le l) at_
theorem OX.mono {f : Value → Value → Sem Value} {d1 d2 : D} {R R' : D → Led → Prop} (h : OX X f d1 d2 m R) (k : ∀ d m, R d m → R' d m) : OX X f d1 d2 m R' := .mk fun F σ H x y pins s v u q1 q2 at_ I rx ry => thn (h.run F σ H x y pins s v u q1 q2 at_ I rx ry) fun w s3 ⟨v3, H3, I3, r3, d, F3, m3, st3, q3, kk⟩ => ⟨v3, H3, I3, r3, d, F3, m3, st3, q3, k _ _ kk⟩
theorem StX.mono {d1 d2 d3 : D} {R R' : Led → Prop} (h : StX X d1 d2 d3 m R) (k : ∀ m, R m → R' m) : StX X d1 d2 d3 m R' := by
  obtain ⟨⟨t, pt, r⟩⟩ := h
  exact ⟨_, PSet.any, fun F H o i v q1 q2 q3 at_ => ⟨t, _, pt, r F H o i v q1 q2 q3 at_, fun H' ⟨F2, m2, s, rr⟩ => ⟨F2, m2, s, k _ rr⟩⟩⟩
theorem GX.le {R : Rn → Led → Prop} (h : GX X tg d ρ' m R) (l : Le ρ' ρ) : GX X tg d ρ m R := .mk fun F σ H v en at_ q => h.run F σ H v (en.le l) at_ q
theorem GX.mono {R R' : Rn → Led → Prop} (h : GX X tg d ρ m R) (k : ∀ ρ m, R ρ m → R' ρ m) : GX X tg d ρ m R' := .mk fun F σ H v en at_ q => (h.run F σ H v en at_ q).mono fun σ' H' ⟨ρ2, F2, m2, s, e, r⟩ => ⟨ρ2, F2, m2, s, e, k _ _ r⟩
end
def EF {σ τ : Type} (en : σ → Option Rn) (el : τ → Rn) (R : Fl σ τ → Led → Prop) : EndsD :=
  { nx := fun ρ' m' => ∃ s r, en s = some r ∧ Le r ρ' ∧ R (.nx s) m', rt := fun d m' => R (.rt d) m', bk := fun ρ' m' => ∃ t, Le (el t) ρ' ∧ R (.bk t) m', ct := fun ρ' m' => ∃ t, Le (el t) ρ' ∧ R (.ct t) m' }
structure BF (X : CD) (sts : List Stmt) (ρ : Rn) {σ τ : Type} (en : σ → Option Rn) (el : τ → Rn) (c : M (Fl σ τ)) : Prop where
  run : ∀ m R E, XF X E → c m R E → SX X sts ρ m (EF en el R)
def seqK {σ σ' τ : Type} (k : σ → M (Fl σ' τ)) : Fl σ τ → M (Fl σ' τ)
  | .nx s => k s
  | .rt d => ret (.rt d)
  | .bk t => ret (.bk t)
  | .ct t => ret (.ct t)
def seqF {σ σ' τ : Type} (c : M (Fl σ τ)) (k : σ → M (Fl σ' τ)) : M (Fl σ' τ) := bnd c (seqK k)
def rtM {σ τ : Type} (d : D) : M (Fl σ τ) := ret (.rt d)
section
variable {X : CD} {sts rest A B body : List Stmt} {ρ ρ' : Rn} {σ τ σ1 : Type} {en : σ → Option Rn} {el : τ → Rn} {e1 : σ1 → Rn} {c ca cb k : M (Fl σ τ)} {ce : M D} {ct : M Bool} {e t tg it : Expr} {pos pos' p2 p3 : Pos} {x y : Str} {i j : Nat} {kd : D → M (Fl σ τ)} {ρd : D → Rn} {d : D}
theorem bf_nil {s : σ} {r : Rn} (h : en s = some r := by rfl) (l : Le r ρ) : BF X [] ρ en el (ret (.nx s)) := ⟨fun m R E _ k => s_nil ⟨s, r, h, l, k⟩⟩
theorem bf_ret (h : Ev X e ρ ce) : BF X (.Return (some e) pos :: rest) ρ en el (bnd ce rtM) := ⟨fun m R E xf k => s_cons (s_ret (h.run m _ E (xf ρ) k))⟩
theorem bf_retN : BF X (.Return none pos :: rest) ρ en el (ret (.rt .non)) := ⟨fun m R E xf k => s_cons (s_retN k)⟩
theorem bf_expr (h : Ev X e ρ ce) (hk : BF X rest ρ en el k) (hs : swapsWith e none pos.line X.env = pure false := by rfl) : BF X (.Expr e pos :: rest) ρ en el (bnd ce fun _ => k) := ⟨fun m R E xf q =>
  s_cons (s_expr ((h.run m _ E (xf ρ) q).mono fun d m1 h1 => hk.run m1 R E xf h1) hs)⟩
theorem bf_pass (hk : BF X rest ρ en el k) : BF X (.Pass pos :: rest) ρ en el k := ⟨fun m R E xf q => s_cons (s_pass (hk.run m R E xf q))⟩
theorem bf_break {t : τ} (l : Le (el t) ρ) : BF X (.Break pos :: rest) ρ en el (ret (.bk t)) := ⟨fun m R E xf q => s_cons (s_break ⟨t, l, q⟩)⟩
theorem bf_continue {t : τ} (l : Le (el t) ρ) : BF X (.Continue pos :: rest) ρ en el (ret (.ct t)) := ⟨fun m R E xf q => s_cons (s_continue ⟨t, l, q⟩)⟩
theorem bf_set (h : Ev X e ρ ce) (hset : ∀ d, SetAt ρ i x d (ρd d)) (hk : ∀ d, BF X rest (ρd d) en el (kd d)) (hx : Loc X.env.scope x := by first | exact Or.inl rfl | exact Or.inr rfl) (hs : swapsWith e (some (.Name x pos')) pos.line X.env = pure false := by rfl)
    (hf : X.fn x = true ∨ X.env.scope.names.lookup x = some .local := by first | exact .inl rfl | exact .inr rfl | assumption) : BF X (.Assign [.Name x pos'] e pos :: rest) ρ en el (bnd ce kd) := ⟨fun m R E xf q =>
  s_cons (s_set ((h.run m _ E (xf ρ) q).mono fun d m1 h1 => ⟨i, ρd d, hset d, (hk d).run m1 R E xf h1⟩) hx hs hf)⟩
theorem bf_aug {op : Operator} {d0 : D} (hl : LookAt ρ i x d0) (h : Ev X e ρ ce) (hset : ∀ d, SetAt ρ i x d (ρd d)) (hk : ∀ d, BF X rest (ρd d) en el (kd d)) (hx : Loc X.env.scope x := by first | exact Or.inl rfl | exact Or.inr rfl) (hf : X.fn x = true ∨ X.env.scope.names.lookup x = some .local := by first | exact .inl rfl | exact .inr rfl | assumption) :
    BF X (.AugAssign (.Name x pos') op e pos :: rest) ρ en el (bnd ce fun y => bnd (inplM op d0 y) kd) := ⟨fun m R E xf q =>
  s_cons (s_aug hl ((h.run m _ E (xf ρ) q).mono fun d m1 h1 => OX.mono (inplM_ok h1) fun z m2 h2 => ⟨i, ρd z, hset z, (hk z).run m2 R E xf h2⟩) hx hf)⟩
/-! if -/
theorem bf_if {ca cb : M (Fl σ1 τ)} {k : σ1 → M (Fl σ τ)} (ht : Tv X t ρ ct) (ha : BF X A ρ (fun s => some (e1 s)) el ca) (hb : BF X B ρ (fun s => some (e1 s)) el cb) (hk : ∀ s, BF X rest (e1 s) en el (k s)) :
    BF X (.If t A B pos :: rest) ρ en el (seqF (bnd ct fun b => iteM b ca cb) k) := ⟨fun m R E xf q => by
  refine s_cons (s_if ((ht.run m _ E (xf ρ) q).mono fun b m1 h1 => ⟨fun eb => ?_, fun eb => ?_⟩))
  · refine (ha.run m1 _ E xf (h1.1 eb)).mono ?_ ?_ ?_ ?_
    · rintro ρ' m' ⟨s, r, e, l, h⟩
      cases e
      exact ((hk s).run m' R E xf h).le l
    · exact fun d m' h => h
    · exact fun ρ' m' h => h
    · exact fun ρ' m' h => h
  · refine (hb.run m1 _ E xf (h1.2 eb)).mono ?_ ?_ ?_ ?_
    · rintro ρ' m' ⟨s, r, e, l, h⟩
      cases e
      exact ((hk s).run m' R E xf h).le l
    · exact fun d m' h => h
    · exact fun ρ' m' h => h
    · exact fun ρ' m' h => h⟩
/-- the branch leaves -/
theorem bf_ifX (ht : Tv X t ρ ct) (ha : BF X A ρ (fun _ : σ => none) el ca) (hk : BF X rest ρ en el k) : BF X (.If t A [] pos :: rest) ρ en el (bnd ct fun b => iteM b ca k) := ⟨fun m R E xf q => by
  refine s_cons (s_if ((ht.run m _ E (xf ρ) q).mono fun b m1 h1 => ⟨fun eb => ?_, fun eb => ?_⟩))
  · refine (ha.run m1 R E xf (h1.1 eb)).mono ?_ ?_ ?_ ?_
    · rintro ρ' m' ⟨s, r, e, l, h⟩
      cases e
    · exact fun d m' h => h
    · exact fun ρ' m' h => h
    · exact fun ρ' m' h => h
  · exact s_nil (hk.run m1 R E xf (h1.2 eb))⟩
/-- both leave, or nothing follows -/
theorem bf_ifL (ht : Tv X t ρ ct) (ha : BF X A ρ en el ca) (hb : BF X B ρ en el cb) : BF X [.If t A B pos] ρ en el (bnd ct fun b => iteM b ca cb) := ⟨fun m R E xf q => by
  refine s_cons (s_if ((ht.run m _ E (xf ρ) q).mono fun b m1 h1 => ⟨fun eb => ?_, fun eb => ?_⟩))
  · exact (ha.run m1 R E xf (h1.1 eb)).mono (fun ρ' m' h => s_nil h) (fun d m' h => h) (fun ρ' m' h => h) fun ρ' m' h => h
  · exact (hb.run m1 R E xf (h1.2 eb)).mono (fun ρ' m' h => s_nil h) (fun d m' h => h) (fun ρ' m' h => h) fun ρ' m' h => h⟩
theorem bf_ifXX (ht : Tv X t ρ ct) (ha : BF X A ρ (fun _ : σ => none) el ca) (hb : BF X B ρ (fun _ : σ => none) el cb) : BF X (.If t A B pos :: rest) ρ en el (bnd ct fun b => iteM b ca cb) := ⟨fun m R E xf q => by
  refine s_cons (s_if ((ht.run m _ E (xf ρ) q).mono fun b m1 h1 => ⟨fun eb => ?_, fun eb => ?_⟩))
  · refine (ha.run m1 R E xf (h1.1 eb)).mono ?_ ?_ ?_ ?_
    · rintro ρ' m' ⟨s, r, e, l, h⟩
      cases e
    · exact fun d m' h => h
    · exact fun ρ' m' h => h
    · exact fun ρ' m' h => h
  · refine (hb.run m1 R E xf (h1.2 eb)).mono ?_ ?_ ?_ ?_
    · rintro ρ' m' ⟨s, r, e, l, h⟩
      cases e
    · exact fun d m' h => h
    · exact fun ρ' m' h => h
    · exact fun ρ' m' h => h⟩
/-- the branch leaves, the other one goes on -/
theorem bf_ifXB {cb : M (Fl σ1 τ)} {k : σ1 → M (Fl σ τ)} (ht : Tv X t ρ ct) (ha : BF X A ρ (fun _ : σ => none) el ca) (hb : BF X B ρ (fun s => some (e1 s)) el cb) (hk : ∀ s, BF X rest (e1 s) en el (k s)) : BF X (.If t A B pos :: rest) ρ en el (bnd ct fun b => iteM b ca (seqF cb k)) := ⟨fun m R E xf q => by
  refine s_cons (s_if ((ht.run m _ E (xf ρ) q).mono fun b m1 h1 => ⟨fun eb => ?_, fun eb => ?_⟩))
  · refine (ha.run m1 R E xf (h1.1 eb)).mono ?_ ?_ ?_ ?_
    · rintro ρ' m' ⟨s, r, e, l, h⟩
      cases e
    · exact fun d m' h => h
    · exact fun ρ' m' h => h
    · exact fun ρ' m' h => h
  · refine (hb.run m1 _ E xf (h1.2 eb)).mono ?_ ?_ ?_ ?_
    · rintro ρ' m' ⟨s, r, e, l, h⟩
      cases e
      exact ((hk s).run m' R E xf h).le l
    · exact fun d m' h => h
    · exact fun ρ' m' h => h
    · exact fun ρ' m' h => h⟩
theorem bf_ifBX {ca : M (Fl σ1 τ)} {k : σ1 → M (Fl σ τ)} (ht : Tv X t ρ ct) (ha : BF X A ρ (fun s => some (e1 s)) el ca) (hb : BF X B ρ (fun _ : σ => none) el cb) (hk : ∀ s, BF X rest (e1 s) en el (k s)) : BF X (.If t A B pos :: rest) ρ en el (bnd ct fun b => iteM b (seqF ca k) cb) := ⟨fun m R E xf q => by
  refine s_cons (s_if ((ht.run m _ E (xf ρ) q).mono fun b m1 h1 => ⟨fun eb => ?_, fun eb => ?_⟩))
  · refine (ha.run m1 _ E xf (h1.1 eb)).mono ?_ ?_ ?_ ?_
    · rintro ρ' m' ⟨s, r, e, l, h⟩
      cases e
      exact ((hk s).run m' R E xf h).le l
    · exact fun d m' h => h
    · exact fun ρ' m' h => h
    · exact fun ρ' m' h => h
  · refine (hb.run m1 R E xf (h1.2 eb)).mono ?_ ?_ ?_ ?_
    · rintro ρ' m' ⟨s, r, e, l, h⟩
      cases e
    · exact fun d m' h => h
    · exact fun ρ' m' h => h
    · exact fun ρ' m' h => h⟩
end

/-! ### for, while -/
def forF {σ τ : Type} (f : D → σ → M (Fl σ σ)) : List D → σ → M (Fl σ τ)
  | [], s => ret (.nx s)
  | d :: ds, s => bnd (f d s) fun fl => match fl with
    | .nx s' => forF f ds s'
    | .ct s' => forF f ds s'
    | .bk s' => ret (.nx s')
    | .rt d => ret (.rt d)
def whileN {σ τ : Type} (t : σ → M Bool) (f : σ → M (Fl σ σ)) : Nat → σ → M (Fl σ τ)
  | 0, _ => bad
  | n + 1, s => bnd (t s) fun k => iteM k (bnd (f s) fun fl => match fl with
    | .nx s' => whileN t f n s'
    | .ct s' => whileN t f n s'
    | .bk s' => ret (.nx s')
    | .rt d => ret (.rt d)) (ret (.nx s))
def whileF {σ τ : Type} (t : σ → M Bool) (f : σ → M (Fl σ σ)) (s : σ) : M (Fl σ τ) := fun m R E => ∃ n, whileN t f n s m R E
section
variable {X : CD} {rest body : List Stmt} {ρ : Rn} {σ τ σ1 : Type} {en : σ → Option Rn} {el : τ → Rn} {e1 : σ1 → Rn} {e t tg it : Expr} {pos p0 p1 p2 p3 : Pos} {x y z : Str} {i j l n0 : Nat} {d : D} {c : M (Fl σ τ)} {ρ1 : D → Rn} {ρ2 : D → D → Rn} {ρ3 : D → D → D → Rn}
/-- a target, then a block -/
structure BG (X : CD) (tg : Expr) (d : D) (body : List Stmt) (ρ : Rn) {σ τ : Type} (en : σ → Option Rn) (el : τ → Rn) (c : M (Fl σ τ)) : Prop where
  run : ∀ m R E, XF X E → c m R E → GX X tg d ρ m fun ρ2 m2 => SX X body ρ2 m2 (EF en el R)
theorem bg_name {ρ' : Rn} (hset : SetAt ρ i x d ρ') (hb : BF X body ρ' en el c) (hx : Loc X.env.scope x := by first | exact Or.inl rfl | exact Or.inr rfl) (hf : X.fn x = true ∨ X.env.scope.names.lookup x = some .local := by first | exact .inl rfl | exact .inr rfl | assumption) : BG X (.Name x pos) d body ρ en el c := ⟨fun m R E xf q =>
  g_name hset (hb.run m R E xf q) hx hf⟩
def ut2 {α : Type} (d : D) (k : D → D → M α) : M α := fun m R E => ∃ a b, d = .tup [a, b] ∧ k a b m R E
def ut3 {α : Type} (d : D) (k : D → D → D → M α) : M α := fun m R E => ∃ a b c, d = .tup [a, b, c] ∧ k a b c m R E
theorem bg_tup2 {k : D → D → M (Fl σ τ)} (h1 : ∀ a, SetAt ρ i x a (ρ1 a)) (h2 : ∀ a b, SetAt (ρ1 a) j y b (ρ2 a b)) (hb : ∀ a b, BF X body (ρ2 a b) en el (k a b)) (hx : Loc X.env.scope x := by first | exact Or.inl rfl | exact Or.inr rfl) (hf : X.fn x = true ∨ X.env.scope.names.lookup x = some .local := by first | exact .inl rfl | exact .inr rfl | assumption)
    (hx2 : Loc X.env.scope y := by first | exact Or.inl rfl | exact Or.inr rfl) (hf2 : X.fn y = true ∨ X.env.scope.names.lookup y = some .local := by first | exact .inl rfl | exact .inr rfl | assumption) (hc : X.calm = true := by rfl) : BG X (.Tuple [.Name x p1, .Name y p2] n0 p0) d body ρ en el (ut2 d k) := ⟨fun m R E xf ⟨a, b, e, q⟩ => by
  subst e
  exact g_tup (gs_cons (g_name (h1 a) (gs_cons (g_name (h2 a b) (gs_nil ((hb a b).run m R E xf q)) hx2 hf2)) hx hf)) hc⟩
theorem bg_tup3 {k : D → D → D → M (Fl σ τ)} (h1 : ∀ a, SetAt ρ i x a (ρ1 a)) (h2 : ∀ a b, SetAt (ρ1 a) j y b (ρ2 a b)) (h3 : ∀ a b c, SetAt (ρ2 a b) l z c (ρ3 a b c)) (hb : ∀ a b c, BF X body (ρ3 a b c) en el (k a b c)) (hx : Loc X.env.scope x := by first | exact Or.inl rfl | exact Or.inr rfl) (hf : X.fn x = true ∨ X.env.scope.names.lookup x = some .local := by first | exact .inl rfl | exact .inr rfl | assumption)
    (hx2 : Loc X.env.scope y := by first | exact Or.inl rfl | exact Or.inr rfl) (hf2 : X.fn y = true ∨ X.env.scope.names.lookup y = some .local := by first | exact .inl rfl | exact .inr rfl | assumption) (hx3 : Loc X.env.scope z := by first | exact Or.inl rfl | exact Or.inr rfl) (hf3 : X.fn z = true ∨ X.env.scope.names.lookup z = some .local := by first | exact .inl rfl | exact .inr rfl | assumption) (hc : X.calm = true := by rfl) : BG X (.Tuple [.Name x p1, .Name y p2, .Name z p3] n0 p0) d body ρ en el (ut3 d k) := ⟨fun m R E xf ⟨a, b, c, e, q⟩ => by
  subst e
  exact g_tup (gs_cons (g_name (h1 a) (gs_cons (g_name (h2 a b) (gs_cons (g_name (h3 a b c) (gs_nil ((hb a b c).run m R E xf q)) hx3 hf3)) hx2 hf2)) hx hf)) hc⟩
/-- target = e -/
theorem bf_asg {ce : M D} {k : D → M (Fl σ τ)} (h : Ev X e ρ ce) (hg : ∀ d, BG X tg d rest ρ en el (k d)) (hs : swapsWithSole [tg] e pos.line X.env = pure false := by rfl) (hw : swappedStores [tg] e X.env = pure none := by rfl)
    (h1 : (assignEach [tg] X.env).map (·.2) = [assign tg X.env] := by rfl) : BF X (.Assign [tg] e pos :: rest) ρ en el (bnd ce k) := ⟨fun m R E xf q =>
  s_cons (s_asg ((h.run m _ E (xf ρ) q).mono fun d m1 h1 => (hg d).run m1 R E xf h1) hs hw h1)⟩
/-- a, b = x, y, both locals -/
theorem bf_par {a b : Expr} {ca cb : M D} {px py pt pt2 : Pos} {kt k2 : Nat} {k : D → D → M (Fl σ τ)} (ha : Ev X a ρ ca) (hb : Ev X b ρ cb) (h1 : ∀ u, SetAt ρ i x u (ρ1 u)) (h2 : ∀ u v, SetAt (ρ1 u) j y v (ρ2 u v)) (hij : i ≠ j) (hk : ∀ u v, BF X rest (ρ2 u v) en el (k u v))
    (hst : starEach [a, b] X.env = (false, eval a X.env) :: starEach [b] X.env := by rfl) (hst2 : starEach [b] X.env = (false, eval b X.env) :: starEach [] X.env := by rfl)
    (hw : swappedStores [.Tuple [.Name x px, .Name y py] kt pt] (.Tuple [a, b] k2 pt2) X.env = pure (some [x, y]) := by rfl) (hx : X.env.scope.names.lookup x = some .local := by rfl) (hy : X.env.scope.names.lookup y = some .local := by rfl) (hc : X.calm = true := by rfl)
    (hs : swapsWithSole [.Tuple [.Name x px, .Name y py] kt pt] (.Tuple [a, b] k2 pt2) pos.line X.env = pure false := by rfl) :
    BF X (.Assign [.Tuple [.Name x px, .Name y py] kt pt] (.Tuple [a, b] k2 pt2) pos :: rest) ρ en el (bnd ca fun u => bnd cb fun v => k u v) := ⟨fun m R E xf q =>
  s_cons (s_par (a_cons ((ha.run m _ E (xf ρ) q).mono fun u m1 h => a_cons ((hb.run m1 _ E (xf ρ) h).mono fun v m2 h => a_nil ⟨u, v, i, j, ρ1 u, ρ2 u v, rfl, h1 u, h2 u v, hij, (hk u v).run m2 R E xf h⟩) hst2) hst) hw hx hy hc hs)⟩
/-- o[i] = v -/
def stM (o i v : D) : M Unit := fun m R _ => match o, i with
  | .ref a, .int i => ∃ (n : Nat) (ds : List D) (j : Nat), m[n]? = some (a, .lst ds) ∧ ixN ds.length i = some j ∧ R () (m.set n (a, .lst (ds.set j v)))
  | _, _ => False
theorem stM_ok {o i v : D} {m : Led} {R : Unit → Led → Prop} {E : XR} (h : stM o i v m R E) : StX X o i v m (R ()) := by
  cases o <;> cases i <;> try exact h.elim
  obtain ⟨n, ds, j, h1, h2, h3⟩ := h
  exact st_lst h1 h2 h3
theorem bf_sub {o ix : Expr} {ce co ci : M D} {k : M (Fl σ τ)} (he : Ev X e ρ ce) (ho : Ev X o ρ co) (hi : Ev X ix ρ ci) (hk : BF X rest ρ en el k) (hs : swapsWithSole [.Subscript o ix p1] e pos.line X.env = pure false := by rfl) (hw : swappedStores [.Subscript o ix p1] e X.env = pure none := by rfl)
    (h1 : (assignEach [.Subscript o ix p1] X.env).map (·.2) = [assign (.Subscript o ix p1) X.env] := by rfl) (ha : ∀ v, assign (.Subscript o ix p1) X.env v = (do
      let ov ← holding [v] (eval o X.env)
      let iv ← holding [v, ov] (eval ix X.env)
      standAt p1
      holding [v, ov, iv] (setItem ov iv v)
      release [v, ov, iv] []) := by intro _; rfl) : BF X (.Assign [.Subscript o ix p1] e pos :: rest) ρ en el (bnd ce fun v => bnd co fun ov => bnd ci fun iv => bnd (stM ov iv v) fun _ => k) := ⟨fun m R E xf q =>
  s_cons (s_asg ((he.run m _ E (xf ρ) q).mono fun v m1 h => g_sub ((ho.run m1 _ E (xf ρ) h).mono fun ov m2 h => (hi.run m2 _ E (xf ρ) h).mono fun iv m3 h => StX.mono (stM_ok h) fun m4 h => hk.run m4 R E xf h) ha) hs hw h1)⟩
theorem bf_for {ci : M (List D)} {f : D → σ1 → M (Fl σ1 σ1)} {k : σ1 → M (Fl σ τ)} {s0 : σ1} (hi : Iv X tg it ρ ci) (h0 : Le (e1 s0) ρ) (hb : ∀ d s, BG X tg d body (e1 s) (fun s => some (e1 s)) e1 (f d s)) (hk : ∀ s, BF X rest (e1 s) en el (k s))
    (hc : X.calm = true := by rfl) (hs : ∀ x, foldedSetIterable it X.env x = pure x := by intro _; rfl) : BF X (.For tg it body [] pos :: rest) ρ en el (bnd ci fun ds => seqF (forF f ds s0) k) := ⟨fun m R E xf q => by
  refine s_cons (s_for ((hi.run m _ E (xf ρ) q).mono fun ds m1 h => ?_) hc hs)
  refine ⟨fun i ρ' m' => ∃ s, Le (e1 s) ρ' ∧ seqF (forF f (ds.drop i) s) k m' R E, ⟨s0, h0, h⟩, ?_, ?_⟩
  · rintro i d ρ' m' hd ⟨s, l, hI⟩
    rw [drop_at hd] at hI
    refine GX.mono (((hb d s).run m' _ E xf hI).le l) fun ρ2 m2 hx => hx.mono ?_ ?_ ?_ ?_
    · rintro ρ3 m3 ⟨s', r, e, l', h'⟩
      cases e
      exact ⟨s', l', h'⟩
    · exact fun d m' h => h
    · rintro ρ3 m3 ⟨s', l', h'⟩
      exact ((hk s').run m3 R E xf h').le l'
    · rintro ρ3 m3 ⟨s', l', h'⟩
      exact ⟨s', l', h'⟩
  · rintro ρ' m' ⟨s, l, hI⟩
    rw [List.drop_length] at hI
    exact ((hk s).run m' R E xf hI).le l⟩
theorem bf_while {ct : σ1 → M Bool} {f : σ1 → M (Fl σ1 σ1)} {k : σ1 → M (Fl σ τ)} {s0 : σ1} (ht : ∀ s, Tv X t (e1 s) (ct s)) (h0 : Le (e1 s0) ρ) (hb : ∀ s, BF X body (e1 s) (fun s => some (e1 s)) e1 (f s)) (hk : ∀ s, BF X rest (e1 s) en el (k s)) :
    BF X (.While t body [] pos :: rest) ρ en el (seqF (whileF ct f s0) k) := ⟨fun m R E xf ⟨n, q⟩ => by
  refine s_cons (s_while (fun n ρ' m' => ∃ s, Le (e1 s) ρ' ∧ bnd (whileN ct f n s) (seqK k) m' R E) n ⟨s0, h0, q⟩ ?_)
  rintro n ρ' m' ⟨s, l, hI⟩
  cases n with
  | zero => exact hI.elim
  | succ n =>
    refine TX.mono (((ht s).run m' _ E (xf _) hI).le l) fun kk m1 h1 => ⟨fun ek => ?_, fun ek => ?_⟩
    · refine ((hb s).run m1 _ E xf (h1.1 ek)).le l |>.mono ?_ ?_ ?_ ?_
      · rintro ρ3 m3 ⟨s', r, e, l', h'⟩
        cases e
        exact ⟨n, Nat.lt_succ_self n, s', l', h'⟩
      · exact fun d m' h => h
      · rintro ρ3 m3 ⟨s', l', h'⟩
        exact ((hk s').run m3 R E xf h').le l'
      · rintro ρ3 m3 ⟨s', l', h'⟩
        exact ⟨n, Nat.lt_succ_self n, s', l', h'⟩
    · exact ((hk s).run m1 R E xf (h1.2 ek)).le l⟩
end
end DL

namespace DL
open PySem PySem.Spec PySem.Calls PyProof.Rows L2 RZ

section
variable {X : CD} {elt it t : Expr} {scope : Scope} {ifs : List Expr} {ρ : Rn} {pos py p0 p1 p2 px spos : Pos} {y z x : Str} {i j k n0 : Nat} {ci : M (List D)} {f : D → M (Option D)} {rest : List Stmt} {σ τ : Type} {en : σ → Option Rn} {el : τ → Rn} {kd : D → M (Fl σ τ)} {ρd : D → Rn}
/-! x = [..] -/
theorem CompI.mono {R R' : List D → Led → Prop} {ds : List D} {m : Led} (h : CompI X scope ifs elt y j ρ R ds m) (q : ∀ acc m', R acc m' → R' acc m') : CompI X scope ifs elt y j ρ R' ds m := let ⟨I, a, b, c⟩ := h; ⟨I, a, b, fun acc m' z => q _ _ (c acc m' z)⟩
theorem CompP.mono {R R' : List D → Led → Prop} {ds : List D} {m : Led} (h : CompP X scope ifs elt y j z k ρ R ds m) (q : ∀ acc m', R acc m' → R' acc m') : CompP X scope ifs elt y j z k ρ R' ds m := let ⟨I, a, b, c⟩ := h; ⟨I, a, b, fun acc m' z => q _ _ (c acc m' z)⟩
theorem bf_setLc (hj : SlotAt ρ j y) (hsl : SlotAt ρ i x) (hi : Iv X (.Name y py) it ρ ci) (hcv : Cv X scope ifs elt y j ρ f) (hset : ∀ d, SetAt ρ i x d (ρd d)) (hk : ∀ d, BF X rest (ρd d) en el (kd d))
    (hxl : X.env.scope.names.lookup x = some .local := by rfl) (ha : (scope.names.any fun (n, k) => n == x && (k == .local || k == .cell)) = false := by decide +kernel) (hkk : X.env.scope.kind = .function := by rfl) (hln : (px.line == pos.line) = true := by rfl)
    (hl1 : ifs.length ≤ 1 := by decide) (hok : blkC X.N X.env.scope scope [(y, j)] = true := by kernel_rfl)
    (hx : ∀ cl C, Loc (compEnvC scope cl C X.env).scope y := by intro _ _; first | exact Or.inl rfl | exact Or.inr rfl) (hf : ∀ cl C, (scope.names.lookup y == some .cell) = true ∨ (compEnvC scope cl C X.env).scope.names.lookup y = some .local := by intro _ _; first | exact .inl rfl | exact .inr rfl)
    (hc : X.calm = true := by rfl) (hs : ∀ x, foldedSetIterable it X.env x = pure x := by intro _; rfl) : BF X (.Assign [.Name x px] (.ListComp elt [⟨.Name y py, it, ifs, 0⟩] scope pos) spos :: rest) ρ en el (bnd (bnd ci fun ds => bnd (compM f ds []) lsM) kd) := ⟨fun m R E xf h =>
  s_cons (s_setLc hj hsl ((hi.run m _ E (xf ρ) h).mono fun ds m1 h => (hcv.I h).mono fun acc m' h => ⟨_, hset _, (hk _).run m' R E xf h⟩) hxl ha hkk hln hl1 hok hx hf hc hs)⟩
theorem bf_setLcM (hj : SlotAt ρ j y) (hsl : SlotAt ρ i x) (hi : Iv X (.Name y py) it ρ ci) (hcv : Cv X scope ifs elt y j ρ f) (hset : ∀ d, SetAt ρ i x d (ρd d)) (hk : ∀ d, BF X rest (ρd d) en el (kd d))
    (hxl : X.env.scope.names.lookup x = some .local := by rfl) (ha : (scope.names.any fun (n, k) => n == x && (k == .local || k == .cell)) = false := by decide +kernel) (hkk : X.env.scope.kind = .function := by rfl) (hln : (px.line == pos.line) = true := by rfl)
    (hl1 : ifs.length ≤ 1 := by decide) (hok : blkC X.N X.env.scope scope [(y, j)] = true := by kernel_rfl)
    (hx : ∀ cl C, Loc (compEnvC scope cl C X.env).scope y := by intro _ _; first | exact Or.inl rfl | exact Or.inr rfl) (hf : ∀ cl C, (scope.names.lookup y == some .cell) = true ∨ (compEnvC scope cl C X.env).scope.names.lookup y = some .local := by intro _ _; first | exact .inl rfl | exact .inr rfl)
    (hc : X.calm = true := by rfl) (hs : ∀ x, foldedSetIterable it X.env x = pure x := by intro _; rfl) : BF X (.Assign [.Name x px] (.ListComp elt [⟨.Name y py, it, ifs, 0⟩] scope pos) spos :: rest) ρ en el (bnd (bnd ci fun ds => bnd (compM f ds []) lsMM) kd) := ⟨fun m R E xf h =>
  s_cons (s_setLcM hj hsl ((hi.run m _ E (xf ρ) h).mono fun ds m1 h => (hcv.I h).mono fun acc m' h => fun p => ⟨_, hset _, (hk _).run _ R E xf (h p)⟩) hxl ha hkk hln hl1 hok hx hf hc hs)⟩
theorem bf_setLcP (hj : SlotAt ρ j y) (hk0 : SlotAt ρ k z) (hsl : SlotAt ρ i x) (hi : Iv X (.Tuple [.Name y p1, .Name z p2] n0 p0) it ρ ci) (hcv : CvP X scope ifs elt y j z k ρ f) (hset : ∀ d, SetAt ρ i x d (ρd d)) (hk : ∀ d, BF X rest (ρd d) en el (kd d))
    (hxl : X.env.scope.names.lookup x = some .local := by rfl) (ha : (scope.names.any fun (n, k) => n == x && (k == .local || k == .cell)) = false := by decide +kernel) (hkk : X.env.scope.kind = .function := by rfl) (hln : (px.line == pos.line) = true := by rfl)
    (hl1 : ifs.length ≤ 1 := by decide) (hok : blkC X.N X.env.scope scope [(y, j), (z, k)] = true := by kernel_rfl)
    (hx : ∀ cl C, Loc (compEnvC scope cl C X.env).scope y := by intro _ _; first | exact Or.inl rfl | exact Or.inr rfl) (hx2 : ∀ cl C, Loc (compEnvC scope cl C X.env).scope z := by intro _ _; first | exact Or.inl rfl | exact Or.inr rfl) (hf : ∀ cl C, (scope.names.lookup y == some .cell) = true ∨ (compEnvC scope cl C X.env).scope.names.lookup y = some .local := by intro _ _; first | exact .inl rfl | exact .inr rfl)
    (hf2 : ∀ cl C, (scope.names.lookup z == some .cell) = true ∨ (compEnvC scope cl C X.env).scope.names.lookup z = some .local := by intro _ _; first | exact .inl rfl | exact .inr rfl)
    (hc : X.calm = true := by rfl) (hs : ∀ x, foldedSetIterable it X.env x = pure x := by intro _; rfl) : BF X (.Assign [.Name x px] (.ListComp elt [⟨.Tuple [.Name y p1, .Name z p2] n0 p0, it, ifs, 0⟩] scope pos) spos :: rest) ρ en el (bnd (bnd ci fun ds => bnd (compM f ds []) lsM) kd) := ⟨fun m R E xf h =>
  s_cons (s_setLcP hj hk0 hsl ((hi.run m _ E (xf ρ) h).mono fun ds m1 h => (hcv.I h).mono fun acc m' h => ⟨_, hset _, (hk _).run m' R E xf h⟩) hxl ha hkk hln hl1 hok hx hx2 hf hf2 hc hs)⟩
theorem bf_setLcPM (hj : SlotAt ρ j y) (hk0 : SlotAt ρ k z) (hsl : SlotAt ρ i x) (hi : Iv X (.Tuple [.Name y p1, .Name z p2] n0 p0) it ρ ci) (hcv : CvP X scope ifs elt y j z k ρ f) (hset : ∀ d, SetAt ρ i x d (ρd d)) (hk : ∀ d, BF X rest (ρd d) en el (kd d))
    (hxl : X.env.scope.names.lookup x = some .local := by rfl) (ha : (scope.names.any fun (n, k) => n == x && (k == .local || k == .cell)) = false := by decide +kernel) (hkk : X.env.scope.kind = .function := by rfl) (hln : (px.line == pos.line) = true := by rfl)
    (hl1 : ifs.length ≤ 1 := by decide) (hok : blkC X.N X.env.scope scope [(y, j), (z, k)] = true := by kernel_rfl)
    (hx : ∀ cl C, Loc (compEnvC scope cl C X.env).scope y := by intro _ _; first | exact Or.inl rfl | exact Or.inr rfl) (hx2 : ∀ cl C, Loc (compEnvC scope cl C X.env).scope z := by intro _ _; first | exact Or.inl rfl | exact Or.inr rfl) (hf : ∀ cl C, (scope.names.lookup y == some .cell) = true ∨ (compEnvC scope cl C X.env).scope.names.lookup y = some .local := by intro _ _; first | exact .inl rfl | exact .inr rfl)
    (hf2 : ∀ cl C, (scope.names.lookup z == some .cell) = true ∨ (compEnvC scope cl C X.env).scope.names.lookup z = some .local := by intro _ _; first | exact .inl rfl | exact .inr rfl)
    (hc : X.calm = true := by rfl) (hs : ∀ x, foldedSetIterable it X.env x = pure x := by intro _; rfl) : BF X (.Assign [.Name x px] (.ListComp elt [⟨.Tuple [.Name y p1, .Name z p2] n0 p0, it, ifs, 0⟩] scope pos) spos :: rest) ρ en el (bnd (bnd ci fun ds => bnd (compM f ds []) lsMM) kd) := ⟨fun m R E xf h =>
  s_cons (s_setLcPM hj hk0 hsl ((hi.run m _ E (xf ρ) h).mono fun ds m1 h => (hcv.I h).mono fun acc m' h => fun p => ⟨_, hset _, (hk _).run _ R E xf (h p)⟩) hxl ha hkk hln hl1 hok hx hx2 hf hf2 hc hs)⟩
end
section
variable {X : CD} {e o : Expr} {es : List Expr} {ρ : Rn} {pos apos cpos p p2 pos' np : Pos} {x nm f : Str} {i j k n : Nat} {rest A B body suite : List Stmt} {b₀ : Stmt} {σ τ σ1 : Type} {en : σ → Option Rn} {el : τ → Rn} {e1 : σ1 → Rn} {kd : D → M (Fl σ τ)} {ρd : D → Rn} {ce co : M D} {d : D} {c : M (Fl σ τ)} {ct : M Bool} {t : Expr} {mg : Str → Option Value} {P : Program} {w : World} {K : Frag} {base : Heap} {C : Addr}
/-- a list of the ledger that is not changed any more -/
theorem bf_frz (hl : LookAt ρ i x d) (hset : ∀ u, SetAt ρ i x u (ρd u)) (hk : ∀ u, BF X rest (ρd u) en el (kd u)) : BF X rest ρ en el (bnd (frzM d) kd) := ⟨fun m R E xf h => by
  have self : ∀ {d}, LookAt ρ i x d → ρd d = ρ := fun {d} hl => by
    obtain ⟨h1, _⟩ := (hset d).eq
    rw [h1]
    apply List.ext_getElem?
    intro j
    by_cases hj : i = j
    · subst hj
      rw [List.getElem?_set_self (List.getElem?_eq_some_iff.mp hl.get).1, hl.get]
    · rw [List.getElem?_set_ne hj]
  cases d with
  | ref p =>
    obtain ⟨n, ds, hm, h⟩ := h
    exact s_freeze hm hl (hset _) ((hk _).run _ R E xf h)
  | _ =>
    have := (hk _).run m R E xf h
    rw [self hl] at this
    exact this⟩
/-! xs.append(e) -/
def chkL (d : D) : M Unit := fun m R _ => match d with
  | .ref a => ∃ (n : Nat) (ds : List D), m[n]? = some (a, .lst ds) ∧ R () m
  | _ => False
def appM (d y : D) : M D := fun m R _ => match d with
  | .ref a => ∃ (n : Nat) (ds : List D), m[n]? = some (a, .lst ds) ∧ ds.length < 100000 ∧ R .non (m.set n (a, .lst (ds ++ [y])))
  | _ => False
theorem ev_append (ho : Ev X o ρ co) (he : Ev X e ρ ce) (hbase : attributeBase o "append" X.env (eval o X.env) = eval o X.env := by rfl)
    (hfew : ((backTo cpos (starEach [e] X.env)).all (fun x => !x.1) && (backToKw cpos (keywordEach [] X.env)).all (fun x => x.1.isSome)
      && decide ([e].length + ([] : List Keyword).length + (if ([] : List Keyword).isEmpty then 0 else 1) < 30)) = true := by rfl)
    (hline : (apos.endLine == cpos.line) = true := by rfl) (hs : starEach [e] X.env = (false, eval e X.env) :: starEach [] X.env := by rfl) :
    Ev X (.Call (.Attribute o "append" apos) [e] [] cpos) ρ (bnd co fun u => bnd (chkL u) fun _ => bnd ce fun y => appM u y) := ⟨fun m R E xa h =>
  x_append ((ho.run m _ E xa h).mono fun u m1 h => by
    cases u <;> try exact h.elim
    obtain ⟨n, ds, hm, h⟩ := h
    exact ⟨_, n, ds, rfl, hm, (he.run m1 _ E xa h).mono fun y m2 h => h⟩) hbase hfew hline hs⟩
/-! raise -/
def raiM {α : Type} (nm : Str) (fd : Option (Str × D)) : M α := fun m _ E => E nm fd m
theorem bf_raise0 (G : XK0 P w K mg nm C) (hr : Room 1 X.A) (hX : X.prog = P ∧ X.w = w ∧ X.K = K ∧ X.mg = mg := by exact ⟨rfl, rfl, rfl, rfl⟩) (hc : X.calm = true := by rfl) (hg : Gl X nm := by rfl) (hdb : (nm == ("__debug__" : Str)) = false := by decide) :
    BF X (.Raise (some (.Call (.Name nm p) [] [] pos)) none p2 :: rest) ρ en el (raiM nm none) := ⟨fun m R E xf h => s_cons (c_raise0 G hr (xf ρ _ _ _ h) hX hc hg hdb)⟩
theorem bf_raise1 (G : XK1 P w K mg nm f C) (hr : Room 1 X.A) (he : Ev X e ρ ce) (hX : X.prog = P ∧ X.w = w ∧ X.K = K ∧ X.mg = mg := by exact ⟨rfl, rfl, rfl, rfl⟩) (hc : X.calm = true := by rfl) (hg : Gl X nm := by rfl) (hdb : (nm == ("__debug__" : Str)) = false := by decide)
    (hst : starEach [e] X.env = (false, eval e X.env) :: starEach [] X.env := by rfl) : BF X (.Raise (some (.Call (.Name nm p) [e] [] pos)) none p2 :: rest) ρ en el (bnd ce fun d => raiM nm (some (f, d))) := ⟨fun m R E xf h =>
  s_cons (c_raise1 G hr ((he.run m _ E (xf ρ) h).mono fun d m1 h => xf ρ _ _ _ h) hX hc hg hdb hst)⟩
/-! try: the body is one statement, or ifs of such, so that what is raised finds the names as they are -/
structure BY (X : CD) (sts : List Stmt) (ρ : Rn) {σ τ : Type} (en : σ → Option Rn) (el : τ → Rn) (c : M (Fl σ τ)) : Prop where
  run : ∀ m R E, XA X ρ E → c m R E → SX X sts ρ m (EF en el R)
theorem by_ret (h : Ev X e ρ ce) : BY X (.Return (some e) pos :: rest) ρ en el (bnd ce rtM) := ⟨fun m R E xa k => s_cons (s_ret (h.run m _ E xa k))⟩
theorem by_nil {s : σ} {r : Rn} (h : en s = some r := by rfl) (l : Le r ρ) : BY X [] ρ en el (ret (.nx s)) := ⟨fun m R E _ k => s_nil ⟨s, r, h, l, k⟩⟩
theorem by_expr {k : M (Fl σ τ)} (h : Ev X e ρ ce) (hk : BY X rest ρ en el k) (hs : swapsWith e none pos.line X.env = pure false := by rfl) : BY X (.Expr e pos :: rest) ρ en el (bnd ce fun _ => k) := ⟨fun m R E xf q =>
  s_cons (s_expr ((h.run m _ E xf q).mono fun d m1 h1 => hk.run m1 R E xf h1) hs)⟩
theorem by_ifX {ca k : M (Fl σ τ)} (ht : Tv X t ρ ct) (ha : BY X A ρ (fun _ : σ => none) el ca) (hk : BY X rest ρ en el k) : BY X (.If t A [] pos :: rest) ρ en el (bnd ct fun b => iteM b ca k) := ⟨fun m R E xf q => by
  refine s_cons (s_if ((ht.run m _ E xf q).mono fun b m1 h1 => ⟨fun eb => ?_, fun eb => ?_⟩))
  · refine (ha.run m1 R E xf (h1.1 eb)).mono ?_ ?_ ?_ ?_
    · rintro ρ' m' ⟨s, r, e, l, h⟩
      cases e
    · exact fun d m' h => h
    · exact fun ρ' m' h => h
    · exact fun ρ' m' h => h
  · exact s_nil (hk.run m1 R E xf (h1.2 eb))⟩
theorem by_ifL {ca cb : M (Fl σ τ)} (ht : Tv X t ρ ct) (ha : BY X A ρ en el ca) (hb : BY X B ρ en el cb) : BY X [.If t A B pos] ρ en el (bnd ct fun b => iteM b ca cb) := ⟨fun m R E xf q => by
  refine s_cons (s_if ((ht.run m _ E xf q).mono fun b m1 h1 => ⟨fun eb => ?_, fun eb => ?_⟩))
  · exact (ha.run m1 R E xf (h1.1 eb)).mono (fun ρ' m' h => s_nil h) (fun d m' h => h) (fun ρ' m' h => h) fun ρ' m' h => h
  · exact (hb.run m1 R E xf (h1.2 eb)).mono (fun ρ' m' h => s_nil h) (fun d m' h => h) (fun ρ' m' h => h) fun ρ' m' h => h⟩
/-- the clause's suite returns -/
def noF (t : Empty) : Rn := nomatch t
def upF {σ τ : Type} : Fl Empty Empty → M (Fl σ τ)
  | .rt d => ret (.rt d)
  | _ => bad
def tryM {σ τ : Type} (cls : List (Str × Bool)) (cb : M (Fl σ τ)) (ch : Option (Str × D) → M (Fl Empty Empty)) : M (Fl σ τ) := fun m R E => cb m R (fun nm fd m2 => ∃ b, (nm, b) ∈ cls ∧ (b = true → bnd (ch fd) upF m2 R NoX) ∧ (b = false → E nm fd m2))
theorem bf_try {cls : List (Str × Bool)} {cb : M (Fl σ1 τ)} {ch : M (Fl Empty Empty)} {k : σ1 → M (Fl σ τ)} (hc : ∃ Cc, X.mg x = some (.ref Cc)) (hX : ∀ q ∈ cls, XM X.K X.mg q.1 x q.2)
    (hb : ∀ pn xe q, BY (X.tr pn xe q) body ρ (fun s => some (e1 s)) el cb) (hh : ∀ a oe pn, BF (X.suite a ((a, oe) :: pn)) (b₀ :: suite) ρ (fun _ : Empty => none) noF ch) (hk : ∀ s, BF X rest (e1 s) en el (k s))
    (hs : X.stack = X.env :: X.outer := by rfl) (hf : X.env.frame = some X.env.locals := by rfl) (hg : Gl X x := by rfl) (hdb : (x == ("__debug__" : Str)) = false := by decide) :
    BF X (.Try body [.ExceptHandler (some (.Name x np)) none (b₀ :: suite) pos'] [] [] pos :: rest) ρ en el (seqF (tryM cls cb fun _ => ch) k) := ⟨fun m R E xf q => by
  refine s_cons (s_try hc (fun pn xe => ?_) hs hf hg hdb)
  refine ((hb pn xe _).run m _ _ (fun nm fd m2 h => ?_) q).mono ?_ ?_ ?_ ?_
  · obtain ⟨b, hcl, h1, h2⟩ := h
    refine ⟨b, hX (nm, b) hcl, fun eb a oe pn => ?_, fun eb => xf ρ _ _ _ (h2 eb)⟩
    refine ((hh a oe pn).run m2 _ NoX (fun _ _ _ _ z => z.elim) (h1 eb)).mono ?_ ?_ ?_ ?_
    · rintro ρ' m' ⟨s, r, e, l, h⟩
      cases e
    · exact fun d m' h => h
    · rintro ρ' m' ⟨s, l, h⟩
      exact nomatch s
    · rintro ρ' m' ⟨s, l, h⟩
      exact nomatch s
  · rintro ρ' m' ⟨s, r, e, l, h⟩
    cases e
    exact ((hk s).run m' R E xf h).le l
  · exact fun d m' h => h
  · exact fun ρ' m' h => h
  · exact fun ρ' m' h => h⟩
theorem bf_tryAs {cls : List (Str × Bool)} {cb : M (Fl σ1 τ)} {ch : Option (Str × D) → M (Fl Empty Empty)} {k : σ1 → M (Fl σ τ)} {n : Str} (hc : ∃ Cc, X.mg x = some (.ref Cc)) (hX : ∀ q ∈ cls, XM X.K X.mg q.1 x q.2) (hi : SlotAt ρ i n) (hset : ∀ u, SetAt ρ i n u (ρd u))
    (hb : ∀ pn xe q, BY (X.tr pn xe q) body ρ (fun s => some (e1 s)) el cb) (hh : ∀ nm fd a dd oe pn, (nm, true) ∈ cls → SuOk X.K X.mg nm fd dd oe → BF (X.suite a ((a, oe) :: pn)) (b₀ :: suite) (ρd (ExD a fd dd)) (fun _ : Empty => none) noF (ch fd)) (hk : ∀ s, BF X rest (e1 s) en el (k s))
    (hs : X.stack = X.env :: X.outer := by rfl) (hf : X.env.frame = some X.env.locals := by rfl) (hln : X.env.kindOf n = some .local := by rfl) (hg : Gl X x := by rfl) (hdb : (x == ("__debug__" : Str)) = false := by decide) :
    BF X (.Try body [.ExceptHandler (some (.Name x np)) (some n) (b₀ :: suite) pos'] [] [] pos :: rest) ρ en el (seqF (tryM cls cb ch) k) := ⟨fun m R E xf q => by
  refine s_cons (s_tryAs hc hi (fun pn xe => ?_) hs hf hln hg hdb)
  refine ((hb pn xe _).run m _ _ (fun nm fd m2 h => ?_) q).mono ?_ ?_ ?_ ?_
  · obtain ⟨b, hcl, h1, h2⟩ := h
    refine ⟨b, hX (nm, b) hcl, fun eb a dd oe pn su => ⟨_, hset _, ?_⟩, fun eb => xf ρ _ _ _ (h2 eb)⟩
    subst eb
    refine ((hh nm fd a dd oe pn hcl su).run m2 _ NoX (fun _ _ _ _ z => z.elim) (h1 rfl)).mono ?_ ?_ ?_ ?_
    · rintro ρ' m' ⟨s, r, e, l, h⟩
      cases e
    · exact fun d m' h => h
    · rintro ρ' m' ⟨s, l, h⟩
      exact nomatch s
    · rintro ρ' m' ⟨s, l, h⟩
      exact nomatch s
  · rintro ρ' m' ⟨s, r, e, l, h⟩
    cases e
    exact ((hk s).run m' R E xf h).le l
  · exact fun d m' h => h
  · exact fun ρ' m' h => h
  · exact fun ρ' m' h => h⟩
/-- e.f in such a suite -/
def exfM (f : Str) (fd : Option (Str × D)) : M D := fun m R _ => ∃ v, fd = some (f, v) ∧ R v m
theorem ev_exf {a dd : Addr} {oe : Obj} {pn : List (Addr × Obj)} {fd : Option (Str × D)} {n : Str} (su : SuOk X.K X.mg nm fd dd oe) (T : ∀ C, X.mg nm = some (.ref C) → XfC X.K C ∧ PySem.W.findIn X.K (.ref C) f = some none)
    (hl : LookAt ρ i n (ExD a fd dd)) (hb : attributeBase (.Name n p) f X.env (eval (.Name n p) X.env) = eval (.Name n p) X.env := by rfl) (hv : Vis X.env.scope n := by first | exact Or.inl rfl | exact Or.inr (Or.inl rfl) | exact Or.inr (Or.inr rfl)) (hd : (n == ("__debug__" : Str)) = false := by decide)
    (hcd : (n == ("__classdict__" : Str)) = false := by decide) : Ev (X.suite a ((a, oe) :: pn)) (.Attribute (.Name n p) f pos) ρ (exfM f fd) := ⟨fun m R E xa ⟨v, e, h⟩ => by
  subst e
  exact x_exf su T (x_var hl ⟨rfl, h⟩ hv hd hcd) hb⟩
theorem ev_callP {spd : SpD} {a : Addr} {oe : Obj} {pn : List (Addr × Obj)} {cs : M (List D)} (G : KnowsP P w K mg base k x n spd) (hr : Room k X.A) (h : EvA (X.suite a ((a, oe) :: pn)) (e :: es) ρ cs) (hX : X.prog = P ∧ X.w = w ∧ X.K = K ∧ X.mg = mg ∧ X.base = base := by exact ⟨rfl, rfl, rfl, rfl, rfl⟩) (hg : Gl X x := by rfl)
    (hdb : (x == ("__debug__" : Str)) = false := by decide) (he : starEach (e :: es) X.env = (false, eval e X.env) :: starEach es X.env := by rfl) (hpl : (backTo pos (starEach es X.env)).any (·.1) = false := by rfl) :
    Ev (X.suite a ((a, oe) :: pn)) (.Call (.Name x p) (e :: es) [] pos) ρ (bnd cs fun ds m R _ => spd ds m R) := ⟨fun m R E xa q =>
  c_callP G hr (h.run m _ E xa q) hX hg hdb he hpl⟩
end

/-! ### defs -/
/-- what a def gives: its own lists of the ledger are forgotten -/
def fnR (m : Led) (R : D → Led → Prop) : Fl Unit Empty → Led → Prop
  | .rt d, m' => R d (m'.take m.length)
  | .nx _, m' => R .non (m'.take m.length)
  | _, _ => False
def fnM (c : M (Fl Unit Empty)) : M D := fun m R E => c m (fnR m R) fun nm fd m' => E nm fd (m'.take m.length)
/-- .. are kept -/
def fnRK (R : D → Led → Prop) : Fl Unit Empty → Led → Prop
  | .rt d, m' => R d m'
  | .nx _, m' => R .non m'
  | _, _ => False
def fnK (c : M (Fl Unit Empty)) : M D := fun m R E => c m (fnRK R) E
def sp1 (f : D → M D) : SpX := fun ds => match ds with
  | [a] => f a
  | _ => bad
def sp2 (f : D → D → M D) : SpX := fun ds => match ds with
  | [a, b] => f a b
  | _ => bad
def sp3 (f : D → D → D → M D) : SpX := fun ds => match ds with
  | [a, b, c] => f a b c
  | _ => bad
def sp4 (f : D → D → D → D → M D) : SpX := fun ds => match ds with
  | [a, b, c, d] => f a b c d
  | _ => bad
def sp5 (f : D → D → D → D → D → M D) : SpX := fun ds => match ds with
  | [a, b, c, d, e] => f a b c d e
  | _ => bad
def sp6 (f : D → D → D → D → D → D → M D) : SpX := fun ds => match ds with
  | [a, b, c, d, e, g] => f a b c d e g
  | _ => bad
def allN (N : List Str) (_ : Unit) : Option Rn := some (N.map fun x => (x, none))
theorem Le.all : ∀ {ρ : Rn} {N : List Str}, ρ.map (·.1) = N → Le (N.map fun x => (x, none)) ρ
  | [], _, h => by subst h; exact .nil
  | (x, o) :: r, _, h => by subst h; exact .drop (Le.all rfl)
section
variable {P : Program} {w : World} {K : Frag} {mg : Str → Option Value} {base : Heap} {x qual : Str} {st : Stmt} {f : Addr} {fd : FuncData} {dvs : List V} {N ps : List Str} {k : Nat}
/-- the context of a def's body -/
abbrev XD (P : Program) (w : World) (K : Frag) (mg : Str → Option Value) (base : Heap) (N : List Str) (qual : Str) (st : Stmt) (f : Addr) (cdv : Value) (A : Around) (outer : List PySem.Env) (s : Shared) (H : Hp) (E : XK) (XR : XR) : CD := ⟨cxOf (L2.CX P w) P w K mg base N qual (defScope st) f cdv A outer s H E, fun nm fd _ m2 => ∃ m3, m3.Sublist m2 ∧ XR nm fd m3⟩
theorem fn_ok {c : List D → M (Fl Unit Empty)} (n : Nat) (hn : ps.length = n) (F : FnD K x qual st dvs f fd) (S : FnScope N ps (defScope st))
    (body : ∀ (cdv : Value) (A : Around) (outer : List PySem.Env) (s : Shared) (H : Hp) (E : XK) (Z : XR), Room k (A.deeper (envOfC qual (defScope st) s.heap.objs.size f cdv)) → ∀ ds, ds.length = n → BF (XD P w K mg base N qual st f cdv A outer s H E Z) (defBody st) (startR N ds) (allN N) noF (c ds)) :
    FnOk P w K mg base (L2.CX P w) (k + 1) f fd ps (liftX K mg fun ds m R E => ds.length = n ∧ fnM (c ds) m R E) := by
  refine def_okD F S (fun ds m R E h => by rw [hn]; exact h.1) ?_
  intro cdv A outer s H E ds m R Z hr ⟨hl, h⟩
  refine ((body cdv A outer s H E Z hr ds hl).run m _ _ (fun ρ nm fd m2 h => ⟨_, List.take_sublist _ _, h⟩) h).mono ?_ ?_ ?_ ?_
  · rintro ρ' m' ⟨u, r, e, l, h⟩
    exact ⟨_, List.take_sublist _ _, h⟩
  · exact fun d m' h => ⟨_, List.take_sublist _ _, h⟩
  · rintro ρ' m' ⟨u, _⟩
    exact nomatch u
  · rintro ρ' m' ⟨u, _⟩
    exact nomatch u
theorem fn_okK {c : List D → M (Fl Unit Empty)} (n : Nat) (hn : ps.length = n) (F : FnD K x qual st dvs f fd) (S : FnScope N ps (defScope st))
    (body : ∀ (cdv : Value) (A : Around) (outer : List PySem.Env) (s : Shared) (H : Hp) (E : XK) (Z : XR), Room k (A.deeper (envOfC qual (defScope st) s.heap.objs.size f cdv)) → ∀ ds, ds.length = n → BF (XD P w K mg base N qual st f cdv A outer s H E Z) (defBody st) (startR N ds) (allN N) noF (c ds)) :
    FnOk P w K mg base (L2.CX P w) (k + 1) f fd ps (liftX K mg fun ds m R E => ds.length = n ∧ fnK (c ds) m R E) := by
  refine def_okD F S (fun ds m R E h => by rw [hn]; exact h.1) ?_
  intro cdv A outer s H E ds m R Z hr ⟨hl, h⟩
  refine ((body cdv A outer s H E Z hr ds hl).run m _ _ (fun ρ nm fd m2 h => ⟨_, List.Sublist.refl _, h⟩) h).mono ?_ ?_ ?_ ?_
  · rintro ρ' m' ⟨u, r, e, l, h⟩
    exact ⟨_, List.Sublist.refl _, h⟩
  · exact fun d m' h => ⟨_, List.Sublist.refl _, h⟩
  · rintro ρ' m' ⟨u, _⟩
    exact nomatch u
  · rintro ρ' m' ⟨u, _⟩
    exact nomatch u
theorem liftX_mono {sp sp' : SpX} (h : ∀ ds m R E, sp' ds m R E → sp ds m R E) (ok : FnOk P w K mg base (L2.CX P w) k f fd ps (liftX K mg sp)) : FnOk P w K mg base (L2.CX P w) k f fd ps (liftX K mg sp') :=
  ok.imp fun vs H Q E ⟨F, m, ds, R, XR, h1, h2, h3, h4⟩ => ⟨F, m, ds, R, XR, h1, h2, h _ _ _ _ h3, h4⟩
theorem fn1 {cf : D → M (Fl Unit Empty)} (F : FnD K x qual st dvs f fd) (S : FnScope N ps (defScope st))
    (body : ∀ (cdv : Value) (A : Around) (outer : List PySem.Env) (s : Shared) (H : Hp) (E : XK) (Z : XR), Room k (A.deeper (envOfC qual (defScope st) s.heap.objs.size f cdv)) → ∀ a, BF (XD P w K mg base N qual st f cdv A outer s H E Z) (defBody st) (startR N [a]) (allN N) noF (cf a)) (hn : ps.length = 1 := by rfl) :
    FnOk P w K mg base (L2.CX P w) (k + 1) f fd ps (liftX K mg (sp1 fun a => fnM (cf a))) := by
  refine liftX_mono (fun ds m R E h => ?_) (fn_ok (c := fun ds => match ds with | [a] => cf a | _ => bad) 1 hn F S fun cdv A outer s H E Z hr ds hl => ?_)
  · match ds, h with
    | [a], h => exact ⟨rfl, h⟩
  · match ds, hl with
    | [a], _ => exact body cdv A outer s H E Z hr a
theorem fk1 {cf : D → M (Fl Unit Empty)} (F : FnD K x qual st dvs f fd) (S : FnScope N ps (defScope st))
    (body : ∀ (cdv : Value) (A : Around) (outer : List PySem.Env) (s : Shared) (H : Hp) (E : XK) (Z : XR), Room k (A.deeper (envOfC qual (defScope st) s.heap.objs.size f cdv)) → ∀ a, BF (XD P w K mg base N qual st f cdv A outer s H E Z) (defBody st) (startR N [a]) (allN N) noF (cf a)) (hn : ps.length = 1 := by rfl) :
    FnOk P w K mg base (L2.CX P w) (k + 1) f fd ps (liftX K mg (sp1 fun a => fnK (cf a))) := by
  refine liftX_mono (fun ds m R E h => ?_) (fn_okK (c := fun ds => match ds with | [a] => cf a | _ => bad) 1 hn F S fun cdv A outer s H E Z hr ds hl => ?_)
  · match ds, h with
    | [a], h => exact ⟨rfl, h⟩
  · match ds, hl with
    | [a], _ => exact body cdv A outer s H E Z hr a
theorem fn2 {cf : D → D → M (Fl Unit Empty)} (F : FnD K x qual st dvs f fd) (S : FnScope N ps (defScope st))
    (body : ∀ (cdv : Value) (A : Around) (outer : List PySem.Env) (s : Shared) (H : Hp) (E : XK) (Z : XR), Room k (A.deeper (envOfC qual (defScope st) s.heap.objs.size f cdv)) → ∀ a b, BF (XD P w K mg base N qual st f cdv A outer s H E Z) (defBody st) (startR N [a, b]) (allN N) noF (cf a b)) (hn : ps.length = 2 := by rfl) :
    FnOk P w K mg base (L2.CX P w) (k + 1) f fd ps (liftX K mg (sp2 fun a b => fnM (cf a b))) := by
  refine liftX_mono (fun ds m R E h => ?_) (fn_ok (c := fun ds => match ds with | [a, b] => cf a b | _ => bad) 2 hn F S fun cdv A outer s H E Z hr ds hl => ?_)
  · match ds, h with
    | [a, b], h => exact ⟨rfl, h⟩
  · match ds, hl with
    | [a, b], _ => exact body cdv A outer s H E Z hr a b
theorem fk2 {cf : D → D → M (Fl Unit Empty)} (F : FnD K x qual st dvs f fd) (S : FnScope N ps (defScope st))
    (body : ∀ (cdv : Value) (A : Around) (outer : List PySem.Env) (s : Shared) (H : Hp) (E : XK) (Z : XR), Room k (A.deeper (envOfC qual (defScope st) s.heap.objs.size f cdv)) → ∀ a b, BF (XD P w K mg base N qual st f cdv A outer s H E Z) (defBody st) (startR N [a, b]) (allN N) noF (cf a b)) (hn : ps.length = 2 := by rfl) :
    FnOk P w K mg base (L2.CX P w) (k + 1) f fd ps (liftX K mg (sp2 fun a b => fnK (cf a b))) := by
  refine liftX_mono (fun ds m R E h => ?_) (fn_okK (c := fun ds => match ds with | [a, b] => cf a b | _ => bad) 2 hn F S fun cdv A outer s H E Z hr ds hl => ?_)
  · match ds, h with
    | [a, b], h => exact ⟨rfl, h⟩
  · match ds, hl with
    | [a, b], _ => exact body cdv A outer s H E Z hr a b
theorem fn3 {cf : D → D → D → M (Fl Unit Empty)} (F : FnD K x qual st dvs f fd) (S : FnScope N ps (defScope st))
    (body : ∀ (cdv : Value) (A : Around) (outer : List PySem.Env) (s : Shared) (H : Hp) (E : XK) (Z : XR), Room k (A.deeper (envOfC qual (defScope st) s.heap.objs.size f cdv)) → ∀ a b c, BF (XD P w K mg base N qual st f cdv A outer s H E Z) (defBody st) (startR N [a, b, c]) (allN N) noF (cf a b c)) (hn : ps.length = 3 := by rfl) :
    FnOk P w K mg base (L2.CX P w) (k + 1) f fd ps (liftX K mg (sp3 fun a b c => fnM (cf a b c))) := by
  refine liftX_mono (fun ds m R E h => ?_) (fn_ok (c := fun ds => match ds with | [a, b, c] => cf a b c | _ => bad) 3 hn F S fun cdv A outer s H E Z hr ds hl => ?_)
  · match ds, h with
    | [a, b, c], h => exact ⟨rfl, h⟩
  · match ds, hl with
    | [a, b, c], _ => exact body cdv A outer s H E Z hr a b c
theorem fk3 {cf : D → D → D → M (Fl Unit Empty)} (F : FnD K x qual st dvs f fd) (S : FnScope N ps (defScope st))
    (body : ∀ (cdv : Value) (A : Around) (outer : List PySem.Env) (s : Shared) (H : Hp) (E : XK) (Z : XR), Room k (A.deeper (envOfC qual (defScope st) s.heap.objs.size f cdv)) → ∀ a b c, BF (XD P w K mg base N qual st f cdv A outer s H E Z) (defBody st) (startR N [a, b, c]) (allN N) noF (cf a b c)) (hn : ps.length = 3 := by rfl) :
    FnOk P w K mg base (L2.CX P w) (k + 1) f fd ps (liftX K mg (sp3 fun a b c => fnK (cf a b c))) := by
  refine liftX_mono (fun ds m R E h => ?_) (fn_okK (c := fun ds => match ds with | [a, b, c] => cf a b c | _ => bad) 3 hn F S fun cdv A outer s H E Z hr ds hl => ?_)
  · match ds, h with
    | [a, b, c], h => exact ⟨rfl, h⟩
  · match ds, hl with
    | [a, b, c], _ => exact body cdv A outer s H E Z hr a b c
theorem fn4 {cf : D → D → D → D → M (Fl Unit Empty)} (F : FnD K x qual st dvs f fd) (S : FnScope N ps (defScope st))
    (body : ∀ (cdv : Value) (A : Around) (outer : List PySem.Env) (s : Shared) (H : Hp) (E : XK) (Z : XR), Room k (A.deeper (envOfC qual (defScope st) s.heap.objs.size f cdv)) → ∀ a b c d, BF (XD P w K mg base N qual st f cdv A outer s H E Z) (defBody st) (startR N [a, b, c, d]) (allN N) noF (cf a b c d)) (hn : ps.length = 4 := by rfl) :
    FnOk P w K mg base (L2.CX P w) (k + 1) f fd ps (liftX K mg (sp4 fun a b c d => fnM (cf a b c d))) := by
  refine liftX_mono (fun ds m R E h => ?_) (fn_ok (c := fun ds => match ds with | [a, b, c, d] => cf a b c d | _ => bad) 4 hn F S fun cdv A outer s H E Z hr ds hl => ?_)
  · match ds, h with
    | [a, b, c, d], h => exact ⟨rfl, h⟩
  · match ds, hl with
    | [a, b, c, d], _ => exact body cdv A outer s H E Z hr a b c d
theorem fk4 {cf : D → D → D → D → M (Fl Unit Empty)} (F : FnD K x qual st dvs f fd) (S : FnScope N ps (defScope st))
    (body : ∀ (cdv : Value) (A : Around) (outer : List PySem.Env) (s : Shared) (H : Hp) (E : XK) (Z : XR), Room k (A.deeper (envOfC qual (defScope st) s.heap.objs.size f cdv)) → ∀ a b c d, BF (XD P w K mg base N qual st f cdv A outer s H E Z) (defBody st) (startR N [a, b, c, d]) (allN N) noF (cf a b c d)) (hn : ps.length = 4 := by rfl) :
    FnOk P w K mg base (L2.CX P w) (k + 1) f fd ps (liftX K mg (sp4 fun a b c d => fnK (cf a b c d))) := by
  refine liftX_mono (fun ds m R E h => ?_) (fn_okK (c := fun ds => match ds with | [a, b, c, d] => cf a b c d | _ => bad) 4 hn F S fun cdv A outer s H E Z hr ds hl => ?_)
  · match ds, h with
    | [a, b, c, d], h => exact ⟨rfl, h⟩
  · match ds, hl with
    | [a, b, c, d], _ => exact body cdv A outer s H E Z hr a b c d
theorem fn5 {cf : D → D → D → D → D → M (Fl Unit Empty)} (F : FnD K x qual st dvs f fd) (S : FnScope N ps (defScope st))
    (body : ∀ (cdv : Value) (A : Around) (outer : List PySem.Env) (s : Shared) (H : Hp) (E : XK) (Z : XR), Room k (A.deeper (envOfC qual (defScope st) s.heap.objs.size f cdv)) → ∀ a b c d e, BF (XD P w K mg base N qual st f cdv A outer s H E Z) (defBody st) (startR N [a, b, c, d, e]) (allN N) noF (cf a b c d e)) (hn : ps.length = 5 := by rfl) :
    FnOk P w K mg base (L2.CX P w) (k + 1) f fd ps (liftX K mg (sp5 fun a b c d e => fnM (cf a b c d e))) := by
  refine liftX_mono (fun ds m R E h => ?_) (fn_ok (c := fun ds => match ds with | [a, b, c, d, e] => cf a b c d e | _ => bad) 5 hn F S fun cdv A outer s H E Z hr ds hl => ?_)
  · match ds, h with
    | [a, b, c, d, e], h => exact ⟨rfl, h⟩
  · match ds, hl with
    | [a, b, c, d, e], _ => exact body cdv A outer s H E Z hr a b c d e
theorem fk5 {cf : D → D → D → D → D → M (Fl Unit Empty)} (F : FnD K x qual st dvs f fd) (S : FnScope N ps (defScope st))
    (body : ∀ (cdv : Value) (A : Around) (outer : List PySem.Env) (s : Shared) (H : Hp) (E : XK) (Z : XR), Room k (A.deeper (envOfC qual (defScope st) s.heap.objs.size f cdv)) → ∀ a b c d e, BF (XD P w K mg base N qual st f cdv A outer s H E Z) (defBody st) (startR N [a, b, c, d, e]) (allN N) noF (cf a b c d e)) (hn : ps.length = 5 := by rfl) :
    FnOk P w K mg base (L2.CX P w) (k + 1) f fd ps (liftX K mg (sp5 fun a b c d e => fnK (cf a b c d e))) := by
  refine liftX_mono (fun ds m R E h => ?_) (fn_okK (c := fun ds => match ds with | [a, b, c, d, e] => cf a b c d e | _ => bad) 5 hn F S fun cdv A outer s H E Z hr ds hl => ?_)
  · match ds, h with
    | [a, b, c, d, e], h => exact ⟨rfl, h⟩
  · match ds, hl with
    | [a, b, c, d, e], _ => exact body cdv A outer s H E Z hr a b c d e
theorem fn6 {cf : D → D → D → D → D → D → M (Fl Unit Empty)} (F : FnD K x qual st dvs f fd) (S : FnScope N ps (defScope st))
    (body : ∀ (cdv : Value) (A : Around) (outer : List PySem.Env) (s : Shared) (H : Hp) (E : XK) (Z : XR), Room k (A.deeper (envOfC qual (defScope st) s.heap.objs.size f cdv)) → ∀ a b c d e g, BF (XD P w K mg base N qual st f cdv A outer s H E Z) (defBody st) (startR N [a, b, c, d, e, g]) (allN N) noF (cf a b c d e g)) (hn : ps.length = 6 := by rfl) :
    FnOk P w K mg base (L2.CX P w) (k + 1) f fd ps (liftX K mg (sp6 fun a b c d e g => fnM (cf a b c d e g))) := by
  refine liftX_mono (fun ds m R E h => ?_) (fn_ok (c := fun ds => match ds with | [a, b, c, d, e, g] => cf a b c d e g | _ => bad) 6 hn F S fun cdv A outer s H E Z hr ds hl => ?_)
  · match ds, h with
    | [a, b, c, d, e, g], h => exact ⟨rfl, h⟩
  · match ds, hl with
    | [a, b, c, d, e, g], _ => exact body cdv A outer s H E Z hr a b c d e g
theorem fk6 {cf : D → D → D → D → D → D → M (Fl Unit Empty)} (F : FnD K x qual st dvs f fd) (S : FnScope N ps (defScope st))
    (body : ∀ (cdv : Value) (A : Around) (outer : List PySem.Env) (s : Shared) (H : Hp) (E : XK) (Z : XR), Room k (A.deeper (envOfC qual (defScope st) s.heap.objs.size f cdv)) → ∀ a b c d e g, BF (XD P w K mg base N qual st f cdv A outer s H E Z) (defBody st) (startR N [a, b, c, d, e, g]) (allN N) noF (cf a b c d e g)) (hn : ps.length = 6 := by rfl) :
    FnOk P w K mg base (L2.CX P w) (k + 1) f fd ps (liftX K mg (sp6 fun a b c d e g => fnK (cf a b c d e g))) := by
  refine liftX_mono (fun ds m R E h => ?_) (fn_okK (c := fun ds => match ds with | [a, b, c, d, e, g] => cf a b c d e g | _ => bad) 6 hn F S fun cdv A outer s H E Z hr ds hl => ?_)
  · match ds, h with
    | [a, b, c, d, e, g], h => exact ⟨rfl, h⟩
  · match ds, hl with
    | [a, b, c, d, e, g], _ => exact body cdv A outer s H E Z hr a b c d e g
/-- the law's own def: nothing is raised -/
abbrev XL (P : Program) (w : World) (K : Frag) (mg : Str → Option Value) (base : Heap) (N : List Str) (qual : Str) (st : Stmt) (f : Addr) (cdv : Value) (A : Around) (outer : List PySem.Env) (s : Shared) (H : Hp) : CD := ⟨(cxOf CX0 P w K mg base N qual (defScope st) f cdv A outer s H E0).nox, fun _ _ _ _ => False⟩
theorem fn_law {cf : D → M (Fl Unit Empty)} (F : Fun K x qual st f fd) (S : FnScope N ps (defScope st))
    (body : ∀ (cdv : Value) (A : Around) (outer : List PySem.Env) (s : Shared) (H : Hp), Room k (A.deeper (envOfC qual (defScope st) s.heap.objs.size f cdv)) → ∀ a, BF (XL P w K mg base N qual st f cdv A outer s H) (defBody st) (startR N [a]) (allN N) noF (cf a)) (hn : ps.length = 1 := by rfl) :
    FnOk P w K mg base CX0 (k + 1) f fd ps (lift K fun ds m R => sp1 (fun a => fnM (cf a)) ds m R NoX) := by
  refine def_ok F S (fun ds m R h => ?_) ?_
  · rw [hn]
    match ds, h with
    | [a], _ => rfl
  · intro cdv A outer s H ds m R hr h
    match ds, h with
    | [a], h =>
      refine ((body cdv A outer s H hr a).run m _ NoX (fun _ _ _ _ z => z) h).mono ?_ ?_ ?_ ?_
      · rintro ρ' m' ⟨u, r, e, l, h⟩
        exact ⟨_, List.take_sublist _ _, h⟩
      · exact fun d m' h => ⟨_, List.take_sublist _ _, h⟩
      · rintro ρ' m' ⟨u, _⟩
        exact nomatch u
      · rintro ρ' m' ⟨u, _⟩
        exact nomatch u
theorem uH {k : Nat} {A : Around} (r : L2H.RoomH k A) : A.units + 64 < cLine := by have := r.un; omega
/-- a def called within an except suite -/
abbrev XH (P : Program) (w : World) (K : Frag) (mg : Str → Option Value) (base : Heap) (N : List Str) (qual : Str) (st : Stmt) (f : Addr) (cdv : Value) (A : Around) (outer : List PySem.Env) (s : Shared) (H : Hp) (p : Addr × Obj) : CD := ⟨(L2H.cxH CX0 P w K mg base N qual (defScope st) f cdv A outer s H E0 p).nox, fun _ _ _ _ => False⟩
theorem fp1 {cf : D → M (Fl Unit Empty)} (F : Fun K x qual st f fd) (S : FnScope N ps (defScope st)) (hm : mg x = some (.ref f)) (hb : Binds K fd ps [])
    (body : ∀ (cdv : Value) (A : Around) (outer : List PySem.Env) (s : Shared) (H : Hp) (p : Addr × Obj), L2H.RoomH k (A.deeper (envOfC qual (defScope st) s.heap.objs.size f cdv)) → ∀ a, BF (XH P w K mg base N qual st f cdv A outer s H p) (defBody st) (startR N [a]) (allN N) noF (cf a)) (hn : ps.length = 1 := by rfl) :
    KnowsP P w K mg base (k + 1) x 1 fun ds m R => sp1 (fun a => fnM (cf a)) ds m R NoX := by
  refine def_okP F S hn (fun ds m R h => ?_) hm hb ?_
  · match ds, h with
    | [a], _ => rfl
  · intro cdv A outer s H p ds m R hr h
    match ds, h with
    | [a], h =>
      refine ((body cdv A outer s H p hr a).run m _ NoX (fun _ _ _ _ z => z) h).mono ?_ ?_ ?_ ?_
      · rintro ρ' m' ⟨u, r, e, l, h⟩
        exact ⟨_, List.take_sublist _ _, h⟩
      · exact fun d m' h => ⟨_, List.take_sublist _ _, h⟩
      · rintro ρ' m' ⟨u, _⟩
        exact nomatch u
      · rintro ρ' m' ⟨u, _⟩
        exact nomatch u
end
end DL

namespace DL
open PySem PySem.Spec PySem.Calls PySem.W PyProof.Rows L2 RZ

/-! ### the end: what the top has left, put together -/
section
variable {P : Program} {w : World} {K : Frag} {mg : Str → Option Value} {base : Heap} {x qual : Str} {st : Stmt} {f : Addr} {fd : FuncData} {dvs : List V} {ps : List Str} {k n : Nat} {sp : SpX}
theorem knows0 (ok : FnOk P w K mg base (L2.CX P w) k f fd ps (liftX K mg sp)) (hm : mg x = some (.ref f)) (hk : keepIn K (.ref f) = true) (hb : Binds K fd ps []) (hl : ps.length = n := by rfl) : KnowsX P w K mg base k x n [] sp :=
  ⟨f, fd, ps, [], [], ok, hm, hk, hb, .nil, fun _ => .nil, hl⟩
theorem knowsD {dd : List D} (ok : FnOk P w K mg base (L2.CX P w) k f fd ps (liftX K mg sp)) (hm : mg x = some (.ref f)) (hk : keepIn K (.ref f) = true) (hb : ∃ ds, Vals dvs ds ∧ Binds K fd ps ds) (hd : ∀ F, Dens K F dvs dd) (hl : ps.length = n := by rfl) : KnowsX P w K mg base k x n dd sp := by
  obtain ⟨ds, hv, hb⟩ := hb
  exact ⟨f, fd, ps, ds, dvs, ok, hm, hk, hb, hv, hd, hl⟩
theorem KnowsP.mono {spd : SpD} {j : Nat} (h : KnowsP P w K mg base k x n spd) (hj : k ≤ j) : KnowsP P w K mg base j x n spd := by
  obtain ⟨f, fd, ps, FR, r⟩ := h.fn
  exact ⟨f, fd, ps, fun A outer s H args us vs Q E p hr => FR A outer s H args us vs Q E p (hr.mono hj), r⟩
/-- f(k = v, ..), every parameter named, f with defaults -/
theorem kb_all {ks : List Str} (F : FnD K x qual st dvs f fd) (g : {α : Type} → List α → List α) (hd : dvs ≠ []) (hrel : ∀ {zs : List V} {ws : List Value}, Vals zs ws → Vals (g zs) (g ws))
    (h : ∀ (T : Addr) (kV doc pm : Value) (an : Option Addr) (cdv ct : Value) (us its ws : List Value), us.length = 0 → its.length = dvs.length → ws.length = ks.length →
      ∃ k, bindArgs (PySem.W.fnOf x qual (defArgs st) (defBody st) (defScope st) (.ref T) kV doc pm an cdv ct) ⟨us, ks.zip ws⟩ = seqItems? (.ref T) >>= k ∧ k (some its.toArray) = pure (ps.zip (g ws))) :
    KBn K fd ps 0 ks (fun _ ws => g ws) (fun _ zs => g zs) := by
  obtain ⟨oc, od, dV, kV, doc, pm, an, cdv, ct, osl, rfl, lk, hcd, hD, hK⟩ := F.ex
  rcases hD with ⟨e, _⟩ | ⟨_, T, o, its, m, rfl, lT, oT, rT⟩
  · exact absurd e hd
  · refine ⟨fun s us ws X l1 l2 => ?_, fun r1 r2 => hrel r2⟩
    obtain ⟨k, e1, e2⟩ := h T kV doc pm an cdv ct us its ws l1 rT.length.symm l2
    refine BindsTo.of_looks fun M => ?_
    rw [e1]
    exact looks_items X lT oT (.of_pure e2)
theorem kb_all0 {ks : List Str} (F : FnD K x qual st [] f fd) (g : {α : Type} → List α → List α) (hrel : ∀ {zs : List V} {ws : List Value}, Vals zs ws → Vals (g zs) (g ws))
    (h : ∀ (kV doc pm : Value) (an : Option Addr) (cdv ct : Value) (us ws : List Value), us.length = 0 → ws.length = ks.length →
      bindArgs (PySem.W.fnOf x qual (defArgs st) (defBody st) (defScope st) .none kV doc pm an cdv ct) ⟨us, ks.zip ws⟩ = pure (ps.zip (g ws))) :
    KBn K fd ps 0 ks (fun _ ws => g ws) (fun _ zs => g zs) := by
  obtain ⟨oc, od, dV, kV, doc, pm, an, cdv, ct, osl, rfl, lk, hcd, hD, hK⟩ := F.ex
  rcases hD with ⟨_, rfl⟩ | ⟨e, _⟩
  · exact ⟨fun s us ws X l1 l2 => .of_eq (h kV doc pm an cdv ct us ws l1 l2), fun r1 r2 => hrel r2⟩
  · exact absurd rfl e
theorem knowsK {ks : List Str} {gD : List D → List D} {g : List Value → List Value → List Value} {gV : List V → List V → List V} (ok : FnOk P w K mg base (L2.CX P w) k f fd ps (liftX K mg sp)) (hm : mg x = some (.ref f)) (hk : keepIn K (.ref f) = true) (hb : KBn K fd ps 0 ks g gV)
    (hg : ∀ F zs ds, Dens K F zs ds → zs.length = ks.length → Dens K F (gV [] zs) (gD ds)) : KnowsK P w K mg base k x ks gD sp := ⟨f, fd, ps, g, gV, ok, hm, hk, hb, hg⟩
/-- a def with a closure (an __init__ that says super()) -/
abbrev fnC (name qual : Str) (st : Stmt) (cc cda : Addr) (kV doc pm : Value) (an : Option Addr) (ct : Value) : FuncData :=
  { name, qualname := qual, params := defArgs st, body := .stmts (defBody st), scope := defScope st, globals := mainGlobals, closure := [(("__class__" : Str), cc)], defaults := .none, kwdefaults := kV, doc, pyModule := pm, annotations := an, code := .ref cda, closureTuple := ct, builtins := builtinsNs }
theorem xin_mk {C fI cc cda N : Addr} {q nm qq : Str} {bs bm : List Value} {sn : List Str} {sub : List Value} {ab : Bool} {col : Option Bool} {dd : Option Addr} {k0 k1 k2 k3 k5 : Option Value} {kV doc pm ct oc ccl cl : Value} {an od cdd cld : Option Addr} {osl ccs csl : Array (Option Value)} {vs : Array Value} {file : Str} {tf : Tok}
    (lx : K.lookup C = some (excClassObj nm qq C N bs bm true sn sub ab col dd k0 k1 k2 k3 k5 "ValueError.__new__")) (rx : PySem.HandSPX.refsVE bm = true) (sx : findIn K (.ref C) "__setattr__" = some (some (.builtin "object.__setattr__")))
    (bx : subIn K (.ref C) (.type "BaseException") = some true) (tx : typeIn K (.ref C) = some (.type "type")) (kx : keepIn K (.ref C) = true) (ix : findIn K (.ref C) "__init__" = some (some (.ref fI))) (ux : typeIn K (.ref fI) = some (.type "function"))
    (fx : K.lookup fI = some ⟨oc, od, .func (fnC "__init__" q st cc cda kV doc pm an ct), osl⟩) (cx : codeIn K (.ref cda) q = true) (dx : K.lookup cda = some ⟨ccl, cdd, .fields vs, ccs⟩) (d2 : vs[2]? = some (.str file tf)) (d3 : ((P.main.file : Str) == file) = true)
    (ex : K.lookup cc = some ⟨cl, cld, .cell (some (.ref C)), csl⟩) (px : ks_superIn K C C "__init__" = some (some (.builtin "ValueError.__init__"))) (mx : mroIn K C (.ref C) = some true) (vx : subIn K (.ref C) (.type "ValueError") = some true)
    (qx : nsIn K cStatics "thirdparty.any" = some none) (ox : excInitIn K C [.type "ValueError", .type "Exception", .type "BaseException", .type "object"] "ValueError.__new__" = true) (zs : mg "super" = none) (tp : (P.main.scope.names.lookup ("super" : Str)).isSome = false) :
    XIn P K mg C fI cc cda q (fnC "__init__" q st cc cda kV doc pm an ct) :=
  { T := ⟨⟨nm, qq, N, bs, bm, sn, sub, ab, col, dd, k0, k1, k2, k3, k5, lx, rx⟩, sx, bx, tx, kx⟩, iC := ix, tI := ux, lf := ⟨oc, od, osl, fx⟩, lc := cx, fq := rfl, fc := rfl, fl := rfl, fg := rfl, fb := rfl, hcode := ⟨ccl, cdd, vs, ccs, file, tf, dx, d2, d3⟩, hcell := ⟨cl, cld, csl, ex⟩, sup := px, sub := mx, sVE := vx, opq := qx, exi := ox, mgs := zs, top := tp }
end
end DL

namespace DL
open PySem PySem.Spec PyProof.Rows L2 RZ
/-- a ratio as data -/
abbrev Q := Int × Int
@[reducible] def rat (q : Q) : D := .tup [.int q.1, .int q.2]
def Bd (n : Nat) (i : Int) : Prop := i.natAbs < 2 ^ n
theorem Bd.up {a b : Nat} {i : Int} (h : Bd a i) (hl : a ≤ b) : Bd b i := Nat.lt_of_lt_of_le h (Nat.pow_le_pow_right (by decide) hl)
theorem Bd.mulR {a b : Nat} {i j : Int} (h1 : Bd a i) (h2 : Bd b j) : Bd (a + b) (i * j) := wide_lt h1 h2
theorem Bd.addR {a b : Nat} {i j : Int} (h1 : Bd a i) (h2 : Bd b j) : Bd (max a b + 1) (i + j) := by
  have p1 : Bd (max a b) i := h1.up (Nat.le_max_left _ _)
  have p2 : Bd (max a b) j := h2.up (Nat.le_max_right _ _)
  unfold Bd at p1 p2 ⊢
  rw [Nat.pow_succ]
  omega
theorem Bd.subR {a b : Nat} {i j : Int} (h1 : Bd a i) (h2 : Bd b j) : Bd (max a b + 1) (i - j) := by
  have p1 : Bd (max a b) i := h1.up (Nat.le_max_left _ _)
  have p2 : Bd (max a b) j := h2.up (Nat.le_max_right _ _)
  unfold Bd at p1 p2 ⊢
  rw [Nat.pow_succ]
  omega
theorem Bd.negR {a : Nat} {i : Int} (h : Bd a i) : Bd a (-i) := by unfold Bd at h ⊢; omega
theorem Bd.lit (k : Nat) : Bd (k.log2 + 1) (OfNat.ofNat k : Int) := by
  unfold Bd
  exact Nat.lt_log2_self
theorem Bd.one : Bd 1 (1 : Int) := by unfold Bd; decide
theorem Bd.mul {a b : Nat} {i j : Int} (h1 : Bd a i) (h2 : Bd b j) (h : a + b ≤ 900000) : IntMulOk i j := by
  refine (CMulW.ok ?_)
  refine wide_mul (a := a + 1) (b := b + 1) ?_ ?_ (Nat.succ_pos _) (Nat.succ_pos _) (by omega)
  · exact Nat.lt_of_lt_of_le h1 (Nat.pow_le_pow_right (by decide) (Nat.le_succ _))
  · exact Nat.lt_of_lt_of_le h2 (Nat.pow_le_pow_right (by decide) (Nat.le_succ _))
theorem Bd.divG {a : Nat} {i j : Int} (h : Bd a j) (h0 : j ≠ 0) (ha : a ≤ 8000) : CDivG i j := by
  refine ⟨h0, ?_⟩
  have h1 : j.natAbs < 2 ^ (a + 1) := Nat.lt_of_lt_of_le h (Nat.pow_le_pow_right (by decide) (Nat.le_succ _))
  have := PySem.Flt.log2_lt_of (Nat.succ_pos _) h1
  omega
theorem Bd.divW {a : Nat} {i j : Int} (h : Bd a j) (h0 : 0 < j) (ha : a ≤ 8000) : CDivW i j := by
  refine ⟨h0, ?_⟩
  have h1 : j.natAbs < 2 ^ (a + 1) := Nat.lt_of_lt_of_le h (Nat.pow_le_pow_right (by decide) (Nat.le_succ _))
  have := PySem.Flt.log2_lt_of (Nat.succ_pos _) h1
  omega
/-- a ratio whose parts are below 2 ^ n -/
def Rb (n : Nat) (q : Q) : Prop := Bd n q.1 ∧ Bd n q.2
theorem map_get {α : Type} {f : α → D} {xs : List α} {i : Nat} {d : D} (h : (xs.map f)[i]? = some d) : ∃ x, xs[i]? = some x ∧ d = f x := by
  rw [List.getElem?_map] at h
  cases e : xs[i]? with
  | none => rw [e] at h; cases h
  | some x => rw [e] at h; exact ⟨x, rfl, (Option.some.inj h).symm⟩
theorem zip_get {α β : Type} {f : α → D} {g : β → D} : ∀ {xs : List α} {ys : List β} {i : Nat} {d : D}, (zipD (xs.map f) (ys.map g))[i]? = some d → ∃ x y, xs[i]? = some x ∧ ys[i]? = some y ∧ d = .tup [f x, g y]
  | [], _, _, _, h => by simp [zipD] at h
  | _ :: _, [], _, _, h => by simp [zipD] at h
  | x :: xs, y :: ys, 0, d, h => by simp [zipD] at h; exact ⟨x, y, rfl, rfl, h.symm⟩
  | x :: xs, y :: ys, i + 1, d, h => by
    obtain ⟨a, b, h1, h2, h3⟩ := zip_get (xs := xs) (ys := ys) (i := i) (d := d) (by simpa [zipD] using h)
    exact ⟨a, b, by simpa using h1, by simpa using h2, h3⟩
theorem range_get {lo : Int} {n i : Nat} {d : D} (h : (rangeD lo n)[i]? = some d) : i < n ∧ d = .int (lo + i) := by
  have hl : i < n := by
    have := (List.getElem?_eq_some_iff.mp h).1
    rw [rangeD_len] at this
    exact this
  rw [rangeD_get hl] at h
  exact ⟨hl, (Option.some.inj h).symm⟩
theorem drop_cons {α : Type} {xs : List α} {i : Nat} {x : α} (h : xs[i]? = some x) : xs.drop i = x :: xs.drop (i + 1) := by
  obtain ⟨hl, e⟩ := List.getElem?_eq_some_iff.mp h
  rw [List.drop_eq_getElem_cons hl, e]
theorem range0_get {n i : Nat} {d : D} (h : (rangeD 0 n)[i]? = some d) : i < n ∧ d = .int (i : Nat) := by
  obtain ⟨h1, h2⟩ := range_get h
  rw [Int.zero_add] at h2
  exact ⟨h1, h2⟩
theorem cutD_take {ds : List D} {k : Nat} (h : k ≤ ds.length) : DL.cutD ds none (some (k : Int)) = ds.take k := by
  unfold DL.cutD
  rw [HT.sIx_none, HT.sIx_nat, Nat.min_eq_left h, Nat.sub_zero]
  rfl
theorem nb_int (n : Nat) (i : Int) : NB n (.int i) := by cases n <;> trivial
theorem nb_lst {α : Type} {f : α → D} {n : Nat} {xs : List α} (h : ∀ x ∈ xs, NB n (f x)) : NB (n + 1) (.lst (xs.map f)) := fun x hx => by
  obtain ⟨a, ha, rfl⟩ := List.mem_map.mp hx
  exact h a ha
theorem nb_tup {α : Type} {f : α → D} {n : Nat} {xs : List α} (h : ∀ x ∈ xs, NB n (f x)) : NB (n + 1) (.tup (xs.map f)) := fun x hx => by
  obtain ⟨a, ha, rfl⟩ := List.mem_map.mp hx
  exact h a ha
theorem nb_rat (n : Nat) (q : Q) : NB (n + 1) (rat q) := fun x hx => by
  simp only [List.mem_cons, List.not_mem_nil, or_false] at hx
  rcases hx with rfl | rfl <;> exact nb_int n _
theorem nb_rats (n : Nat) (r : List Q) : NB (n + 2) (.lst (r.map rat)) := nb_lst fun q _ => nb_rat n q
/-- the greatest common divisor of a list -/
def gL (ns : List Int) : Nat := ns.foldl (fun g n => Nat.gcd n.natAbs g) 0
/-- lowest terms, the bottom above 0 -/
def Nf (q : Q) : Prop := 0 < q.2 ∧ Int.gcd q.1 q.2 = 1
def piece (u d : Int) : Int := if d < 0 then -(Int.gcd u d : Int) else (Int.gcd u d : Int)
def mkQ (u d : Int) : Q := (u.fdiv (piece u d), d.fdiv (piece u d))
theorem gL2 (u d : Int) : gL [u, d] = Int.gcd u d := by
  show Nat.gcd d.natAbs (Nat.gcd u.natAbs 0) = Int.gcd u d
  rw [Nat.gcd_zero_right, Nat.gcd_comm]
  rfl
theorem gcd_pos {u d : Int} (h : d ≠ 0) : 0 < Int.gcd u d := by
  rcases Nat.eq_zero_or_pos (Int.gcd u d) with e | e
  · exact absurd (Int.gcd_eq_zero_iff.mp e).2 h
  · exact e
theorem piece_ne {u d : Int} (h : d ≠ 0) : piece u d ≠ 0 := by
  have := gcd_pos (u := u) h
  unfold piece
  split <;> omega
theorem piece_bd {u d : Int} {n : Nat} (h : d ≠ 0) (hb : Bd n d) : Bd n (piece u d) := by
  have h1 : Int.gcd u d ∣ d.natAbs := Nat.gcd_dvd_right _ _
  have h2 := Nat.le_of_dvd (by omega) h1
  unfold Bd at hb ⊢
  have : (piece u d).natAbs = Int.gcd u d := by unfold piece; split <;> simp
  rw [this]
  omega
theorem mkQ_spec {u d : Int} (h : d ≠ 0) : ∃ p : Int, p = piece u d ∧ p ≠ 0 ∧ u = (mkQ u d).1 * p ∧ d = (mkQ u d).2 * p ∧ 0 < (mkQ u d).2 ∧ Int.gcd (mkQ u d).1 (mkQ u d).2 = 1 := by
  have hp := piece_ne (u := u) h
  have hg := gcd_pos (u := u) h
  have d1 : (Int.gcd u d : Int) ∣ u := Int.gcd_dvd_left ..
  have d2 : (Int.gcd u d : Int) ∣ d := Int.gcd_dvd_right ..
  have e1 : piece u d ∣ u := by unfold piece; split; exact Int.neg_dvd.mpr d1; exact d1
  have e2 : piece u d ∣ d := by unfold piece; split; exact Int.neg_dvd.mpr d2; exact d2
  have f1 : u = (mkQ u d).1 * piece u d := by
    show u = u.fdiv (piece u d) * piece u d
    rw [Int.fdiv_eq_ediv_of_dvd e1, Int.ediv_mul_cancel e1]
  have f2 : d = (mkQ u d).2 * piece u d := by
    show d = d.fdiv (piece u d) * piece u d
    rw [Int.fdiv_eq_ediv_of_dvd e2, Int.ediv_mul_cancel e2]
  refine ⟨_, rfl, hp, f1, f2, ?_, ?_⟩
  · rcases Int.lt_or_le 0 (mkQ u d).2 with q | q
    · exact q
    · exfalso
      by_cases hd : d < 0
      · have : piece u d < 0 := by unfold piece; rw [if_pos hd]; omega
        have := Int.mul_nonneg_of_nonpos_of_nonpos q (Int.le_of_lt this)
        omega
      · have : 0 < piece u d := by unfold piece; rw [if_neg hd]; omega
        have := Int.mul_nonpos_of_nonpos_of_nonneg q (Int.le_of_lt this)
        omega
  · have hn : (piece u d).natAbs = Int.gcd u d := by unfold piece; split <;> simp
    have k : Int.gcd u d = Int.gcd (mkQ u d).1 (mkQ u d).2 * (piece u d).natAbs := by
      have k0 : Int.gcd u d = Int.gcd ((mkQ u d).1 * piece u d) ((mkQ u d).2 * piece u d) := by rw [← f1, ← f2]
      rw [Int.gcd_mul_right] at k0
      exact k0
    rw [hn] at k
    have : 1 * Int.gcd u d = Int.gcd (mkQ u d).1 (mkQ u d).2 * Int.gcd u d := by rw [Nat.one_mul]; exact k
    exact (Nat.eq_of_mul_eq_mul_right hg this).symm
theorem mkQ_nf {u d : Int} (h : d ≠ 0) : Nf (mkQ u d) := by
  obtain ⟨p, _, _, _, _, h1, h2⟩ := mkQ_spec (u := u) h
  exact ⟨h1, h2⟩
theorem mkQ_cross {u d : Int} (h : d ≠ 0) : (mkQ u d).1 * d = u * (mkQ u d).2 := by
  obtain ⟨p, _, _, e1, e2, _, _⟩ := mkQ_spec (u := u) h
  generalize hq : mkQ u d = q at *
  rw [e1, e2]
  simp only [Int.mul_assoc, Int.mul_comm, Int.mul_left_comm]
theorem natAbs_le_mul {a p : Int} (hp : p ≠ 0) : a.natAbs ≤ (a * p).natAbs := by
  rw [Int.natAbs_mul]
  exact Nat.le_mul_of_pos_right _ (by omega)
theorem mkQ_bd {u d : Int} {n k : Nat} (h : d ≠ 0) (hu : Bd n u) (hd : Bd k d) : Bd n (mkQ u d).1 ∧ Bd k (mkQ u d).2 := by
  obtain ⟨p, _, hp, e1, e2, _, _⟩ := mkQ_spec (u := u) h
  constructor
  · have := natAbs_le_mul (a := (mkQ u d).1) hp
    rw [← e1] at this
    exact Nat.lt_of_le_of_lt this hu
  · have := natAbs_le_mul (a := (mkQ u d).2) hp
    rw [← e2] at this
    exact Nat.lt_of_le_of_lt this hd
theorem mkQ_rb {u d : Int} {n : Nat} (h : d ≠ 0) (hu : Bd n u) (hd : Bd n d) : Rb n (mkQ u d) := mkQ_bd h hu hd
/-- lowest terms are unique -/
theorem nf_unique {p q : Q} (hp : Nf p) (hq : Nf q) (h : p.1 * q.2 = q.1 * p.2) : p = q := by
  obtain ⟨a, b⟩ := p
  obtain ⟨c, d⟩ := q
  simp only [Nf] at hp hq h
  have h1 : d.natAbs ∣ b.natAbs := by
    have e : c.natAbs * b.natAbs = a.natAbs * d.natAbs := by rw [← Int.natAbs_mul, ← Int.natAbs_mul, h]
    have dv : d.natAbs ∣ c.natAbs * b.natAbs := by rw [e]; exact Nat.dvd_mul_left _ _
    have cop : Nat.Coprime d.natAbs c.natAbs := by rw [Nat.coprime_comm]; exact hq.2
    exact cop.dvd_of_dvd_mul_left dv
  have h2 : b.natAbs ∣ d.natAbs := by
    have e : c.natAbs * b.natAbs = a.natAbs * d.natAbs := by rw [← Int.natAbs_mul, ← Int.natAbs_mul, h]
    have dv : b.natAbs ∣ a.natAbs * d.natAbs := by rw [← e]; exact Nat.dvd_mul_left _ _
    have cop : Nat.Coprime b.natAbs a.natAbs := by rw [Nat.coprime_comm]; exact hp.2
    exact cop.dvd_of_dvd_mul_left dv
  have e : b.natAbs = d.natAbs := Nat.dvd_antisymm h2 h1
  have ebd : b = d := by omega
  subst ebd
  have : a = c := Int.eq_of_mul_eq_mul_right (by omega) h
  rw [this]
def lowL (ns : List Int) : List Int := if gL ns = 0 then ns else ns.map fun n => n.fdiv (gL ns : Nat)
theorem gL_bd {ns : List Int} {n : Nat} (h : ∀ x ∈ ns, Bd n x) : Bd n ((gL ns : Nat) : Int) := by
  have key : ∀ (l : List Int) (g : Nat), (∀ x ∈ l, Bd n x) → g < 2 ^ n → l.foldl (fun g n => Nat.gcd n.natAbs g) g < 2 ^ n := by
    intro l
    induction l with
    | nil => intro g _ hg; exact hg
    | cons x l ih =>
      intro g hx hg
      refine ih _ (fun y hy => hx y (List.mem_cons_of_mem _ hy)) ?_
      rcases Nat.eq_zero_or_pos g with z | z
      · subst z
        show Nat.gcd x.natAbs 0 < 2 ^ n
        rw [Nat.gcd_zero_right]
        exact hx x List.mem_cons_self
      · exact Nat.lt_of_le_of_lt (Nat.le_of_dvd z (Nat.gcd_dvd_right _ _)) hg
  unfold Bd
  rw [Int.natAbs_natCast]
  exact key ns 0 h (Nat.pow_pos (by decide))

def plusQ (p q : Q) : Q := mkQ (p.1 * q.2 + q.1 * p.2) (p.2 * q.2)
def minusQ (p q : Q) : Q := mkQ (p.1 * q.2 - q.1 * p.2) (p.2 * q.2)
def timesQ (p q : Q) : Q := mkQ (p.1 * q.1) (p.2 * q.2)
def cmpR (p q : Q) : Int := (if p.1 * q.2 > q.1 * p.2 then 1 else 0) - (if p.1 * q.2 < q.1 * p.2 then 1 else 0)
@[reducible] def poolO (at_ cur : Int) (ns : List Int) : MO := .lst [.int at_, .int cur, .lst (ns.map D.int)]

/-! ### rules about mirrors -/
section
variable {m : Led} {E : XR}
theorem atI_0 {α : Type} {a : α} {t : List α} : atI (a :: t) 0 = some a := atI_nat (j := 0) rfl
theorem atI_1 {α : Type} {a b : α} {t : List α} : atI (a :: b :: t) 1 = some b := atI_nat (j := 1) rfl
theorem atI_2 {α : Type} {a b c : α} {t : List α} : atI (a :: b :: c :: t) 2 = some c := atI_nat (j := 2) rfl
theorem atI_3 {α : Type} {a b c d : α} {t : List α} : atI (a :: b :: c :: d :: t) 3 = some d := atI_nat (j := 3) rfl
theorem ixL {ds : List D} {i : Int} {x : D} {R : D → Led → Prop} (h : atI ds i = some x) : ixM (.lst ds) (.int i) m R E = R x m := by
  apply propext
  constructor
  · rintro ⟨y, h', r⟩
    rw [h] at h'
    cases h'
    exact r
  · exact fun r => ⟨x, h, r⟩
theorem ixT {ds : List D} {i : Int} {x : D} {R : D → Led → Prop} (h : atI ds i = some x) : ixM (.tup ds) (.int i) m R E = R x m := by
  apply propext
  constructor
  · rintro ⟨y, h', r⟩
    rw [h] at h'
    cases h'
    exact r
  · exact fun r => ⟨x, h, r⟩
theorem ixT0 {a : D} {t : List D} {R : D → Led → Prop} : ixM (.tup (a :: t)) (.int 0) m R E = R a m := ixT atI_0
theorem ixT1 {a b : D} {t : List D} {R : D → Led → Prop} : ixM (.tup (a :: b :: t)) (.int 1) m R E = R b m := ixT atI_1
theorem ixT2 {a b c : D} {t : List D} {R : D → Led → Prop} : ixM (.tup (a :: b :: c :: t)) (.int 2) m R E = R c m := ixT atI_2
theorem ixL0 {a : D} {t : List D} {R : D → Led → Prop} : ixM (.lst (a :: t)) (.int 0) m R E = R a m := ixL atI_0
theorem ixL1 {a b : D} {t : List D} {R : D → Led → Prop} : ixM (.lst (a :: b :: t)) (.int 1) m R E = R b m := ixL atI_1
theorem ixL2 {a b c : D} {t : List D} {R : D → Led → Prop} : ixM (.lst (a :: b :: c :: t)) (.int 2) m R E = R c m := ixL atI_2
theorem eqD_int {i j : Int} : eqD (.int i) (.int j) = decide (i = j) := by
  simp only [eqD, py, PyData.eqv]
  by_cases h : i = j
  · subst h; simp
  · simp [h]
theorem eqB_int {i j : Int} {R : Bool → Led → Prop} : eqB (.int i) (.int j) m R E = R (decide (i = j)) m := by
  have e : eqD (.int i) (.int j) = decide (i = j) := eqD_int
  apply propext
  constructor
  · rintro ⟨a, b, h1, h2, _, _, r⟩
    cases h1
    cases h2
    rw [e] at r
    exact r
  · intro r
    exact ⟨_, _, .now _, .now _, trivial, trivial, by rw [e]; exact r⟩
theorem neB_int {i j : Int} {R : Bool → Led → Prop} : neB (.int i) (.int j) m R E = R (!decide (i = j)) m := by
  have e : eqD (.int i) (.int j) = decide (i = j) := eqD_int
  apply propext
  constructor
  · rintro ⟨a, b, h1, h2, _, _, r⟩
    cases h1
    cases h2
    rw [e] at r
    exact r
  · intro r
    exact ⟨_, _, .now _, .now _, trivial, trivial, by rw [e]; exact r⟩
/-- == of data without bools -/
theorem eqB_d {a b : D} {R : Bool → Led → Prop} (ha : NB 20 a) (hb : NB 20 b) (k : ∀ t : Bool, (t = true ↔ a = b) → R t m) : eqB a b m R E := ⟨a, b, .now _, .now _, ha.sh, hb.sh, k _ (eqv_iff 20 20 _ _ ha hb)⟩
theorem neB_d {a b : D} {R : Bool → Led → Prop} (ha : NB 20 a) (hb : NB 20 b) (k : ∀ t : Bool, (t = true ↔ a = b) → R (!t) m) : neB a b m R E := ⟨a, b, .now _, .now _, ha.sh, hb.sh, k _ (eqv_iff 20 20 _ _ ha hb)⟩
theorem eqB_w {a b a' b' : D} {R : Bool → Led → Prop} (h1 : DW m a a') (h2 : DW m b b') (ha : NB 20 a') (hb : NB 20 b') (k : ∀ t : Bool, (t = true ↔ a' = b') → R t m) : eqB a b m R E := ⟨a', b', h1, h2, ha.sh, hb.sh, k _ (eqv_iff 20 20 _ _ ha hb)⟩
theorem neB_w {a b a' b' : D} {R : Bool → Led → Prop} (h1 : DW m a a') (h2 : DW m b b') (ha : NB 20 a') (hb : NB 20 b') (k : ∀ t : Bool, (t = true ↔ a' = b') → R (!t) m) : neB a b m R E := ⟨a', b', h1, h2, ha.sh, hb.sh, k _ (eqv_iff 20 20 _ _ ha hb)⟩
theorem truB_int {i : Int} {R : Bool → Led → Prop} : truB (.int i) m R E = R (i != 0) m := by
  apply propext
  constructor
  · rintro ⟨k, h, r⟩
    cases h
    exact r
  · exact fun r => ⟨_, rfl, r⟩
theorem truB_bl {i : Bool} {R : Bool → Led → Prop} : truB (.bl i) m R E = R i m := by
  apply propext
  constructor
  · rintro ⟨k, h, r⟩
    cases h
    exact r
  · exact fun r => ⟨_, rfl, r⟩
theorem andM_bl {c : M D} {k : Bool} {R : D → Led → Prop} : andM c (.bl k) m R E = ((k = true → c m R E) ∧ (k = false → R (.bl false) m)) := by
  apply propext
  constructor
  · rintro ⟨j, h, r⟩
    cases h
    exact r
  · exact fun r => ⟨_, rfl, r⟩
theorem orM_bl {c : M D} {k : Bool} {R : D → Led → Prop} : orM c (.bl k) m R E = ((k = true → R (.bl true) m) ∧ (k = false → c m R E)) := by
  apply propext
  constructor
  · rintro ⟨j, h, r⟩
    cases h
    exact r
  · exact fun r => ⟨_, rfl, r⟩
theorem notM_bl {k : Bool} {R : D → Led → Prop} : notM (.bl k) m R E = R (.bl (!k)) m := by
  apply propext
  constructor
  · rintro ⟨j, h, r⟩
    cases h
    exact r
  · exact fun r => ⟨_, rfl, r⟩
theorem ut2_t {α : Type} {a b : D} {k : D → D → M α} {R : α → Led → Prop} : ut2 (.tup [a, b]) k m R E = k a b m R E := by
  apply propext
  constructor
  · rintro ⟨x, y, h, r⟩
    cases h
    exact r
  · exact fun r => ⟨a, b, rfl, r⟩
theorem un2_t {a b : D} {k : D → D → M (Option D)} {R : Option D → Led → Prop} : un2 (.tup [a, b]) k m R E = k a b m R E := by
  apply propext
  constructor
  · rintro ⟨x, y, h, r⟩
    cases h
    exact r
  · exact fun r => ⟨a, b, rfl, r⟩
theorem mkT_2 {a b : D} {R : D → Led → Prop} : mkT [a, b] m R E = R (.tup [a, b]) m := by
  apply propext
  exact ⟨fun h => h.2, fun h => ⟨by simp, h⟩⟩
theorem mkL_n {ds : List D} {R : D → Led → Prop} (h : ds.length ≤ 100000) : mkL ds m R E = R (.lst ds) m := propext ⟨fun h => h.2, fun k => ⟨h, k⟩⟩
theorem mkT_n {ds : List D} {R : D → Led → Prop} (h : ds.length ≤ 100000) : mkT ds m R E = R (.tup ds) m := propext ⟨fun h => h.2, fun k => ⟨h, k⟩⟩
/-- a comprehension whose turns change nothing -/
theorem comp_map {α : Type} {f : D → M (Option D)} {e : α → D} {g : α → D} {R : List D → Led → Prop} : ∀ (xs : List α) (acc : List D), (∀ x ∈ xs, ∀ Q : Option D → Led → Prop, Q (some (g x)) m → f (e x) m Q NoX) → acc.length + xs.length ≤ 100000 → R (acc ++ xs.map g) m → compM f (xs.map e) acc m R E
  | [], acc, _, _, h => by simp at h; exact h
  | x :: xs, acc, hf, hl, h => by
    refine hf x List.mem_cons_self _ ⟨by simp at hl; omega, ?_⟩
    refine comp_map xs (acc ++ [g x]) (fun y hy => hf y (List.mem_cons_of_mem _ hy)) (by simp at hl ⊢; omega) ?_
    simpa using h
theorem comp_filter {α : Type} {f : D → M (Option D)} {e : α → D} {g : α → D} {p : α → Bool} {R : List D → Led → Prop} : ∀ (xs : List α) (acc : List D), (∀ x ∈ xs, ∀ Q : Option D → Led → Prop, (p x = true → Q (some (g x)) m) → (p x = false → Q none m) → f (e x) m Q NoX) → acc.length + xs.length ≤ 100000 → R (acc ++ (xs.filter p).map g) m → compM f (xs.map e) acc m R E
  | [], acc, _, _, h => by simp at h; exact h
  | x :: xs, acc, hf, hl, h => by
    refine hf x List.mem_cons_self _ (fun hp => ⟨by simp at hl; omega, ?_⟩) (fun hp => ?_)
    · refine comp_filter xs (acc ++ [g x]) (fun y hy => hf y (List.mem_cons_of_mem _ hy)) (by simp at hl ⊢; omega) ?_
      rw [List.filter_cons_of_pos hp] at h
      simpa using h
    · refine comp_filter xs acc (fun y hy => hf y (List.mem_cons_of_mem _ hy)) (by simp at hl ⊢; omega) ?_
      rw [List.filter_cons_of_neg (by simp [hp])] at h
      exact h
theorem comp_ind {α : Type} {f : D → M (Option D)} {e : α → D} {R : List D → Led → Prop} (I : List α → List D → Led → Prop) (hs : ∀ x xs acc m, I (x :: xs) acc m → ∀ Q : Option D → Led → Prop, (∀ z m', acc.length < 100000 → I xs (acc ++ [z]) m' → Q (some z) m') → (∀ m', I xs acc m' → Q none m') → acc.length < 100000 ∧ f (e x) m Q NoX) (he : ∀ acc m, I [] acc m → R acc m) :
    ∀ (xs : List α) (acc : List D) (m : Led), I xs acc m → compM f (xs.map e) acc m R E
  | [], acc, m, h => he acc m h
  | x :: xs, acc, m, h => (hs x xs acc m h _ (fun z m' hl h' => ⟨hl, comp_ind I hs he xs _ m' h'⟩) (fun m' h' => comp_ind I hs he xs acc m' h')).2
/-- a for loop by an invariant over the items that are left -/
theorem for_ind {α σ τ : Type} {f : D → σ → M (Fl σ σ)} {e : α → D} {R : Fl σ τ → Led → Prop} (I : List α → σ → Led → Prop) (hs : ∀ x xs s m, I (x :: xs) s m → ∀ Q : Fl σ σ → Led → Prop, (∀ s' m', I xs s' m' → Q (.nx s') m') → (∀ d m', R (.rt d) m' → Q (.rt d) m') → (∀ s' m', R (.nx s') m' → Q (.bk s') m') → f (e x) s m Q E) (he : ∀ s m, I [] s m → R (.nx s) m) :
    ∀ (xs : List α) (s : σ) (m : Led), I xs s m → forF f (xs.map e) s m R E
  | [], s, m, h => he s m h
  | x :: xs, s, m, h => hs x xs s m h _ (fun s' m' h' => for_ind I hs he xs s' m' h') (fun d m' h' => h') (fun s' m' h' => h')
theorem for_fold {α β σ τ : Type} {f : D → σ → M (Fl σ σ)} {e : α → D} {enc : β → σ} {step : β → α → β} {R : Fl σ τ → Led → Prop} : ∀ (xs : List α) (b : β), (∀ x ∈ xs, ∀ (b : β) (Q : Fl σ σ → Led → Prop), Q (.nx (enc (step b x))) m → f (e x) (enc b) m Q E) → R (.nx (enc (xs.foldl step b))) m → forF f (xs.map e) (enc b) m R E
  | [], b, _, h => h
  | x :: xs, b, hf, h => hf x List.mem_cons_self b _ (for_fold xs (step b x) (fun y hy => hf y (List.mem_cons_of_mem _ hy)) h)
theorem while_ind {σ τ : Type} {t : σ → M Bool} {f : σ → M (Fl σ σ)} {R : Fl σ τ → Led → Prop} (W : Nat → σ → Led → Prop) (hs : ∀ n s m, W n s m → ∀ Q : Bool → Led → Prop, (∀ m', (∀ Q : Fl σ σ → Led → Prop, (∀ s' m' n', n' < n → W n' s' m' → Q (.nx s') m') → f s m' Q E) → Q true m') → (∀ m', R (.nx s) m' → Q false m') → t s m Q E) (n : Nat) (s : σ) (m : Led) (h : W n s m) : whileF t f s m R E := by
  have key : ∀ (j n : Nat), n < j → ∀ s m, W n s m → whileN (τ := τ) t f j s m R E := by
    intro j
    induction j with
    | zero => intro n hn; exact absurd hn (Nat.not_lt_zero _)
    | succ j ih =>
      intro n hn s m hw
      refine hs n s m hw _ (fun m' hf => ⟨fun _ => ?_, fun z => (nomatch z)⟩) (fun m' hr => ⟨fun z => (nomatch z), fun _ => hr⟩)
      exact hf _ fun s' m' n' hn' hw' => ih n' (Nat.lt_of_lt_of_le hn' (Nat.le_of_lt_succ hn)) s' m' hw'
  exact ⟨n + 1, key (n + 1) n (Nat.lt_succ_self n) s m h⟩
end
end DL

namespace DL
open PySem PySem.Spec PyProof.Rows L2 RZ
/-! ### steps of a mirror, from the head -/
section
variable {α β σ σ' τ : Type} {m m' : Led} {E : XR} {RD : D → Led → Prop} {RB : Bool → Led → Prop} {RL : List D → Led → Prop} {d x y a b : D} {i j : Int} {ds es : List D}
theorem ret_i {a : α} {R : α → Led → Prop} (h : R a m) : ret a m R E := h
theorem bnd_i {c : M α} {k : α → M β} {R : β → Led → Prop} (h : c m (fun a m' => k a m' R E) E) : bnd c k m R E := h
theorem rtM_i {R : Fl σ τ → Led → Prop} (h : R (.rt d) m) : rtM d m R E := h
theorem fnM_i {c : M (Fl Unit Empty)} (h : c m (fnR m RD) fun nm fd m' => E nm fd (m'.take m.length)) : fnM c m RD E := h
theorem fnK_i {c : M (Fl Unit Empty)} (h : c m (fnRK RD) E) : fnK c m RD E := h
theorem fnRK_i (h : RD d m) : fnRK RD (.rt d) m := h
theorem fnR_same (h : RD d m) : fnR m RD (.rt d) m := by show RD d (m.take m.length); rw [List.take_length]; exact h
theorem fnR_len (e : m'.length = m.length) (h : RD d m') : fnR m RD (.rt d) m' := by show RD d (m'.take m.length); rw [← e, List.take_length]; exact h
theorem fnR_app {l : Led} (h : RD d m) : fnR m RD (.rt d) (m ++ l) := by show RD d ((m ++ l).take m.length); rw [List.take_left']; exact h; rfl
theorem fnR_nx (h : RD .non m) : fnR m RD (.nx ()) m := by show RD .non (m.take m.length); rw [List.take_length]; exact h
theorem fnR_rt (h : RD d (m'.take m.length)) : fnR m RD (.rt d) m' := h
theorem seqF_i {c : M (Fl σ τ)} {k : σ → M (Fl σ' τ)} {R : Fl σ' τ → Led → Prop} (h : c m (fun a m' => seqK k a m' R E) E) : seqF c k m R E := h
theorem seqK_nx {s : σ} {k : σ → M (Fl σ' τ)} {R : Fl σ' τ → Led → Prop} (h : k s m R E) : seqK k (.nx s) m R E := h
theorem seqK_rt {k : σ → M (Fl σ' τ)} {R : Fl σ' τ → Led → Prop} (h : R (.rt d) m) : seqK k (.rt d) m R E := h
theorem upF_i {R : Fl σ τ → Led → Prop} (h : R (.rt d) m) : upF (.rt d) m R E := h
theorem iteM_i {k : Bool} {a b : M α} {R : α → Led → Prop} (h1 : k = true → a m R E) (h2 : k = false → b m R E) : iteM k a b m R E := ⟨h1, h2⟩
theorem iteM_ti {a b : M α} {R : α → Led → Prop} (h : a m R E) : iteM true a b m R E := ⟨fun _ => h, fun z => nomatch z⟩
theorem iteM_fi {a b : M α} {R : α → Led → Prop} (h : b m R E) : iteM false a b m R E := ⟨fun z => (nomatch z), fun _ => h⟩
theorem iteM_t' {k : Bool} {a b : M α} {R : α → Led → Prop} (e : k = true) (h : a m R E) : iteM k a b m R E := by subst e; exact iteM_ti h
theorem iteM_f' {k : Bool} {a b : M α} {R : α → Led → Prop} (e : k = false) (h : b m R E) : iteM k a b m R E := by subst e; exact iteM_fi h
/-- a test whose answer is a decision -/
theorem iteM_dec {p : Prop} {inst : Decidable p} {a b : M α} {R : α → Led → Prop} (h1 : p → a m R E) (h2 : ¬ p → b m R E) : iteM (decide p) a b m R E := ⟨fun e => h1 (of_decide_eq_true e), fun e => h2 (of_decide_eq_false e)⟩
theorem iteM_ndec {p : Prop} {inst : Decidable p} {a b : M α} {R : α → Led → Prop} (h1 : ¬ p → a m R E) (h2 : p → b m R E) : iteM (!decide p) a b m R E := ⟨fun e => h1 (by simpa using e), fun e => h2 (by simpa using e)⟩
/-- both ways of an if lead to P, from where it goes on -/
theorem iteM_gen {k : Bool} {a b : M α} {R : α → Led → Prop} (P : α → Led → Prop) (h1 : k = true → ∀ R' : α → Led → Prop, (∀ x m', P x m' → R' x m') → a m R' E) (h2 : k = false → ∀ R' : α → Led → Prop, (∀ x m', P x m' → R' x m') → b m R' E) (h : ∀ x m', P x m' → R x m') : iteM k a b m R E := ⟨fun e => h1 e R h, fun e => h2 e R h⟩
theorem add_i (h : RD (.int (i + j)) m) : binM .Add (.int i) (.int j) m RD E := h
theorem sub_i (h : RD (.int (i - j)) m) : binM .Sub (.int i) (.int j) m RD E := h
theorem mul_i (c : IntMulOk i j) (h : RD (.int (i * j)) m) : binM .Mult (.int i) (.int j) m RD E := ⟨c, h⟩
theorem fdiv_i (c : CDivG i j) (h : RD (.int (i.fdiv j)) m) : binM .FloorDiv (.int i) (.int j) m RD E := ⟨c, h⟩
theorem mod_i (c : 0 < j) (h : RD (.int (i % j)) m) : binM .Mod (.int i) (.int j) m RD E := ⟨by omega, by rw [Int.fmod_eq_emod_of_nonneg _ (Int.le_of_lt c)]; exact h⟩
theorem pow_i (c : CPow i j) (h : RD (.int (i ^ j.toNat)) m) : binM .Pow (.int i) (.int j) m RD E := ⟨c, h⟩
theorem cat_i (c : ds.length + es.length ≤ 100000) (h : RD (.lst (ds ++ es)) m) : binM .Add (.lst ds) (.lst es) m RD E := ⟨c, h⟩
theorem neg_i (h : RD (.int (-i)) m) : unM .USub (.int i) m RD E := h
theorem iadd_i (h : RD (.int (i + j)) m) : inplM .Add (.int i) (.int j) m RD E := h
theorem eq_i (h : RB (decide (i = j)) m) : cmpB .Eq (.int i) (.int j) m RB E := by show eqB _ _ m RB E; rw [eqB_int]; exact h
theorem ne_i (h : RB (!decide (i = j)) m) : cmpB .NotEq (.int i) (.int j) m RB E := by show neB _ _ m RB E; rw [neB_int]; exact h
theorem lt_i (h : RB (decide (i < j)) m) : cmpB .Lt (.int i) (.int j) m RB E := h
theorem le_i (h : RB (decide (i ≤ j)) m) : cmpB .LtE (.int i) (.int j) m RB E := h
theorem gt_i (h : RB (decide (j < i)) m) : cmpB .Gt (.int i) (.int j) m RB E := h
theorem ge_i (h : RB (decide (j ≤ i)) m) : cmpB .GtE (.int i) (.int j) m RB E := h
theorem isN_i (h : RB (isN d) m) : cmpB .Is d .non m RB E := h
theorem isnN_i (h : RB (!isN d) m) : cmpB .IsNot d .non m RB E := h
theorem eq_di (ha : NB 20 a) (hb : NB 20 b) (k : ∀ t : Bool, (t = true ↔ a = b) → RB t m) : cmpB .Eq a b m RB E := eqB_d (E := E) ha hb k
theorem ne_di (ha : NB 20 a) (hb : NB 20 b) (k : ∀ t : Bool, (t = true ↔ a = b) → RB (!t) m) : cmpB .NotEq a b m RB E := neB_d (E := E) ha hb k
theorem eq_wi {a' b' : D} (h1 : DW m a a') (h2 : DW m b b') (ha : NB 20 a') (hb : NB 20 b') (k : ∀ t : Bool, (t = true ↔ a' = b') → RB t m) : cmpB .Eq a b m RB E := eqB_w (E := E) h1 h2 ha hb k
theorem ne_wi {a' b' : D} (h1 : DW m a a') (h2 : DW m b b') (ha : NB 20 a') (hb : NB 20 b') (k : ∀ t : Bool, (t = true ↔ a' = b') → RB (!t) m) : cmpB .NotEq a b m RB E := neB_w (E := E) h1 h2 ha hb k
theorem eq_dt (ha : NB 20 a) (h : RB true m) : cmpB .Eq a a m RB E := eq_di ha ha fun t ht => by rw [ht.mpr rfl]; exact h
theorem ne_dt (ha : NB 20 a) (h : RB false m) : cmpB .NotEq a a m RB E := ne_di ha ha fun t ht => by rw [ht.mpr rfl]; exact h
theorem eq_wt {a' : D} (h1 : DW m a a') (h2 : DW m b a') (ha : NB 20 a') (h : RB true m) : cmpB .Eq a b m RB E := eq_wi h1 h2 ha ha fun t ht => by rw [ht.mpr rfl]; exact h
theorem ne_wt {a' : D} (h1 : DW m a a') (h2 : DW m b a') (ha : NB 20 a') (h : RB false m) : cmpB .NotEq a b m RB E := ne_wi h1 h2 ha ha fun t ht => by rw [ht.mpr rfl]; exact h
theorem cmpM_i {op : CmpOp} (h : cmpB op a b m (fun k m' => RD (.bl k) m') E) : cmpM op a b m RD E := h
theorem tru_int (h : RB (i != 0) m) : truB (.int i) m RB E := by rw [truB_int]; exact h
theorem tru_bl {k : Bool} (h : RB k m) : truB (.bl k) m RB E := by rw [truB_bl]; exact h
theorem tru_lst (h : RB (!ds.isEmpty) m) : truB (.lst ds) m RB E := ⟨_, rfl, h⟩
theorem tru_tup (h : RB (!ds.isEmpty) m) : truB (.tup ds) m RB E := ⟨_, rfl, h⟩
theorem notB_i {k : Bool} (h : RB (!k) m) : notB k m RB E := h
theorem notB_t (h : RB false m) : notB true m RB E := h
theorem notB_f (h : RB true m) : notB false m RB E := h
theorem notM_t (h : RD (.bl false) m) : notM (.bl true) m RD E := ⟨true, rfl, h⟩
theorem notM_f (h : RD (.bl true) m) : notM (.bl false) m RD E := ⟨false, rfl, h⟩
theorem andB_i {k : Bool} {c : M Bool} (h1 : k = true → c m RB E) (h2 : k = false → RB false m) : andB c k m RB E := ⟨h1, h2⟩
theorem orB_i {k : Bool} {c : M Bool} (h1 : k = true → RB true m) (h2 : k = false → c m RB E) : orB c k m RB E := ⟨h1, h2⟩
theorem andB_t {c : M Bool} (h : c m RB E) : andB c true m RB E := iteM_ti h
theorem andB_f {c : M Bool} (h : RB false m) : andB c false m RB E := iteM_fi h
theorem orB_t {c : M Bool} (h : RB true m) : orB c true m RB E := iteM_ti h
theorem orB_f {c : M Bool} (h : c m RB E) : orB c false m RB E := iteM_fi h
theorem andM_i {k : Bool} {c : M D} (h1 : k = true → c m RD E) (h2 : k = false → RD (.bl false) m) : andM c (.bl k) m RD E := ⟨k, rfl, h1, h2⟩
theorem orM_i {k : Bool} {c : M D} (h1 : k = true → RD (.bl true) m) (h2 : k = false → c m RD E) : orM c (.bl k) m RD E := ⟨k, rfl, h1, h2⟩
theorem andM_ti {c : M D} (h : c m RD E) : andM c (.bl true) m RD E := ⟨true, rfl, fun _ => h, fun z => nomatch z⟩
theorem andM_fi {c : M D} (h : RD (.bl false) m) : andM c (.bl false) m RD E := ⟨false, rfl, fun z => (nomatch z), fun _ => h⟩
theorem notM_i {k : Bool} (h : RD (.bl (!k)) m) : notM (.bl k) m RD E := ⟨k, rfl, h⟩
theorem ixT_i {v : D} (e : atI ds i = some v) (h : RD v m) : ixM (.tup ds) (.int i) m RD E := ⟨v, e, h⟩
theorem ixL_i {v : D} (e : atI ds i = some v) (h : RD v m) : ixM (.lst ds) (.int i) m RD E := ⟨v, e, h⟩
theorem ixR_i {p : Addr} {v : D} (n : Nat) (hm : m[n]? = some (p, .lst ds)) (e : atI ds i = some v) (h : RD v m) : ixM (.ref p) (.int i) m RD E := ⟨n, ds, v, hm, e, h⟩
theorem mkT_i (e : ds.length ≤ 100000) (h : RD (.tup ds) m) : mkT ds m RD E := ⟨e, h⟩
theorem mkL_i (e : ds.length ≤ 100000) (h : RD (.lst ds) m) : mkL ds m RD E := ⟨e, h⟩
theorem newL_i (e : ds.length ≤ 100000) (h : ∀ p, RD (.ref p) (m ++ [(p, .lst ds)])) : newL ds m RD E := ⟨e, h⟩
theorem abs_i (h : RD (.int (i.natAbs : Int)) m) : absM [.int i] m RD E := h
theorem int_i (h : RD (.int i) m) : intM [.int i] m RD E := h
theorem int_b {k : Bool} (h : RD (.int (if k then 1 else 0)) m) : intM [.bl k] m RD E := h
theorem max_i (h : RD (.int (max i j)) m) : maxM [.int i, .int j] m RD E := h
theorem min_i (h : RD (.int (min i j)) m) : minM [.int i, .int j] m RD E := h
theorem len_T (h : RD (.int (ds.length : Nat)) m) : lenM [.tup ds] m RD E := h
theorem len_L (h : RD (.int (ds.length : Nat)) m) : lenM [.lst ds] m RD E := h
theorem list_T (h : RD (.lst ds) m) : listM [.tup ds] m RD E := h
theorem list_L (h : RD (.lst ds) m) : listM [.lst ds] m RD E := h
theorem list_K (h : RD (.lst ds) m) : listM [.lsk ds] m RD E := h
theorem tuple_T (h : RD (.tup ds) m) : tupleM [.tup ds] m RD E := h
theorem tuple_L (h : RD (.tup ds) m) : tupleM [.lst ds] m RD E := h
theorem sum_L {ns : List Int} (h : RD (.int ns.sum) m) : sumM [.lst (ns.map D.int)] m RD E := ⟨ns, rfl, h⟩
theorem all_L {bs : List Bool} (h : RD (.bl (bs.all id)) m) : allM [.lst (bs.map D.bl)] m RD E := ⟨bs, rfl, h⟩
theorem any_L {bs : List Bool} (h : RD (.bl (bs.any id)) m) : anyM [.lst (bs.map D.bl)] m RD E := ⟨bs, rfl, h⟩
theorem seq_T (h : RL ds m) : seqM (.tup ds) m RL E := h
theorem seq_L (h : RL ds m) : seqM (.lst ds) m RL E := h
theorem rng_i (h1 : -100000 ≤ j) (h2 : j ≤ 100000) (h : RL (rangeD 0 j.toNat) m) : rngM (.int j) m RL E := ⟨h1, h2, h⟩
theorem zip_L (h : RL (zipD ds es) m) : zipM (.lst ds) (.lst es) m RL E := h
theorem zip_T (h : RL (zipD ds es) m) : zipM (.tup ds) (.tup es) m RL E := h
theorem lsM_i (h : RD (.lst ds) m) : lsM ds m RD E := h
theorem lsMM_i (h : ∀ p, RD (.ref p) (m ++ [(p, .lst ds)])) : lsMM ds m RD E := h
theorem someM_i {R : Option D → Led → Prop} (h : R (some d) m) : someM d m R E := h
theorem ut2_i {k : D → D → M α} {R : α → Led → Prop} (h : k a b m R E) : ut2 (.tup [a, b]) k m R E := ⟨a, b, rfl, h⟩
theorem un2_i {k : D → D → M (Option D)} {R : Option D → Led → Prop} (h : k a b m R E) : un2 (.tup [a, b]) k m R E := ⟨a, b, rfl, h⟩
theorem frz_i {p : Addr} (n : Nat) (hm : m[n]? = some (p, .lst ds)) (h : RD (.lst ds) (m.eraseIdx n)) : frzM (.ref p) m RD E := ⟨n, ds, hm, h⟩
theorem chk_i {p : Addr} {R : Unit → Led → Prop} (n : Nat) (hm : m[n]? = some (p, .lst ds)) (h : R () m) : chkL (.ref p) m R E := ⟨n, ds, hm, h⟩
theorem app_i {p : Addr} (n : Nat) (hm : m[n]? = some (p, .lst ds)) (hl : ds.length < 100000) (h : RD .non (m.set n (p, .lst (ds ++ [y])))) : appM (.ref p) y m RD E := ⟨n, ds, hm, hl, h⟩
theorem st_i {p : Addr} {R : Unit → Led → Prop} (n k : Nat) (hm : m[n]? = some (p, .lst ds)) (hj : ixN ds.length i = some k) (h : R () (m.set n (p, .lst (ds.set k y)))) : stM (.ref p) (.int i) y m R E := ⟨n, ds, k, hm, hj, h⟩
theorem rai_i {nm : Str} {fd : Option (Str × D)} {R : α → Led → Prop} (h : E nm fd m) : raiM nm fd m R E := h
theorem isi_i {n t : String} (ht : tyD d = some t) (hn : n ∈ tyNames) (h : RD (.bl (isiD t n)) m) : isiM [d, .ty n] m RD E := by
  unfold isiM
  split
  · rename_i e
    cases e
    simp [tyD] at ht
  · rename_i e
    cases e
    exact ⟨t, ht, hn, h⟩
  · rename_i h1 h2
    exact absurd rfl (h2 d n)
theorem set_last {M0 : Led} {x y : Addr × MO} : (M0 ++ [x]).set M0.length y = M0 ++ [y] := by simp
theorem get_last {M0 : Led} {x : Addr × MO} : (M0 ++ [x])[M0.length]? = some x := List.getElem?_concat_length
theorem rangeD_map (n : Nat) : rangeD 0 n = (List.range n).map fun (k : Nat) => D.int (k : Int) := by
  unfold rangeD
  apply List.map_congr_left
  intro k _
  rw [Int.zero_add]
theorem sp1_i {f : D → M D} (h : f a m RD E) : sp1 f [a] m RD E := h
theorem sp3_i {c : D} {f : D → D → D → M D} (h : f a b c m RD E) : sp3 f [a, b, c] m RD E := h
theorem sp4_i {c e : D} {f : D → D → D → D → M D} (h : f a b c e m RD E) : sp4 f [a, b, c, e] m RD E := h
theorem sp5_i {c e g : D} {f : D → D → D → D → D → M D} (h : f a b c e g m RD E) : sp5 f [a, b, c, e, g] m RD E := h
theorem sp6_i {c e g l : D} {f : D → D → D → D → D → D → M D} (h : f a b c e g l m RD E) : sp6 f [a, b, c, e, g, l] m RD E := h
theorem sp2_i {f : D → D → M D} (h : f a b m RD E) : sp2 f [a, b] m RD E := h
end
end DL

namespace K11
open PySem PySem.Spec PyProof.Rows L2 DL
def topS (i : Nat) : Stmt := PySem.Challenge.pw_leastcomplaint_k11_ratios.main.body.getD i (.Pass ⟨0, 0, 0, 0⟩)
abbrev s_law_pool : Stmt := topS 13
theorem sc_law_pool : FnScope ["_law_script"] ["_law_script"] (defScope s_law_pool) := ⟨rfl, rfl, rfl, by decide +kernel, rfl, by decide +kernel, by decide +kernel⟩
def b_law_pool (v_law_script : D) : M (Fl Unit Empty) := (bnd (bnd (bnd (ret (.int 0)) fun d7 => bnd (bnd (ret (.int 0)) fun d5 => bnd (bnd (bnd (bnd (ret v_law_script) fun d1 => bnd (ret []) fun ds2 => ret (d1 :: ds2)) listM) fun d3 => bnd (ret []) fun ds4 => ret (d3 :: ds4)) fun ds6 => ret (d5 :: ds6)) fun ds8 => ret (d7 :: ds8)) newL) rtM)
def m_law_pool : SpX := sp1 fun v_law_script => fnK (b_law_pool v_law_script)
theorem ok_law_pool {P : Program} {w : World} {K : PySem.W.Frag} {mg : Str → Option Value} {base : Heap} {k : Nat} {f : Addr} {fd : FuncData} {dvs : List V} (F : FnD K "_law_pool" "_law_pool" s_law_pool dvs f fd) (hk : 0 ≤ k) (m_list : mg "list" = none) : FnOk P w K mg base (L2.CX P w) (k + 1) f fd ["_law_script"] (liftX K mg m_law_pool) :=
  fk1 F sc_law_pool fun cdv A outer s H E Z hr v_law_script => by
    have hu := hr.units
    exact (bf_ret (ev_lstM (eva_cons ev_int (eva_cons ev_int (eva_cons (ev_blT m_list bt_list listM_ok (eva_cons (ev_var .here) eva_nil)) eva_nil)))))
abbrev s_divisor : Stmt := topS 4
theorem sc_divisor : FnScope ["numbers", "found", "number", "one", "other"] ["numbers"] (defScope s_divisor) := ⟨rfl, rfl, rfl, by decide +kernel, rfl, by decide +kernel, by decide +kernel⟩
def b_divisor (v_numbers : D) : M (Fl Unit Empty) := (bnd (ret (.int 0)) fun v_found => (bnd (bnd (ret v_numbers) seqM) fun ds2 => seqF (forF (fun v_number (s1 : D) => (bnd (bnd (bnd (ret v_number) fun d3 => bnd (ret []) fun ds4 => ret (d3 :: ds4)) absM) fun v_one_5 => bnd (ret s1) fun v_other_6 => (seqF (whileF (fun (s7 : D × D) => (bnd (ret s7.2) truB)) (fun (s7 : D × D) => (bnd (ret s7.2) fun v_one_10 => bnd (bnd (ret s7.1) fun x8 => bnd (ret s7.2) fun x9 => binM .Mod x8 x9) fun v_other_11 => (ret (.nx ((v_one_10, v_other_11)))))) ((v_one_5, v_other_6))) fun (s7 : D × D) => (bnd (ret s7.1) fun v_found => (ret (.nx v_found)))))) ds2 v_found) fun (s1 : D) => (bnd (ret s1) rtM)))
def m_divisor : SpX := sp1 fun v_numbers => fnM (b_divisor v_numbers)
theorem ok_divisor {P : Program} {w : World} {K : PySem.W.Frag} {mg : Str → Option Value} {base : Heap} {k : Nat} {f : Addr} {fd : FuncData} {dvs : List V} (F : FnD K "divisor" "divisor" s_divisor dvs f fd) (hk : 0 ≤ k) (m_abs : mg "abs" = none) : FnOk P w K mg base (L2.CX P w) (k + 1) f fd ["numbers"] (liftX K mg m_divisor) :=
  fn1 F sc_divisor fun cdv A outer s H E Z hr v_numbers => by
    have hu := hr.units
    exact (bf_set ev_int (fun _ => (.there .here)) (fun v_found => (bf_for (e1 := (fun (s1 : D) => [("numbers", some v_numbers), ("found", some s1), ("number", none), ("one", none), ("other", none)])) (iv_seq (ev_var .here)) (.same (.same (.same (.same (.same .nil))))) (fun v_number s1 => bg_name (.there (.there .here)) (bf_par (ev_blt m_abs bt_abs absM_ok (eva_cons (ev_var (.there (.there .here))) eva_nil)) (ev_var (.there .here)) (fun _ => (.there (.there (.there .here)))) (fun _ _ => (.there (.there (.there (.there .here))))) (by decide) (fun v_one_5 v_other_6 => (bf_while (e1 := (fun (s7 : D × D) => [("numbers", some v_numbers), ("found", some s1), ("number", some v_number), ("one", some s7.1), ("other", some s7.2)])) (fun s7 => (tv_val (ev_var (.there (.there (.there (.there .here))))))) (.same (.same (.same (.same (.same .nil))))) (fun s7 => (bf_par (ev_var (.there (.there (.there (.there .here))))) (ev_bin (ev_var (.there (.there (.there .here)))) (ev_var (.there (.there (.there (.there .here)))))) (fun _ => (.there (.there (.there .here)))) (fun _ _ => (.there (.there (.there (.there .here))))) (by decide) (fun v_one_10 v_other_11 => (bf_nil (l := (.same (.same (.same (.same (.same .nil)))))))))) (fun s7 => (bf_set (ev_var (.there (.there (.there .here)))) (fun _ => (.there .here)) (fun v_found => (bf_nil (l := (.same (.same (.drop (.drop (.drop .nil)))))))))))))) (fun s1 => (bf_ret (ev_var (.there .here)))))))
abbrev s_lowest : Stmt := topS 5
theorem sc_lowest : FnScope ["numbers", "part", "number"] ["numbers"] (defScope s_lowest) := ⟨rfl, rfl, rfl, by decide +kernel, rfl, by decide +kernel, by decide +kernel⟩
def b_lowest (v_numbers : D) : M (Fl Unit Empty) := (bnd (bnd (bnd (ret v_numbers) fun d1 => bnd (ret []) fun ds2 => ret (d1 :: ds2)) m_divisor) fun v_part => (bnd (bnd (bnd (ret v_part) truB) fun k9 => iteM k9 (bnd (bnd (ret v_numbers) seqM) fun ds6 => bnd (compM (fun v_number_3 => bnd (bnd (ret v_number_3) fun x4 => bnd (ret v_part) fun x5 => binM .FloorDiv x4 x5) someM) ds6 []) lsMM) (bnd (bnd (ret v_numbers) fun d7 => bnd (ret []) fun ds8 => ret (d7 :: ds8)) listMM)) rtM))
def m_lowest : SpX := sp1 fun v_numbers => fnK (b_lowest v_numbers)
theorem ok_lowest {P : Program} {w : World} {K : PySem.W.Frag} {mg : Str → Option Value} {base : Heap} {k : Nat} {f : Addr} {fd : FuncData} {dvs : List V} (F : FnD K "lowest" "lowest" s_lowest dvs f fd) (hk : 1 ≤ k) (m_list : mg "list" = none) (h_divisor : KnowsX P w K mg base k "divisor" 1 [] m_divisor) : FnOk P w K mg base (L2.CX P w) (k + 1) f fd ["numbers"] (liftX K mg m_lowest) :=
  fk1 F sc_lowest fun cdv A outer s H E Z hr v_numbers => by
    have hu := hr.units
    exact (bf_set (ev_call h_divisor (hr.mono (by omega)) (eva_cons (ev_var .here) eva_nil)) (fun _ => (.there .here)) (fun v_part => (bf_ret (ev_if (tv_val (ev_var (.there .here))) (ev_lcM (.there (.there .here)) (iv_seq (ev_var .here)) (cv0 (fun _ => (.there (.there .here))) (fun v_number_3 s0 H0 C0 cl0 fp0 => (ev_bin (ev_var (.there (.there .here))) (ev_var (.there .here)))))) (ev_blT m_list bt_list listMM_ok (eva_cons (ev_var .here) eva_nil))))))
abbrev s_law_take : Stmt := topS 14
theorem sc_law_take : FnScope ["_law_pool_here", "_law_many", "_law_at", "_law_drawn", "_law_mixed", "_law_digit"] ["_law_pool_here", "_law_many"] (defScope s_law_take) := ⟨rfl, rfl, rfl, by decide +kernel, rfl, by decide +kernel, by decide +kernel⟩
def b_law_take (v_law_pool_here : D) (v_law_many : D) : M (Fl Unit Empty) := (seqF (bnd (bnd (bnd (ret v_law_pool_here) fun x1 => bnd (ret (.int 1)) fun x2 => ixM x1 x2) fun x3 => bnd (ret (.int 0)) fun x4 => cmpB .Eq x3 x4) fun b5 => iteM b5 (bnd (bnd (ret v_law_pool_here) fun x7 => bnd (ret (.int 0)) fun x8 => ixM x7 x8) fun v_law_at => (bnd (bnd (ret v_law_at) fun x9 => bnd (ret (.int 1)) fun x10 => binM .Add x9 x10) fun x67 => bnd (ret v_law_pool_here) fun x68 => bnd (ret (.int 0)) fun x69 => bnd (stM x68 x69 x67) fun _ => (bnd (bnd (bnd (bnd (ret v_law_pool_here) fun x11 => bnd (ret (.int 2)) fun x12 => ixM x11 x12) fun x15 => bnd (bnd (bnd (ret (.int 0)) fun d13 => bnd (ret []) fun ds14 => ret (d13 :: ds14)) mkL) fun x16 => binM .Add x15 x16) fun x29 => bnd (bnd (bnd (bnd (ret v_law_at) fun d17 => bnd (ret []) fun ds18 => ret (d17 :: ds18)) intM) fun x27 => bnd (bnd (bnd (ret (.int 1)) fun d25 => bnd (bnd (bnd (bnd (bnd (ret v_law_pool_here) fun x19 => bnd (ret (.int 2)) fun x20 => ixM x19 x20) fun d21 => bnd (ret []) fun ds22 => ret (d21 :: ds22)) lenM) fun d23 => bnd (ret []) fun ds24 => ret (d23 :: ds24)) fun ds26 => ret (d25 :: ds26)) maxM) fun x28 => binM .Mod x27 x28) fun x30 => ixM x29 x30) fun v_law_drawn => (bnd (bnd (bnd (bnd (bnd (bnd (bnd (bnd (ret v_law_drawn) fun d31 => bnd (ret []) fun ds32 => ret (d31 :: ds32)) intM) fun x33 => bnd (ret (.int 2147483647)) fun x34 => binM .Mod x33 x34) fun x37 => bnd (bnd (ret (.int 7919)) fun x35 => bnd (ret v_law_at) fun x36 => binM .Mult x35 x36) fun x38 => binM .Add x37 x38) fun x39 => bnd (ret (.int 13)) fun x40 => binM .Add x39 x40) fun x41 => bnd (ret (.int 5)) fun x42 => binM .Pow x41 x42) fun x43 => bnd (ret (.int 2147483647)) fun x44 => binM .Mod x43 x44) fun v_law_mixed => (bnd (bnd (bnd (bnd (bnd (ret v_law_mixed) fun x47 => bnd (bnd (ret (.int 104729)) fun x45 => bnd (ret v_law_at) fun x46 => binM .Mult x45 x46) fun x48 => binM .Add x47 x48) fun x49 => bnd (ret (.int 29)) fun x50 => binM .Add x49 x50) fun x51 => bnd (ret (.int 3)) fun x52 => binM .Pow x51 x52) fun x53 => bnd (ret (.int 2147483629)) fun x54 => binM .Mod x53 x54) fun v_law_mixed => (bnd (bnd (ret v_law_drawn) fun x57 => bnd (bnd (ret (.int 10)) fun x55 => bnd (ret (.int 18)) fun x56 => binM .Pow x55 x56) fun x58 => cmpB .Lt x57 x58) fun b59 => iteM b59 (bnd (bnd (bnd (ret v_law_mixed) fun x60 => bnd (ret (.int 11)) fun x61 => binM .FloorDiv x60 x61) fun x62 => bnd (ret v_law_many) fun x63 => binM .Mod x62 x63) rtM) (bnd (ret v_law_drawn) fun x64 => bnd (ret v_law_pool_here) fun x65 => bnd (ret (.int 1)) fun x66 => bnd (stM x65 x66 x64) fun _ => (ret (.nx (())))))))))) (ret (.nx (())))) fun (s6 : Unit) => (bnd (bnd (bnd (bnd (bnd (ret v_law_pool_here) fun x70 => bnd (ret (.int 1)) fun x71 => ixM x70 x71) fun d72 => bnd (ret []) fun ds73 => ret (d72 :: ds73)) intM) fun x74 => bnd (ret v_law_many) fun x75 => binM .Mod x74 x75) fun v_law_digit => (bnd (bnd (bnd (ret v_law_pool_here) fun x76 => bnd (ret (.int 1)) fun x77 => ixM x76 x77) fun x78 => bnd (ret v_law_many) fun x79 => binM .FloorDiv x78 x79) fun x80 => bnd (ret v_law_pool_here) fun x81 => bnd (ret (.int 1)) fun x82 => bnd (stM x81 x82 x80) fun _ => (bnd (ret v_law_digit) rtM))))
def m_law_take : SpX := sp2 fun v_law_pool_here v_law_many => fnM (b_law_take v_law_pool_here v_law_many)
theorem ok_law_take {P : Program} {w : World} {K : PySem.W.Frag} {mg : Str → Option Value} {base : Heap} {k : Nat} {f : Addr} {fd : FuncData} {dvs : List V} (F : FnD K "_law_take" "_law_take" s_law_take dvs f fd) (hk : 0 ≤ k) (m_int : mg "int" = none) (m_len : mg "len" = none) (m_max : mg "max" = none) : FnOk P w K mg base (L2.CX P w) (k + 1) f fd ["_law_pool_here", "_law_many"] (liftX K mg m_law_take) :=
  fn2 F sc_law_take fun cdv A outer s H E Z hr v_law_pool_here v_law_many => by
    have hu := hr.units
    exact (bf_if (e1 := (fun (s6 : Unit) => [("_law_pool_here", some v_law_pool_here), ("_law_many", some v_law_many), ("_law_at", none), ("_law_drawn", none), ("_law_mixed", none), ("_law_digit", none)])) (tv_cmp hu (ev_ix (ev_var .here) ev_int) ev_int) (bf_set (ev_ix (ev_var .here) ev_int) (fun _ => (.there (.there .here))) (fun v_law_at => (bf_sub (ev_bin (ev_var (.there (.there .here))) ev_int) (ev_var .here) ev_int (bf_set (ev_ix (ev_bin (ev_ix (ev_var .here) ev_int) (ev_lst (eva_cons ev_int eva_nil))) (ev_bin (ev_blT m_int bt_int intM_ok (eva_cons (ev_var (.there (.there .here))) eva_nil)) (ev_blt m_max bt_max (maxM_ok rfl) (eva_cons ev_int (eva_cons (ev_blt m_len bt_len lenM_ok (eva_cons (ev_ix (ev_var .here) ev_int) eva_nil)) eva_nil))))) (fun _ => (.there (.there (.there .here)))) (fun v_law_drawn => (bf_set (ev_bin (ev_bin (ev_bin (ev_bin (ev_bin (ev_blT m_int bt_int intM_ok (eva_cons (ev_var (.there (.there (.there .here)))) eva_nil)) ev_int) (ev_bin ev_int (ev_var (.there (.there .here))))) ev_int) ev_int) ev_int) (fun _ => (.there (.there (.there (.there .here))))) (fun v_law_mixed => (bf_set (ev_bin (ev_bin (ev_bin (ev_bin (ev_var (.there (.there (.there (.there .here))))) (ev_bin ev_int (ev_var (.there (.there .here))))) ev_int) ev_int) ev_int) (fun _ => (.there (.there (.there (.there .here))))) (fun v_law_mixed => (bf_ifX (tv_cmp hu (ev_var (.there (.there (.there .here)))) (ev_bin ev_int ev_int)) (bf_ret (ev_bin (ev_bin (ev_var (.there (.there (.there (.there .here))))) ev_int) (ev_var (.there .here)))) (bf_sub (ev_var (.there (.there (.there .here)))) (ev_var .here) ev_int (bf_nil (l := (.same (.same (.drop (.drop (.drop (.same .nil))))))))))))))))))) (bf_nil (l := (.same (.same (.same (.same (.same (.same .nil)))))))) (fun s6 => (bf_set (ev_bin (ev_blT m_int bt_int intM_ok (eva_cons (ev_ix (ev_var .here) ev_int) eva_nil)) (ev_var (.there .here))) (fun _ => (.there (.there (.there (.there (.there .here)))))) (fun v_law_digit => (bf_sub (ev_bin (ev_ix (ev_var .here) ev_int) (ev_var (.there .here))) (ev_var .here) ev_int (bf_ret (ev_var (.there (.there (.there (.there (.there .here))))))))))))
abbrev s_law_divisor : Stmt := topS 16
theorem sc_law_divisor : FnScope ["_law_numbers", "_law_found", "_law_number", "_law_one", "_law_other"] ["_law_numbers"] (defScope s_law_divisor) := ⟨rfl, rfl, rfl, by decide +kernel, rfl, by decide +kernel, by decide +kernel⟩
def b_law_divisor (v_law_numbers : D) : M (Fl Unit Empty) := (bnd (ret (.int 0)) fun v_law_found => (bnd (bnd (ret v_law_numbers) seqM) fun ds2 => seqF (forF (fun v_law_number (s1 : D) => (bnd (bnd (bnd (ret v_law_number) fun d3 => bnd (ret []) fun ds4 => ret (d3 :: ds4)) absM) fun v_law_one => (bnd (ret s1) fun v_law_other => (seqF (whileF (fun (s5 : D × D) => (bnd (ret s5.2) fun x6 => bnd (ret (.int 0)) fun x7 => cmpB .NotEq x6 x7)) (fun (s5 : D × D) => (bnd (ret s5.2) fun v_law_one_12 => bnd (bnd (bnd (bnd (ret s5.1) fun d8 => bnd (ret []) fun ds9 => ret (d8 :: ds9)) intM) fun x10 => bnd (ret s5.2) fun x11 => binM .Mod x10 x11) fun v_law_other_13 => (ret (.nx ((v_law_one_12, v_law_other_13)))))) ((v_law_one, v_law_other))) fun (s5 : D × D) => (bnd (ret s5.1) fun v_law_found => (ret (.nx v_law_found))))))) ds2 v_law_found) fun (s1 : D) => (bnd (ret s1) rtM)))
def m_law_divisor : SpX := sp1 fun v_law_numbers => fnM (b_law_divisor v_law_numbers)
theorem ok_law_divisor {P : Program} {w : World} {K : PySem.W.Frag} {mg : Str → Option Value} {base : Heap} {k : Nat} {f : Addr} {fd : FuncData} {dvs : List V} (F : FnD K "_law_divisor" "_law_divisor" s_law_divisor dvs f fd) (hk : 0 ≤ k) (m_abs : mg "abs" = none) (m_int : mg "int" = none) : FnOk P w K mg base (L2.CX P w) (k + 1) f fd ["_law_numbers"] (liftX K mg m_law_divisor) :=
  fn1 F sc_law_divisor fun cdv A outer s H E Z hr v_law_numbers => by
    have hu := hr.units
    exact (bf_set ev_int (fun _ => (.there .here)) (fun v_law_found => (bf_for (e1 := (fun (s1 : D) => [("_law_numbers", some v_law_numbers), ("_law_found", some s1), ("_law_number", none), ("_law_one", none), ("_law_other", none)])) (iv_seq (ev_var .here)) (.same (.same (.same (.same (.same .nil))))) (fun v_law_number s1 => bg_name (.there (.there .here)) (bf_set (ev_blt m_abs bt_abs absM_ok (eva_cons (ev_var (.there (.there .here))) eva_nil)) (fun _ => (.there (.there (.there .here)))) (fun v_law_one => (bf_set (ev_var (.there .here)) (fun _ => (.there (.there (.there (.there .here))))) (fun v_law_other => (bf_while (e1 := (fun (s5 : D × D) => [("_law_numbers", some v_law_numbers), ("_law_found", some s1), ("_law_number", some v_law_number), ("_law_one", some s5.1), ("_law_other", some s5.2)])) (fun s5 => (tv_cmp hu (ev_var (.there (.there (.there (.there .here))))) ev_int)) (.same (.same (.same (.same (.same .nil))))) (fun s5 => (bf_par (ev_var (.there (.there (.there (.there .here))))) (ev_bin (ev_blT m_int bt_int intM_ok (eva_cons (ev_var (.there (.there (.there .here)))) eva_nil)) (ev_var (.there (.there (.there (.there .here)))))) (fun _ => (.there (.there (.there .here)))) (fun _ _ => (.there (.there (.there (.there .here))))) (by decide) (fun v_law_one_12 v_law_other_13 => (bf_nil (l := (.same (.same (.same (.same (.same .nil)))))))))) (fun s5 => (bf_set (ev_var (.there (.there (.there .here)))) (fun _ => (.there .here)) (fun v_law_found => (bf_nil (l := (.same (.same (.drop (.drop (.drop .nil)))))))))))))))) (fun s1 => (bf_ret (ev_var (.there .here)))))))
abbrev s_law_low : Stmt := topS 24
theorem sc_law_low : FnScope ["_law_numbers", "_law_piece", "_law_number"] ["_law_numbers"] (defScope s_law_low) := ⟨rfl, rfl, rfl, by decide +kernel, rfl, by decide +kernel, by decide +kernel⟩
def b_law_low (v_law_numbers : D) : M (Fl Unit Empty) := (bnd (bnd (bnd (ret v_law_numbers) fun d1 => bnd (ret []) fun ds2 => ret (d1 :: ds2)) m_law_divisor) fun v_law_piece => (bnd (bnd (ret v_law_piece) fun x3 => bnd (ret (.int 0)) fun x4 => cmpB .Eq x3 x4) fun b5 => iteM b5 (bnd (bnd (bnd (ret v_law_numbers) fun d6 => bnd (ret []) fun ds7 => ret (d6 :: ds7)) listM) rtM) (bnd (bnd (bnd (ret v_law_numbers) seqM) fun ds11 => bnd (compM (fun v_law_number_8 => bnd (bnd (ret v_law_number_8) fun x9 => bnd (ret v_law_piece) fun x10 => binM .FloorDiv x9 x10) someM) ds11 []) lsM) rtM)))
def m_law_low : SpX := sp1 fun v_law_numbers => fnM (b_law_low v_law_numbers)
theorem ok_law_low {P : Program} {w : World} {K : PySem.W.Frag} {mg : Str → Option Value} {base : Heap} {k : Nat} {f : Addr} {fd : FuncData} {dvs : List V} (F : FnD K "_law_low" "_law_low" s_law_low dvs f fd) (hk : 1 ≤ k) (m_list : mg "list" = none) (h_law_divisor : KnowsX P w K mg base k "_law_divisor" 1 [] m_law_divisor) : FnOk P w K mg base (L2.CX P w) (k + 1) f fd ["_law_numbers"] (liftX K mg m_law_low) :=
  fn1 F sc_law_low fun cdv A outer s H E Z hr v_law_numbers => by
    have hu := hr.units
    exact (bf_set (ev_call h_law_divisor (hr.mono (by omega)) (eva_cons (ev_var .here) eva_nil)) (fun _ => (.there .here)) (fun v_law_piece => (bf_ifX (tv_cmp hu (ev_var (.there .here)) ev_int) (bf_ret (ev_blT m_list bt_list listM_ok (eva_cons (ev_var .here) eva_nil))) (bf_ret (ev_lc (.there (.there .here)) (iv_seq (ev_var .here)) (cv0 (fun _ => (.there (.there .here))) (fun v_law_number_8 s0 H0 C0 cl0 fp0 => (ev_bin (ev_var (.there (.there .here))) (ev_var (.there .here))))))))))
abbrev s_law_lowest_right : Stmt := topS 23
theorem sc_law_lowest_right : FnScope ["_law_pool_here", "_law_factor", "_law_many", "_law_numbers", "_law_k", "_law_saved", "_law_says"] ["_law_pool_here"] (defScope s_law_lowest_right) := ⟨rfl, rfl, rfl, by decide +kernel, rfl, by decide +kernel, by decide +kernel⟩
def b_law_lowest_right (v_law_pool_here : D) : M (Fl Unit Empty) := (bnd (bnd (bnd (bnd (ret v_law_pool_here) fun d3 => bnd (bnd (ret (.int 1000)) fun d1 => bnd (ret []) fun ds2 => ret (d1 :: ds2)) fun ds4 => ret (d3 :: ds4)) m_law_take) fun x21 => bnd (bnd (bnd (bnd (ret (.int 1)) fun d9 => bnd (bnd (bnd (ret (.int 10)) fun x5 => bnd (ret (.int 25)) fun x6 => binM .Pow x5 x6) fun d7 => bnd (ret []) fun ds8 => ret (d7 :: ds8)) fun ds10 => ret (d9 :: ds10)) mkL) fun x19 => bnd (bnd (bnd (bnd (bnd (bnd (ret v_law_pool_here) fun d13 => bnd (bnd (ret (.int 4)) fun d11 => bnd (ret []) fun ds12 => ret (d11 :: ds12)) fun ds14 => ret (d13 :: ds14)) m_law_take) fun x15 => bnd (ret (.int 0)) fun x16 => cmpM .Eq x15 x16) fun d17 => bnd (ret []) fun ds18 => ret (d17 :: ds18)) intM) fun x20 => ixM x19 x20) fun x22 => binM .Mult x21 x22) fun v_law_factor => (bnd (bnd (bnd (bnd (bnd (bnd (ret v_law_pool_here) fun d25 => bnd (bnd (ret (.int 7)) fun d23 => bnd (ret []) fun ds24 => ret (d23 :: ds24)) fun ds26 => ret (d25 :: ds26)) m_law_take) fun d29 => bnd (bnd (ret (.int 40)) fun d27 => bnd (ret []) fun ds28 => ret (d27 :: ds28)) fun ds30 => ret (d29 :: ds30)) mkL) fun x39 => bnd (bnd (bnd (bnd (bnd (bnd (ret v_law_pool_here) fun d33 => bnd (bnd (ret (.int 8)) fun d31 => bnd (ret []) fun ds32 => ret (d31 :: ds32)) fun ds34 => ret (d33 :: ds34)) m_law_take) fun x35 => bnd (ret (.int 0)) fun x36 => cmpM .Eq x35 x36) fun d37 => bnd (ret []) fun ds38 => ret (d37 :: ds38)) intM) fun x40 => ixM x39 x40) fun v_law_many => (bnd (bnd (bnd (ret v_law_many) rngM) fun ds50 => bnd (compM (fun v_law_k_41 => bnd (bnd (ret v_law_factor) fun x48 => bnd (bnd (bnd (bnd (ret v_law_pool_here) fun d44 => bnd (bnd (ret (.int 41)) fun d42 => bnd (ret []) fun ds43 => ret (d42 :: ds43)) fun ds45 => ret (d44 :: ds45)) m_law_take) fun x46 => bnd (ret (.int 20)) fun x47 => binM .Sub x46 x47) fun x49 => binM .Mult x48 x49) someM) ds50 []) lsM) fun v_law_numbers => (bnd (bnd (bnd (ret v_law_numbers) fun d51 => bnd (ret []) fun ds52 => ret (d51 :: ds52)) listM) fun v_law_saved => (bnd (bnd (bnd (ret v_law_numbers) fun d53 => bnd (ret []) fun ds54 => ret (d53 :: ds54)) m_lowest) fun v_law_says => (bnd (bnd (bnd (ret v_law_says) fun x59 => bnd (bnd (bnd (ret v_law_saved) fun d57 => bnd (ret []) fun ds58 => ret (d57 :: ds58)) m_law_low) fun x60 => cmpB .NotEq x59 x60) (orB (bnd (ret v_law_numbers) fun x55 => bnd (ret v_law_saved) fun x56 => cmpB .NotEq x55 x56))) fun b61 => iteM b61 (bnd (ret (.bl false)) rtM) (bnd (bnd (ret v_law_says) fun u62 => bnd (chkL u62) fun _ => bnd (ret (.int 7)) fun y63 => appM u62 y63) fun _ => (bnd (bnd (bnd (ret v_law_numbers) fun x72 => bnd (ret v_law_saved) fun x73 => cmpM .Eq x72 x73) (andM (bnd (bnd (bnd (bnd (bnd (ret v_law_numbers) fun d64 => bnd (ret []) fun ds65 => ret (d64 :: ds65)) tupleM) fun d66 => bnd (ret []) fun ds67 => ret (d66 :: ds67)) m_lowest) fun x70 => bnd (bnd (bnd (ret v_law_saved) fun d68 => bnd (ret []) fun ds69 => ret (d68 :: ds69)) m_law_low) fun x71 => cmpM .Eq x70 x71))) rtM))))))))
def m_law_lowest_right : SpX := sp1 fun v_law_pool_here => fnM (b_law_lowest_right v_law_pool_here)
theorem ok_law_lowest_right {P : Program} {w : World} {K : PySem.W.Frag} {mg : Str → Option Value} {base : Heap} {k : Nat} {f : Addr} {fd : FuncData} {dvs : List V} (F : FnD K "_law_lowest_right" "_law_lowest_right" s_law_lowest_right dvs f fd) (hk : 2 ≤ k) (m_int : mg "int" = none) (m_list : mg "list" = none) (m_range : mg "range" = none) (m_tuple : mg "tuple" = none) (h_law_low : KnowsX P w K mg base k "_law_low" 1 [] m_law_low) (h_law_take : KnowsX P w K mg base k "_law_take" 2 [] m_law_take) (h_lowest : KnowsX P w K mg base k "lowest" 1 [] m_lowest) : FnOk P w K mg base (L2.CX P w) (k + 1) f fd ["_law_pool_here"] (liftX K mg m_law_lowest_right) :=
  fn1 F sc_law_lowest_right fun cdv A outer s H E Z hr v_law_pool_here => by
    have hu := hr.units
    exact (bf_set (ev_bin (ev_call h_law_take (hr.mono (by omega)) (eva_cons (ev_var .here) (eva_cons ev_int eva_nil))) (ev_ix (ev_lst (eva_cons ev_int (eva_cons (ev_bin ev_int ev_int) eva_nil))) (ev_blT m_int bt_int intM_ok (eva_cons (ev_cmp hu (ev_call h_law_take (hr.mono (by omega)) (eva_cons (ev_var .here) (eva_cons ev_int eva_nil))) ev_int) eva_nil)))) (fun _ => (.there .here)) (fun v_law_factor => (bf_set (ev_ix (ev_lst (eva_cons (ev_call h_law_take (hr.mono (by omega)) (eva_cons (ev_var .here) (eva_cons ev_int eva_nil))) (eva_cons ev_int eva_nil))) (ev_blT m_int bt_int intM_ok (eva_cons (ev_cmp hu (ev_call h_law_take (hr.mono (by omega)) (eva_cons (ev_var .here) (eva_cons ev_int eva_nil))) ev_int) eva_nil))) (fun _ => (.there (.there .here))) (fun v_law_many => (bf_setLc (.there (.there (.there (.there .here)))) (.there (.there (.there .here))) (iv_range1 m_range (ev_var (.there (.there .here)))) (cv0 (fun _ => (.there (.there (.there (.there .here))))) (fun v_law_k_41 s0 H0 C0 cl0 fp0 => (ev_bin (ev_var (.there .here)) (ev_bin (ev_call h_law_take (hr.mono (by omega)) (eva_cons (ev_var .here) (eva_cons ev_int eva_nil))) ev_int)))) (fun _ => (.there (.there (.there .here)))) (fun v_law_numbers => (bf_set (ev_blT m_list bt_list listM_ok (eva_cons (ev_var (.there (.there (.there .here)))) eva_nil)) (fun _ => (.there (.there (.there (.there (.there .here)))))) (fun v_law_saved => (bf_set (ev_call h_lowest (hr.mono (by omega)) (eva_cons (ev_var (.there (.there (.there .here)))) eva_nil)) (fun _ => (.there (.there (.there (.there (.there (.there .here))))))) (fun v_law_says => (bf_ifX (tv_w (wv_or (tv_cmp hu (ev_var (.there (.there (.there (.there (.there (.there .here))))))) (ev_call h_law_low (hr.mono (by omega)) (eva_cons (ev_var (.there (.there (.there (.there (.there .here)))))) eva_nil))) (wv_or1 (tv_cmp hu (ev_var (.there (.there (.there .here)))) (ev_var (.there (.there (.there (.there (.there .here)))))))))) (bf_ret ev_bl) (bf_expr (ev_append (ev_var (.there (.there (.there (.there (.there (.there .here))))))) ev_int) (bf_ret (ev_and (ev_cmp hu (ev_var (.there (.there (.there .here)))) (ev_var (.there (.there (.there (.there (.there .here))))))) (ev_one (ev_cmp hu (ev_call h_lowest (hr.mono (by omega)) (eva_cons (ev_blT m_tuple bt_tuple tupleM_ok (eva_cons (ev_var (.there (.there (.there .here)))) eva_nil)) eva_nil)) (ev_call h_law_low (hr.mono (by omega)) (eva_cons (ev_var (.there (.there (.there (.there (.there .here)))))) eva_nil))))))))))))))))))
abbrev s_ratio : Stmt := topS 6
theorem sc_ratio : FnScope ["top", "bottom", "part"] ["top", "bottom"] (defScope s_ratio) := ⟨rfl, rfl, rfl, by decide +kernel, rfl, by decide +kernel, by decide +kernel⟩
def b_ratio (v_top : D) (v_bottom : D) : M (Fl Unit Empty) := (bnd (bnd (ret v_bottom) fun x1 => bnd (ret (.int 0)) fun x2 => cmpB .Eq x1 x2) fun b3 => iteM b3 (bnd (ret v_bottom) fun d4 => raiM "BadRatio" (some ("bottom", d4))) (bnd (bnd (bnd (bnd (bnd (ret v_top) fun d7 => bnd (bnd (ret v_bottom) fun d5 => bnd (ret []) fun ds6 => ret (d5 :: ds6)) fun ds8 => ret (d7 :: ds8)) mkL) fun d9 => bnd (ret []) fun ds10 => ret (d9 :: ds10)) m_divisor) fun v_part => (seqF (bnd (bnd (ret v_bottom) fun x11 => bnd (ret (.int 0)) fun x12 => cmpB .Lt x11 x12) fun b13 => iteM b13 (bnd (bnd (ret v_part) fun x15 => unM .USub x15) fun v_part => (ret (.nx v_part))) (ret (.nx v_part))) fun (s14 : D) => (bnd (bnd (bnd (bnd (ret v_top) fun x16 => bnd (ret s14) fun x17 => binM .FloorDiv x16 x17) fun d22 => bnd (bnd (bnd (ret v_bottom) fun x18 => bnd (ret s14) fun x19 => binM .FloorDiv x18 x19) fun d20 => bnd (ret []) fun ds21 => ret (d20 :: ds21)) fun ds23 => ret (d22 :: ds23)) mkT) rtM))))
def m_ratio : SpX := sp2 fun v_top v_bottom => fnM (b_ratio v_top v_bottom)
theorem ok_ratio {P : Program} {w : World} {K : PySem.W.Frag} {mg : Str → Option Value} {base : Heap} {k : Nat} {f : Addr} {fd : FuncData} {dvs : List V} (F : FnD K "ratio" "ratio" s_ratio dvs f fd) (hk : 1 ≤ k) (h_divisor : KnowsX P w K mg base k "divisor" 1 [] m_divisor) {C_BadRatio : Addr} (x_BadRatio : XK1 P w K mg "BadRatio" "bottom" C_BadRatio) : FnOk P w K mg base (L2.CX P w) (k + 1) f fd ["top", "bottom"] (liftX K mg m_ratio) :=
  fn2 F sc_ratio fun cdv A outer s H E Z hr v_top v_bottom => by
    have hu := hr.units
    exact (bf_ifX (tv_cmp hu (ev_var (.there .here)) ev_int) (bf_raise1 x_BadRatio (hr.mono (by omega)) (ev_var (.there .here))) (bf_set (ev_call h_divisor (hr.mono (by omega)) (eva_cons (ev_lst (eva_cons (ev_var .here) (eva_cons (ev_var (.there .here)) eva_nil))) eva_nil)) (fun _ => (.there (.there .here))) (fun v_part => (bf_if (e1 := (fun (s14 : D) => [("top", some v_top), ("bottom", some v_bottom), ("part", some s14)])) (tv_cmp hu (ev_var (.there .here)) ev_int) (bf_set (ev_un (ev_var (.there (.there .here)))) (fun _ => (.there (.there .here))) (fun v_part => (bf_nil (l := (.same (.same (.same .nil))))))) (bf_nil (l := (.same (.same (.same .nil))))) (fun s14 => (bf_ret (ev_tup (eva_cons (ev_bin (ev_var .here) (ev_var (.there (.there .here)))) (eva_cons (ev_bin (ev_var (.there .here)) (ev_var (.there (.there .here)))) eva_nil)))))))))
abbrev s_law_integer : Stmt := topS 18
theorem sc_law_integer : FnScope ["_law_pool_here", "_law_size"] ["_law_pool_here"] (defScope s_law_integer) := ⟨rfl, rfl, rfl, by decide +kernel, rfl, by decide +kernel, by decide +kernel⟩
def b_law_integer (v_law_pool_here : D) : M (Fl Unit Empty) := (bnd (bnd (bnd (bnd (ret (.int 3)) fun d9 => bnd (bnd (ret (.int 12)) fun d7 => bnd (bnd (ret (.int 1000)) fun d5 => bnd (bnd (bnd (ret (.int 10)) fun x1 => bnd (ret (.int 29)) fun x2 => binM .Pow x1 x2) fun d3 => bnd (ret []) fun ds4 => ret (d3 :: ds4)) fun ds6 => ret (d5 :: ds6)) fun ds8 => ret (d7 :: ds8)) fun ds10 => ret (d9 :: ds10)) mkL) fun x15 => bnd (bnd (bnd (ret v_law_pool_here) fun d13 => bnd (bnd (ret (.int 4)) fun d11 => bnd (ret []) fun ds12 => ret (d11 :: ds12)) fun ds14 => ret (d13 :: ds14)) m_law_take) fun x16 => ixM x15 x16) fun v_law_size => (bnd (bnd (bnd (bnd (ret v_law_pool_here) fun d23 => bnd (bnd (bnd (bnd (ret (.int 2)) fun x17 => bnd (ret v_law_size) fun x18 => binM .Mult x17 x18) fun x19 => bnd (ret (.int 1)) fun x20 => binM .Add x19 x20) fun d21 => bnd (ret []) fun ds22 => ret (d21 :: ds22)) fun ds24 => ret (d23 :: ds24)) m_law_take) fun x25 => bnd (ret v_law_size) fun x26 => binM .Sub x25 x26) rtM))
def m_law_integer : SpX := sp1 fun v_law_pool_here => fnM (b_law_integer v_law_pool_here)
theorem ok_law_integer {P : Program} {w : World} {K : PySem.W.Frag} {mg : Str → Option Value} {base : Heap} {k : Nat} {f : Addr} {fd : FuncData} {dvs : List V} (F : FnD K "_law_integer" "_law_integer" s_law_integer dvs f fd) (hk : 1 ≤ k) (h_law_take : KnowsX P w K mg base k "_law_take" 2 [] m_law_take) : FnOk P w K mg base (L2.CX P w) (k + 1) f fd ["_law_pool_here"] (liftX K mg m_law_integer) :=
  fn1 F sc_law_integer fun cdv A outer s H E Z hr v_law_pool_here => by
    have hu := hr.units
    exact (bf_set (ev_ix (ev_lst (eva_cons ev_int (eva_cons ev_int (eva_cons ev_int (eva_cons (ev_bin ev_int ev_int) eva_nil))))) (ev_call h_law_take (hr.mono (by omega)) (eva_cons (ev_var .here) (eva_cons ev_int eva_nil)))) (fun _ => (.there .here)) (fun v_law_size => (bf_ret (ev_bin (ev_call h_law_take (hr.mono (by omega)) (eva_cons (ev_var .here) (eva_cons (ev_bin (ev_bin ev_int (ev_var (.there .here))) ev_int) eva_nil))) (ev_var (.there .here))))))
abbrev s_compare : Stmt := topS 10
theorem sc_compare : FnScope ["one", "other", "left", "right"] ["one", "other"] (defScope s_compare) := ⟨rfl, rfl, rfl, by decide +kernel, rfl, by decide +kernel, by decide +kernel⟩
def b_compare (v_one : D) (v_other : D) : M (Fl Unit Empty) := (bnd (bnd (bnd (ret v_one) fun x1 => bnd (ret (.int 0)) fun x2 => ixM x1 x2) fun x5 => bnd (bnd (ret v_other) fun x3 => bnd (ret (.int 1)) fun x4 => ixM x3 x4) fun x6 => binM .Mult x5 x6) fun v_left_13 => bnd (bnd (bnd (ret v_other) fun x7 => bnd (ret (.int 0)) fun x8 => ixM x7 x8) fun x11 => bnd (bnd (ret v_one) fun x9 => bnd (ret (.int 1)) fun x10 => ixM x9 x10) fun x12 => binM .Mult x11 x12) fun v_right_14 => (bnd (bnd (bnd (bnd (bnd (ret v_left_13) fun x15 => bnd (ret v_right_14) fun x16 => cmpM .Gt x15 x16) fun d17 => bnd (ret []) fun ds18 => ret (d17 :: ds18)) intM) fun x23 => bnd (bnd (bnd (bnd (ret v_left_13) fun x19 => bnd (ret v_right_14) fun x20 => cmpM .Lt x19 x20) fun d21 => bnd (ret []) fun ds22 => ret (d21 :: ds22)) intM) fun x24 => binM .Sub x23 x24) rtM))
def m_compare : SpX := sp2 fun v_one v_other => fnM (b_compare v_one v_other)
theorem ok_compare {P : Program} {w : World} {K : PySem.W.Frag} {mg : Str → Option Value} {base : Heap} {k : Nat} {f : Addr} {fd : FuncData} {dvs : List V} (F : FnD K "compare" "compare" s_compare dvs f fd) (hk : 0 ≤ k) (m_int : mg "int" = none) : FnOk P w K mg base (L2.CX P w) (k + 1) f fd ["one", "other"] (liftX K mg m_compare) :=
  fn2 F sc_compare fun cdv A outer s H E Z hr v_one v_other => by
    have hu := hr.units
    exact (bf_par (ev_bin (ev_ix (ev_var .here) ev_int) (ev_ix (ev_var (.there .here)) ev_int)) (ev_bin (ev_ix (ev_var (.there .here)) ev_int) (ev_ix (ev_var .here) ev_int)) (fun _ => (.there (.there .here))) (fun _ _ => (.there (.there (.there .here)))) (by decide) (fun v_left_13 v_right_14 => (bf_ret (ev_bin (ev_blT m_int bt_int intM_ok (eva_cons (ev_cmp hu (ev_var (.there (.there .here))) (ev_var (.there (.there (.there .here))))) eva_nil)) (ev_blT m_int bt_int intM_ok (eva_cons (ev_cmp hu (ev_var (.there (.there .here))) (ev_var (.there (.there (.there .here))))) eva_nil))))))
abbrev s_law_ratio : Stmt := topS 17
theorem sc_law_ratio : FnScope ["_law_up", "_law_down", "_law_piece"] ["_law_up", "_law_down"] (defScope s_law_ratio) := ⟨rfl, rfl, rfl, by decide +kernel, rfl, by decide +kernel, by decide +kernel⟩
def b_law_ratio (v_law_up : D) (v_law_down : D) : M (Fl Unit Empty) := (bnd (bnd (bnd (bnd (bnd (ret v_law_up) fun d3 => bnd (bnd (ret v_law_down) fun d1 => bnd (ret []) fun ds2 => ret (d1 :: ds2)) fun ds4 => ret (d3 :: ds4)) mkL) fun d5 => bnd (ret []) fun ds6 => ret (d5 :: ds6)) m_law_divisor) fun v_law_piece => (seqF (bnd (bnd (ret v_law_down) fun x7 => bnd (ret (.int 0)) fun x8 => cmpB .Lt x7 x8) fun b9 => iteM b9 (bnd (bnd (ret v_law_piece) fun x11 => unM .USub x11) fun v_law_piece => (ret (.nx v_law_piece))) (ret (.nx v_law_piece))) fun (s10 : D) => (bnd (bnd (bnd (bnd (ret v_law_up) fun x12 => bnd (ret s10) fun x13 => binM .FloorDiv x12 x13) fun d18 => bnd (bnd (bnd (ret v_law_down) fun x14 => bnd (ret s10) fun x15 => binM .FloorDiv x14 x15) fun d16 => bnd (ret []) fun ds17 => ret (d16 :: ds17)) fun ds19 => ret (d18 :: ds19)) mkT) rtM)))
def m_law_ratio : SpX := sp2 fun v_law_up v_law_down => fnM (b_law_ratio v_law_up v_law_down)
theorem ok_law_ratio {P : Program} {w : World} {K : PySem.W.Frag} {mg : Str → Option Value} {base : Heap} {k : Nat} {f : Addr} {fd : FuncData} {dvs : List V} (F : FnD K "_law_ratio" "_law_ratio" s_law_ratio dvs f fd) (hk : 1 ≤ k) (h_law_divisor : KnowsX P w K mg base k "_law_divisor" 1 [] m_law_divisor) : FnOk P w K mg base (L2.CX P w) (k + 1) f fd ["_law_up", "_law_down"] (liftX K mg m_law_ratio) :=
  fn2 F sc_law_ratio fun cdv A outer s H E Z hr v_law_up v_law_down => by
    have hu := hr.units
    exact (bf_set (ev_call h_law_divisor (hr.mono (by omega)) (eva_cons (ev_lst (eva_cons (ev_var .here) (eva_cons (ev_var (.there .here)) eva_nil))) eva_nil)) (fun _ => (.there (.there .here))) (fun v_law_piece => (bf_if (e1 := (fun (s10 : D) => [("_law_up", some v_law_up), ("_law_down", some v_law_down), ("_law_piece", some s10)])) (tv_cmp hu (ev_var (.there .here)) ev_int) (bf_set (ev_un (ev_var (.there (.there .here)))) (fun _ => (.there (.there .here))) (fun v_law_piece => (bf_nil (l := (.same (.same (.same .nil))))))) (bf_nil (l := (.same (.same (.same .nil))))) (fun s10 => (bf_ret (ev_tup (eva_cons (ev_bin (ev_var .here) (ev_var (.there (.there .here)))) (eva_cons (ev_bin (ev_var (.there .here)) (ev_var (.there (.there .here)))) eva_nil))))))))
abbrev s_law_is_number : Stmt := topS 15
theorem sc_law_is_number : FnScope ["_law_thing"] ["_law_thing"] (defScope s_law_is_number) := ⟨rfl, rfl, rfl, by decide +kernel, rfl, by decide +kernel, by decide +kernel⟩
def b_law_is_number (v_law_thing : D) : M (Fl Unit Empty) := (bnd (bnd (bnd (bnd (ret v_law_thing) fun d8 => bnd (bnd (ret (.ty "int")) fun d6 => bnd (ret []) fun ds7 => ret (d6 :: ds7)) fun ds9 => ret (d8 :: ds9)) isiM) (andM (bnd (bnd (bnd (ret v_law_thing) fun d3 => bnd (bnd (ret (.ty "bool")) fun d1 => bnd (ret []) fun ds2 => ret (d1 :: ds2)) fun ds4 => ret (d3 :: ds4)) isiM) notM))) rtM)
def m_law_is_number : SpX := sp1 fun v_law_thing => fnM (b_law_is_number v_law_thing)
theorem ok_law_is_number {P : Program} {w : World} {K : PySem.W.Frag} {mg : Str → Option Value} {base : Heap} {k : Nat} {f : Addr} {fd : FuncData} {dvs : List V} (F : FnD K "_law_is_number" "_law_is_number" s_law_is_number dvs f fd) (hk : 0 ≤ k) (m_bool : mg "bool" = none) (m_int : mg "int" = none) (m_isinstance : mg "isinstance" = none) : FnOk P w K mg base (L2.CX P w) (k + 1) f fd ["_law_thing"] (liftX K mg m_law_is_number) :=
  fn1 F sc_law_is_number fun cdv A outer s H E Z hr v_law_thing => by
    have hu := hr.units
    exact (bf_ret (ev_and (ev_blt m_isinstance bt_isinstance isiM_ok (eva_cons (ev_var .here) (eva_cons (ev_ty m_int bt_int) eva_nil))) (ev_one (ev_not (ev_blt m_isinstance bt_isinstance isiM_ok (eva_cons (ev_var .here) (eva_cons (ev_ty m_bool bt_bool) eva_nil)))))))
theorem okP_law_is_number {P : Program} {w : World} {K : PySem.W.Frag} {mg : Str → Option Value} {base : Heap} {k : Nat} {f : Addr} {fd : FuncData} (F : Fun K "_law_is_number" "_law_is_number" s_law_is_number f fd) (hm : mg "_law_is_number" = some (.ref f)) (hb : Binds K fd ["_law_thing"] []) (hk : 0 ≤ k) (m_bool : mg "bool" = none) (m_int : mg "int" = none) (m_isinstance : mg "isinstance" = none) : KnowsP P w K mg base (k + 1) "_law_is_number" 1 fun ds m R => m_law_is_number ds m R NoX :=
  fp1 F sc_law_is_number hm hb fun cdv A outer s H p hr v_law_thing => by
    have hu := uH hr
    exact (bf_ret (ev_and (ev_blt m_isinstance bt_isinstance isiM_ok (eva_cons (ev_var .here) (eva_cons (ev_ty m_int bt_int) eva_nil))) (ev_one (ev_not (ev_blt m_isinstance bt_isinstance isiM_ok (eva_cons (ev_var .here) (eva_cons (ev_ty m_bool bt_bool) eva_nil)))))))
abbrev s_law_in_terms : Stmt := topS 20
theorem sc_law_in_terms : FnScope ["_law_one", "_law_up", "_law_down"] ["_law_one", "_law_up", "_law_down"] (defScope s_law_in_terms) := ⟨rfl, rfl, rfl, by decide +kernel, rfl, by decide +kernel, by decide +kernel⟩
def b_law_in_terms (v_law_one : D) (v_law_up : D) (v_law_down : D) : M (Fl Unit Empty) := (bnd (bnd (bnd (bnd (bnd (bnd (ret v_law_one) fun d15 => bnd (bnd (ret (.ty "tuple")) fun d13 => bnd (ret []) fun ds14 => ret (d13 :: ds14)) fun ds16 => ret (d15 :: ds16)) isiM) truB) notB) (orB (bnd (bnd (bnd (bnd (ret v_law_one) fun d9 => bnd (ret []) fun ds10 => ret (d9 :: ds10)) lenM) fun x11 => bnd (ret (.int 2)) fun x12 => cmpB .NotEq x11 x12) (orB (bnd (bnd (bnd (bnd (bnd (bnd (ret v_law_one) fun x5 => bnd (ret (.int 0)) fun x6 => ixM x5 x6) fun d7 => bnd (ret []) fun ds8 => ret (d7 :: ds8)) m_law_is_number) truB) notB) (orB (bnd (bnd (bnd (bnd (bnd (ret v_law_one) fun x1 => bnd (ret (.int 1)) fun x2 => ixM x1 x2) fun d3 => bnd (ret []) fun ds4 => ret (d3 :: ds4)) m_law_is_number) truB) notB))))))) fun b17 => iteM b17 (bnd (ret (.bl false)) rtM) (bnd (bnd (ret v_law_one) fun x22 => bnd (bnd (bnd (ret v_law_up) fun d20 => bnd (bnd (ret v_law_down) fun d18 => bnd (ret []) fun ds19 => ret (d18 :: ds19)) fun ds21 => ret (d20 :: ds21)) m_law_ratio) fun x23 => cmpM .Eq x22 x23) rtM))
def m_law_in_terms : SpX := sp3 fun v_law_one v_law_up v_law_down => fnM (b_law_in_terms v_law_one v_law_up v_law_down)
theorem ok_law_in_terms {P : Program} {w : World} {K : PySem.W.Frag} {mg : Str → Option Value} {base : Heap} {k : Nat} {f : Addr} {fd : FuncData} {dvs : List V} (F : FnD K "_law_in_terms" "_law_in_terms" s_law_in_terms dvs f fd) (hk : 2 ≤ k) (m_isinstance : mg "isinstance" = none) (m_len : mg "len" = none) (m_tuple : mg "tuple" = none) (h_law_is_number : KnowsX P w K mg base k "_law_is_number" 1 [] m_law_is_number) (h_law_ratio : KnowsX P w K mg base k "_law_ratio" 2 [] m_law_ratio) : FnOk P w K mg base (L2.CX P w) (k + 1) f fd ["_law_one", "_law_up", "_law_down"] (liftX K mg m_law_in_terms) :=
  fn3 F sc_law_in_terms fun cdv A outer s H E Z hr v_law_one v_law_up v_law_down => by
    have hu := hr.units
    exact (bf_ifX (tv_w (wv_or (tv_not (tv_val (ev_blt m_isinstance bt_isinstance isiM_ok (eva_cons (ev_var .here) (eva_cons (ev_ty m_tuple bt_tuple) eva_nil))))) (wv_or (tv_cmp hu (ev_blt m_len bt_len lenM_ok (eva_cons (ev_var .here) eva_nil)) ev_int) (wv_or (tv_not (tv_val (ev_call h_law_is_number (hr.mono (by omega)) (eva_cons (ev_ix (ev_var .here) ev_int) eva_nil)))) (wv_or1 (tv_not (tv_val (ev_call h_law_is_number (hr.mono (by omega)) (eva_cons (ev_ix (ev_var .here) ev_int) eva_nil))))))))) (bf_ret ev_bl) (bf_ret (ev_cmp hu (ev_var .here) (ev_call h_law_ratio (hr.mono (by omega)) (eva_cons (ev_var (.there .here)) (eva_cons (ev_var (.there (.there .here))) eva_nil))))))
abbrev s_plus : Stmt := topS 7
theorem sc_plus : FnScope ["one", "other"] ["one", "other"] (defScope s_plus) := ⟨rfl, rfl, rfl, by decide +kernel, rfl, by decide +kernel, by decide +kernel⟩
def b_plus (v_one : D) (v_other : D) : M (Fl Unit Empty) := (bnd (bnd (bnd (bnd (bnd (bnd (ret v_one) fun x1 => bnd (ret (.int 0)) fun x2 => ixM x1 x2) fun x5 => bnd (bnd (ret v_other) fun x3 => bnd (ret (.int 1)) fun x4 => ixM x3 x4) fun x6 => binM .Mult x5 x6) fun x13 => bnd (bnd (bnd (ret v_other) fun x7 => bnd (ret (.int 0)) fun x8 => ixM x7 x8) fun x11 => bnd (bnd (ret v_one) fun x9 => bnd (ret (.int 1)) fun x10 => ixM x9 x10) fun x12 => binM .Mult x11 x12) fun x14 => binM .Add x13 x14) fun d23 => bnd (bnd (bnd (bnd (ret v_one) fun x15 => bnd (ret (.int 1)) fun x16 => ixM x15 x16) fun x19 => bnd (bnd (ret v_other) fun x17 => bnd (ret (.int 1)) fun x18 => ixM x17 x18) fun x20 => binM .Mult x19 x20) fun d21 => bnd (ret []) fun ds22 => ret (d21 :: ds22)) fun ds24 => ret (d23 :: ds24)) m_ratio) rtM)
def m_plus : SpX := sp2 fun v_one v_other => fnM (b_plus v_one v_other)
theorem ok_plus {P : Program} {w : World} {K : PySem.W.Frag} {mg : Str → Option Value} {base : Heap} {k : Nat} {f : Addr} {fd : FuncData} {dvs : List V} (F : FnD K "plus" "plus" s_plus dvs f fd) (hk : 2 ≤ k) (h_ratio : KnowsX P w K mg base k "ratio" 2 [] m_ratio) : FnOk P w K mg base (L2.CX P w) (k + 1) f fd ["one", "other"] (liftX K mg m_plus) :=
  fn2 F sc_plus fun cdv A outer s H E Z hr v_one v_other => by
    have hu := hr.units
    exact (bf_ret (ev_call h_ratio (hr.mono (by omega)) (eva_cons (ev_bin (ev_bin (ev_ix (ev_var .here) ev_int) (ev_ix (ev_var (.there .here)) ev_int)) (ev_bin (ev_ix (ev_var (.there .here)) ev_int) (ev_ix (ev_var .here) ev_int))) (eva_cons (ev_bin (ev_ix (ev_var .here) ev_int) (ev_ix (ev_var (.there .here)) ev_int)) eva_nil))))
abbrev s_minus : Stmt := topS 8
theorem sc_minus : FnScope ["one", "other"] ["one", "other"] (defScope s_minus) := ⟨rfl, rfl, rfl, by decide +kernel, rfl, by decide +kernel, by decide +kernel⟩
def b_minus (v_one : D) (v_other : D) : M (Fl Unit Empty) := (bnd (bnd (bnd (bnd (bnd (bnd (ret v_one) fun x1 => bnd (ret (.int 0)) fun x2 => ixM x1 x2) fun x5 => bnd (bnd (ret v_other) fun x3 => bnd (ret (.int 1)) fun x4 => ixM x3 x4) fun x6 => binM .Mult x5 x6) fun x13 => bnd (bnd (bnd (ret v_other) fun x7 => bnd (ret (.int 0)) fun x8 => ixM x7 x8) fun x11 => bnd (bnd (ret v_one) fun x9 => bnd (ret (.int 1)) fun x10 => ixM x9 x10) fun x12 => binM .Mult x11 x12) fun x14 => binM .Sub x13 x14) fun d23 => bnd (bnd (bnd (bnd (ret v_one) fun x15 => bnd (ret (.int 1)) fun x16 => ixM x15 x16) fun x19 => bnd (bnd (ret v_other) fun x17 => bnd (ret (.int 1)) fun x18 => ixM x17 x18) fun x20 => binM .Mult x19 x20) fun d21 => bnd (ret []) fun ds22 => ret (d21 :: ds22)) fun ds24 => ret (d23 :: ds24)) m_ratio) rtM)
def m_minus : SpX := sp2 fun v_one v_other => fnM (b_minus v_one v_other)
theorem ok_minus {P : Program} {w : World} {K : PySem.W.Frag} {mg : Str → Option Value} {base : Heap} {k : Nat} {f : Addr} {fd : FuncData} {dvs : List V} (F : FnD K "minus" "minus" s_minus dvs f fd) (hk : 2 ≤ k) (h_ratio : KnowsX P w K mg base k "ratio" 2 [] m_ratio) : FnOk P w K mg base (L2.CX P w) (k + 1) f fd ["one", "other"] (liftX K mg m_minus) :=
  fn2 F sc_minus fun cdv A outer s H E Z hr v_one v_other => by
    have hu := hr.units
    exact (bf_ret (ev_call h_ratio (hr.mono (by omega)) (eva_cons (ev_bin (ev_bin (ev_ix (ev_var .here) ev_int) (ev_ix (ev_var (.there .here)) ev_int)) (ev_bin (ev_ix (ev_var (.there .here)) ev_int) (ev_ix (ev_var .here) ev_int))) (eva_cons (ev_bin (ev_ix (ev_var .here) ev_int) (ev_ix (ev_var (.there .here)) ev_int)) eva_nil))))
abbrev s_times : Stmt := topS 9
theorem sc_times : FnScope ["one", "other"] ["one", "other"] (defScope s_times) := ⟨rfl, rfl, rfl, by decide +kernel, rfl, by decide +kernel, by decide +kernel⟩
def b_times (v_one : D) (v_other : D) : M (Fl Unit Empty) := (bnd (bnd (bnd (bnd (bnd (ret v_one) fun x1 => bnd (ret (.int 0)) fun x2 => ixM x1 x2) fun x5 => bnd (bnd (ret v_other) fun x3 => bnd (ret (.int 0)) fun x4 => ixM x3 x4) fun x6 => binM .Mult x5 x6) fun d15 => bnd (bnd (bnd (bnd (ret v_one) fun x7 => bnd (ret (.int 1)) fun x8 => ixM x7 x8) fun x11 => bnd (bnd (ret v_other) fun x9 => bnd (ret (.int 1)) fun x10 => ixM x9 x10) fun x12 => binM .Mult x11 x12) fun d13 => bnd (ret []) fun ds14 => ret (d13 :: ds14)) fun ds16 => ret (d15 :: ds16)) m_ratio) rtM)
def m_times : SpX := sp2 fun v_one v_other => fnM (b_times v_one v_other)
theorem ok_times {P : Program} {w : World} {K : PySem.W.Frag} {mg : Str → Option Value} {base : Heap} {k : Nat} {f : Addr} {fd : FuncData} {dvs : List V} (F : FnD K "times" "times" s_times dvs f fd) (hk : 2 ≤ k) (h_ratio : KnowsX P w K mg base k "ratio" 2 [] m_ratio) : FnOk P w K mg base (L2.CX P w) (k + 1) f fd ["one", "other"] (liftX K mg m_times) :=
  fn2 F sc_times fun cdv A outer s H E Z hr v_one v_other => by
    have hu := hr.units
    exact (bf_ret (ev_call h_ratio (hr.mono (by omega)) (eva_cons (ev_bin (ev_ix (ev_var .here) ev_int) (ev_ix (ev_var (.there .here)) ev_int)) (eva_cons (ev_bin (ev_ix (ev_var .here) ev_int) (ev_ix (ev_var (.there .here)) ev_int)) eva_nil))))
abbrev s_law_two_right : Stmt := topS 21
theorem sc_law_two_right : FnScope ["_law_one", "_law_other", "_law_across", "_law_back", "_law_down", "_law_says"] ["_law_one", "_law_other"] (defScope s_law_two_right) := ⟨rfl, rfl, rfl, by decide +kernel, rfl, by decide +kernel, by decide +kernel⟩
def b_law_two_right (v_law_one : D) (v_law_other : D) : M (Fl Unit Empty) := (bnd (bnd (bnd (ret v_law_one) fun x1 => bnd (ret (.int 0)) fun x2 => ixM x1 x2) fun x5 => bnd (bnd (ret v_law_other) fun x3 => bnd (ret (.int 1)) fun x4 => ixM x3 x4) fun x6 => binM .Mult x5 x6) fun v_law_across => (bnd (bnd (bnd (ret v_law_other) fun x7 => bnd (ret (.int 0)) fun x8 => ixM x7 x8) fun x11 => bnd (bnd (ret v_law_one) fun x9 => bnd (ret (.int 1)) fun x10 => ixM x9 x10) fun x12 => binM .Mult x11 x12) fun v_law_back => (bnd (bnd (bnd (ret v_law_one) fun x13 => bnd (ret (.int 1)) fun x14 => ixM x13 x14) fun x17 => bnd (bnd (ret v_law_other) fun x15 => bnd (ret (.int 1)) fun x16 => ixM x15 x16) fun x18 => binM .Mult x17 x18) fun v_law_down => (bnd (bnd (bnd (bnd (bnd (bnd (bnd (ret v_law_one) fun d21 => bnd (bnd (ret v_law_other) fun d19 => bnd (ret []) fun ds20 => ret (d19 :: ds20)) fun ds22 => ret (d21 :: ds22)) m_plus) fun d29 => bnd (bnd (bnd (ret v_law_across) fun x23 => bnd (ret v_law_back) fun x24 => binM .Add x23 x24) fun d27 => bnd (bnd (ret v_law_down) fun d25 => bnd (ret []) fun ds26 => ret (d25 :: ds26)) fun ds28 => ret (d27 :: ds28)) fun ds30 => ret (d29 :: ds30)) m_law_in_terms) truB) notB) fun b31 => iteM b31 (bnd (ret (.bl false)) rtM) (bnd (bnd (bnd (bnd (bnd (bnd (bnd (ret v_law_one) fun d34 => bnd (bnd (ret v_law_other) fun d32 => bnd (ret []) fun ds33 => ret (d32 :: ds33)) fun ds35 => ret (d34 :: ds35)) m_minus) fun d42 => bnd (bnd (bnd (ret v_law_across) fun x36 => bnd (ret v_law_back) fun x37 => binM .Sub x36 x37) fun d40 => bnd (bnd (ret v_law_down) fun d38 => bnd (ret []) fun ds39 => ret (d38 :: ds39)) fun ds41 => ret (d40 :: ds41)) fun ds43 => ret (d42 :: ds43)) m_law_in_terms) truB) notB) fun b44 => iteM b44 (bnd (ret (.bl false)) rtM) (bnd (bnd (bnd (bnd (bnd (bnd (bnd (ret v_law_one) fun d47 => bnd (bnd (ret v_law_other) fun d45 => bnd (ret []) fun ds46 => ret (d45 :: ds46)) fun ds48 => ret (d47 :: ds48)) m_times) fun d59 => bnd (bnd (bnd (bnd (ret v_law_one) fun x49 => bnd (ret (.int 0)) fun x50 => ixM x49 x50) fun x53 => bnd (bnd (ret v_law_other) fun x51 => bnd (ret (.int 0)) fun x52 => ixM x51 x52) fun x54 => binM .Mult x53 x54) fun d57 => bnd (bnd (ret v_law_down) fun d55 => bnd (ret []) fun ds56 => ret (d55 :: ds56)) fun ds58 => ret (d57 :: ds58)) fun ds60 => ret (d59 :: ds60)) m_law_in_terms) truB) notB) fun b61 => iteM b61 (bnd (ret (.bl false)) rtM) (bnd (bnd (bnd (ret v_law_one) fun d64 => bnd (bnd (ret v_law_other) fun d62 => bnd (ret []) fun ds63 => ret (d62 :: ds63)) fun ds65 => ret (d64 :: ds65)) m_compare) fun v_law_says => (bnd (bnd (bnd (bnd (ret v_law_says) fun d78 => bnd (ret []) fun ds79 => ret (d78 :: ds79)) m_law_is_number) (andM (bnd (ret v_law_says) fun x76 => bnd (bnd (bnd (bnd (bnd (ret v_law_across) fun x66 => bnd (ret v_law_back) fun x67 => cmpM .Gt x66 x67) fun d68 => bnd (ret []) fun ds69 => ret (d68 :: ds69)) intM) fun x74 => bnd (bnd (bnd (bnd (ret v_law_across) fun x70 => bnd (ret v_law_back) fun x71 => cmpM .Lt x70 x71) fun d72 => bnd (ret []) fun ds73 => ret (d72 :: ds73)) intM) fun x75 => binM .Sub x74 x75) fun x77 => cmpM .Eq x76 x77))) rtM))))))))
def m_law_two_right : SpX := sp2 fun v_law_one v_law_other => fnM (b_law_two_right v_law_one v_law_other)
theorem ok_law_two_right {P : Program} {w : World} {K : PySem.W.Frag} {mg : Str → Option Value} {base : Heap} {k : Nat} {f : Addr} {fd : FuncData} {dvs : List V} (F : FnD K "_law_two_right" "_law_two_right" s_law_two_right dvs f fd) (hk : 3 ≤ k) (m_int : mg "int" = none) (h_law_in_terms : KnowsX P w K mg base k "_law_in_terms" 3 [] m_law_in_terms) (h_law_is_number : KnowsX P w K mg base k "_law_is_number" 1 [] m_law_is_number) (h_compare : KnowsX P w K mg base k "compare" 2 [] m_compare) (h_minus : KnowsX P w K mg base k "minus" 2 [] m_minus) (h_plus : KnowsX P w K mg base k "plus" 2 [] m_plus) (h_times : KnowsX P w K mg base k "times" 2 [] m_times) : FnOk P w K mg base (L2.CX P w) (k + 1) f fd ["_law_one", "_law_other"] (liftX K mg m_law_two_right) :=
  fn2 F sc_law_two_right fun cdv A outer s H E Z hr v_law_one v_law_other => by
    have hu := hr.units
    exact (bf_set (ev_bin (ev_ix (ev_var .here) ev_int) (ev_ix (ev_var (.there .here)) ev_int)) (fun _ => (.there (.there .here))) (fun v_law_across => (bf_set (ev_bin (ev_ix (ev_var (.there .here)) ev_int) (ev_ix (ev_var .here) ev_int)) (fun _ => (.there (.there (.there .here)))) (fun v_law_back => (bf_set (ev_bin (ev_ix (ev_var .here) ev_int) (ev_ix (ev_var (.there .here)) ev_int)) (fun _ => (.there (.there (.there (.there .here))))) (fun v_law_down => (bf_ifX (tv_not (tv_val (ev_call h_law_in_terms (hr.mono (by omega)) (eva_cons (ev_call h_plus (hr.mono (by omega)) (eva_cons (ev_var .here) (eva_cons (ev_var (.there .here)) eva_nil))) (eva_cons (ev_bin (ev_var (.there (.there .here))) (ev_var (.there (.there (.there .here))))) (eva_cons (ev_var (.there (.there (.there (.there .here))))) eva_nil)))))) (bf_ret ev_bl) (bf_ifX (tv_not (tv_val (ev_call h_law_in_terms (hr.mono (by omega)) (eva_cons (ev_call h_minus (hr.mono (by omega)) (eva_cons (ev_var .here) (eva_cons (ev_var (.there .here)) eva_nil))) (eva_cons (ev_bin (ev_var (.there (.there .here))) (ev_var (.there (.there (.there .here))))) (eva_cons (ev_var (.there (.there (.there (.there .here))))) eva_nil)))))) (bf_ret ev_bl) (bf_ifX (tv_not (tv_val (ev_call h_law_in_terms (hr.mono (by omega)) (eva_cons (ev_call h_times (hr.mono (by omega)) (eva_cons (ev_var .here) (eva_cons (ev_var (.there .here)) eva_nil))) (eva_cons (ev_bin (ev_ix (ev_var .here) ev_int) (ev_ix (ev_var (.there .here)) ev_int)) (eva_cons (ev_var (.there (.there (.there (.there .here))))) eva_nil)))))) (bf_ret ev_bl) (bf_set (ev_call h_compare (hr.mono (by omega)) (eva_cons (ev_var .here) (eva_cons (ev_var (.there .here)) eva_nil))) (fun _ => (.there (.there (.there (.there (.there .here)))))) (fun v_law_says => (bf_ret (ev_and (ev_call h_law_is_number (hr.mono (by omega)) (eva_cons (ev_var (.there (.there (.there (.there (.there .here)))))) eva_nil)) (ev_one (ev_cmp hu (ev_var (.there (.there (.there (.there (.there .here)))))) (ev_bin (ev_blT m_int bt_int intM_ok (eva_cons (ev_cmp hu (ev_var (.there (.there .here))) (ev_var (.there (.there (.there .here))))) eva_nil)) (ev_blT m_int bt_int intM_ok (eva_cons (ev_cmp hu (ev_var (.there (.there .here))) (ev_var (.there (.there (.there .here))))) eva_nil))))))))))))))))))
abbrev s_law_near_right : Stmt := topS 22
theorem sc_law_near_right : FnScope ["_law_one", "_law_far", "_law_near"] ["_law_one"] (defScope s_law_near_right) := ⟨rfl, rfl, rfl, by decide +kernel, rfl, by decide +kernel, by decide +kernel⟩
def b_law_near_right (v_law_one : D) : M (Fl Unit Empty) := (bnd (bnd (ret (.int 10)) fun x1 => bnd (ret (.int 20)) fun x2 => binM .Pow x1 x2) fun v_law_far => (bnd (bnd (bnd (bnd (bnd (bnd (ret v_law_one) fun x9 => bnd (ret (.int 0)) fun x10 => ixM x9 x10) fun d11 => bnd (ret []) fun ds12 => ret (d11 :: ds12)) absM) fun x15 => bnd (bnd (ret (.int 10)) fun x13 => bnd (ret (.int 8)) fun x14 => binM .Pow x13 x14) fun x16 => cmpB .Gt x15 x16) (orB (bnd (bnd (ret v_law_one) fun x3 => bnd (ret (.int 1)) fun x4 => ixM x3 x4) fun x7 => bnd (bnd (ret (.int 10)) fun x5 => bnd (ret (.int 8)) fun x6 => binM .Pow x5 x6) fun x8 => cmpB .Gt x7 x8))) fun b17 => iteM b17 (bnd (ret (.bl true)) rtM) (bnd (bnd (bnd (bnd (bnd (bnd (ret v_law_one) fun x18 => bnd (ret (.int 0)) fun x19 => ixM x18 x19) fun x20 => bnd (ret v_law_far) fun x21 => binM .Mult x20 x21) fun x22 => bnd (ret (.int 1)) fun x23 => binM .Add x22 x23) fun d30 => bnd (bnd (bnd (bnd (ret v_law_one) fun x24 => bnd (ret (.int 1)) fun x25 => ixM x24 x25) fun x26 => bnd (ret v_law_far) fun x27 => binM .Mult x26 x27) fun d28 => bnd (ret []) fun ds29 => ret (d28 :: ds29)) fun ds31 => ret (d30 :: ds31)) m_ratio) fun v_law_near => (bnd (bnd (bnd (bnd (bnd (ret v_law_near) fun d41 => bnd (bnd (ret v_law_one) fun d39 => bnd (ret []) fun ds40 => ret (d39 :: ds40)) fun ds42 => ret (d41 :: ds42)) m_compare) fun x43 => bnd (ret (.int 1)) fun x44 => cmpB .NotEq x43 x44) (orB (bnd (bnd (bnd (ret v_law_one) fun d34 => bnd (bnd (ret v_law_near) fun d32 => bnd (ret []) fun ds33 => ret (d32 :: ds33)) fun ds35 => ret (d34 :: ds35)) m_compare) fun x37 => bnd (bnd (ret (.int 1)) fun x36 => unM .USub x36) fun x38 => cmpB .NotEq x37 x38))) fun b45 => iteM b45 (bnd (ret (.bl false)) rtM) (bnd (bnd (bnd (bnd (ret v_law_one) fun d52 => bnd (bnd (ret v_law_near) fun d50 => bnd (ret []) fun ds51 => ret (d50 :: ds51)) fun ds53 => ret (d52 :: ds53)) m_law_two_right) (andM (bnd (bnd (ret v_law_near) fun d48 => bnd (bnd (ret v_law_one) fun d46 => bnd (ret []) fun ds47 => ret (d46 :: ds47)) fun ds49 => ret (d48 :: ds49)) m_law_two_right))) rtM)))))
def m_law_near_right : SpX := sp1 fun v_law_one => fnM (b_law_near_right v_law_one)
theorem ok_law_near_right {P : Program} {w : World} {K : PySem.W.Frag} {mg : Str → Option Value} {base : Heap} {k : Nat} {f : Addr} {fd : FuncData} {dvs : List V} (F : FnD K "_law_near_right" "_law_near_right" s_law_near_right dvs f fd) (hk : 4 ≤ k) (m_abs : mg "abs" = none) (h_law_two_right : KnowsX P w K mg base k "_law_two_right" 2 [] m_law_two_right) (h_compare : KnowsX P w K mg base k "compare" 2 [] m_compare) (h_ratio : KnowsX P w K mg base k "ratio" 2 [] m_ratio) : FnOk P w K mg base (L2.CX P w) (k + 1) f fd ["_law_one"] (liftX K mg m_law_near_right) :=
  fn1 F sc_law_near_right fun cdv A outer s H E Z hr v_law_one => by
    have hu := hr.units
    exact (bf_set (ev_bin ev_int ev_int) (fun _ => (.there .here)) (fun v_law_far => (bf_ifX (tv_w (wv_or (tv_cmp hu (ev_blt m_abs bt_abs absM_ok (eva_cons (ev_ix (ev_var .here) ev_int) eva_nil)) (ev_bin ev_int ev_int)) (wv_or1 (tv_cmp hu (ev_ix (ev_var .here) ev_int) (ev_bin ev_int ev_int))))) (bf_ret ev_bl) (bf_set (ev_call h_ratio (hr.mono (by omega)) (eva_cons (ev_bin (ev_bin (ev_ix (ev_var .here) ev_int) (ev_var (.there .here))) ev_int) (eva_cons (ev_bin (ev_ix (ev_var .here) ev_int) (ev_var (.there .here))) eva_nil))) (fun _ => (.there (.there .here))) (fun v_law_near => (bf_ifX (tv_w (wv_or (tv_cmp hu (ev_call h_compare (hr.mono (by omega)) (eva_cons (ev_var (.there (.there .here))) (eva_cons (ev_var .here) eva_nil))) ev_int) (wv_or1 (tv_cmp hu (ev_call h_compare (hr.mono (by omega)) (eva_cons (ev_var .here) (eva_cons (ev_var (.there (.there .here))) eva_nil))) (ev_un ev_int))))) (bf_ret ev_bl) (bf_ret (ev_and (ev_call h_law_two_right (hr.mono (by omega)) (eva_cons (ev_var .here) (eva_cons (ev_var (.there (.there .here))) eva_nil))) (ev_one (ev_call h_law_two_right (hr.mono (by omega)) (eva_cons (ev_var (.there (.there .here))) (eva_cons (ev_var .here) eva_nil))))))))))))
abbrev s_together : Stmt := topS 11
theorem sc_together : FnScope ["ratios", "unit", "top", "bottom"] ["ratios"] (defScope s_together) := ⟨rfl, rfl, rfl, by decide +kernel, rfl, by decide +kernel, by decide +kernel⟩
def b_together (v_ratios : D) : M (Fl Unit Empty) := (bnd (ret (.int 1)) fun v_unit => (bnd (bnd (ret v_ratios) seqM) fun ds2 => seqF (forF (fun d3 (s1 : D) => ut2 d3 fun v_top v_bottom => (bnd (bnd (bnd (ret s1) fun x4 => bnd (ret v_bottom) fun x5 => binM .Mult x4 x5) fun x12 => bnd (bnd (bnd (bnd (bnd (ret s1) fun d8 => bnd (bnd (ret v_bottom) fun d6 => bnd (ret []) fun ds7 => ret (d6 :: ds7)) fun ds9 => ret (d8 :: ds9)) mkL) fun d10 => bnd (ret []) fun ds11 => ret (d10 :: ds11)) m_divisor) fun x13 => binM .FloorDiv x12 x13) fun v_unit => (ret (.nx v_unit)))) ds2 v_unit) fun (s1 : D) => (bnd (bnd (bnd (ret s1) fun d24 => bnd (bnd (bnd (bnd (ret v_ratios) seqM) fun ds21 => bnd (compM (fun d20 => un2 d20 fun v_top_14 v_bottom_15 => bnd (bnd (ret v_top_14) fun x18 => bnd (bnd (ret s1) fun x16 => bnd (ret v_bottom_15) fun x17 => binM .FloorDiv x16 x17) fun x19 => binM .Mult x18 x19) someM) ds21 []) lsMM) fun d22 => bnd (ret []) fun ds23 => ret (d22 :: ds23)) fun ds25 => ret (d24 :: ds25)) mkT) rtM)))
def m_together : SpX := sp1 fun v_ratios => fnK (b_together v_ratios)
theorem ok_together {P : Program} {w : World} {K : PySem.W.Frag} {mg : Str → Option Value} {base : Heap} {k : Nat} {f : Addr} {fd : FuncData} {dvs : List V} (F : FnD K "together" "together" s_together dvs f fd) (hk : 1 ≤ k) (h_divisor : KnowsX P w K mg base k "divisor" 1 [] m_divisor) : FnOk P w K mg base (L2.CX P w) (k + 1) f fd ["ratios"] (liftX K mg m_together) :=
  fk1 F sc_together fun cdv A outer s H E Z hr v_ratios => by
    have hu := hr.units
    exact (bf_set ev_int (fun _ => (.there .here)) (fun v_unit => (bf_for (e1 := (fun (s1 : D) => [("ratios", some v_ratios), ("unit", some s1), ("top", none), ("bottom", none)])) (iv_seq (ev_var .here)) (.same (.same (.same (.same .nil)))) (fun d3 s1 => bg_tup2 (fun _ => (.there (.there .here))) (fun _ _ => (.there (.there (.there .here)))) (fun v_top v_bottom => (bf_set (ev_bin (ev_bin (ev_var (.there .here)) (ev_var (.there (.there (.there .here))))) (ev_call h_divisor (hr.mono (by omega)) (eva_cons (ev_lst (eva_cons (ev_var (.there .here)) (eva_cons (ev_var (.there (.there (.there .here)))) eva_nil))) eva_nil))) (fun _ => (.there .here)) (fun v_unit => (bf_nil (l := (.same (.same (.drop (.drop .nil)))))))))) (fun s1 => (bf_ret (ev_tup (eva_cons (ev_var (.there .here)) (eva_cons (ev_lcPM (.there (.there .here)) (.there (.there (.there .here))) (iv_seq (ev_var .here)) (cvp0 (fun _ => (.there (.there .here))) (fun _ _ => (.there (.there (.there .here)))) (fun v_top_14 v_bottom_15 s0 H0 C0 cl0 fp0 => (ev_bin (ev_var (.there (.there .here))) (ev_bin (ev_var (.there .here)) (ev_var (.there (.there (.there .here))))))))) eva_nil))))))))
abbrev s_law_together_right : Stmt := topS 25
theorem sc_law_together_right : FnScope ["_law_ratios", "_law_unit", "_law_one", "_law_given", "_law_answer", "_law_due"] ["_law_ratios"] (defScope s_law_together_right) := ⟨rfl, rfl, rfl, by decide +kernel, rfl, by decide +kernel, by decide +kernel⟩
def b_law_together_right (v_law_ratios : D) : M (Fl Unit Empty) := (bnd (ret (.int 1)) fun v_law_unit => (bnd (bnd (ret v_law_ratios) seqM) fun ds2 => seqF (forF (fun v_law_one (s1 : D) => (bnd (bnd (bnd (ret s1) fun x5 => bnd (bnd (ret v_law_one) fun x3 => bnd (ret (.int 1)) fun x4 => ixM x3 x4) fun x6 => binM .Mult x5 x6) fun x15 => bnd (bnd (bnd (bnd (bnd (ret s1) fun d11 => bnd (bnd (bnd (ret v_law_one) fun x7 => bnd (ret (.int 1)) fun x8 => ixM x7 x8) fun d9 => bnd (ret []) fun ds10 => ret (d9 :: ds10)) fun ds12 => ret (d11 :: ds12)) mkL) fun d13 => bnd (ret []) fun ds14 => ret (d13 :: ds14)) m_law_divisor) fun x16 => binM .FloorDiv x15 x16) fun v_law_unit => (ret (.nx v_law_unit)))) ds2 v_law_unit) fun (s1 : D) => (bnd (bnd (bnd (ret v_law_ratios) fun d17 => bnd (ret []) fun ds18 => ret (d17 :: ds18)) listM) fun v_law_given => (bnd (bnd (bnd (ret v_law_given) fun d19 => bnd (ret []) fun ds20 => ret (d19 :: ds20)) m_together) fun v_law_answer => (bnd (bnd (bnd (ret v_law_given) fun x29 => bnd (ret v_law_ratios) fun x30 => cmpB .NotEq x29 x30) (orB (bnd (bnd (bnd (bnd (bnd (ret v_law_answer) fun d27 => bnd (bnd (ret (.ty "tuple")) fun d25 => bnd (ret []) fun ds26 => ret (d25 :: ds26)) fun ds28 => ret (d27 :: ds28)) isiM) truB) notB) (orB (bnd (bnd (bnd (ret v_law_answer) fun d21 => bnd (ret []) fun ds22 => ret (d21 :: ds22)) lenM) fun x23 => bnd (ret (.int 2)) fun x24 => cmpB .NotEq x23 x24))))) fun b31 => iteM b31 (bnd (ret (.bl false)) rtM) (bnd (bnd (bnd (ret s1) fun d44 => bnd (bnd (bnd (bnd (ret v_law_ratios) seqM) fun ds41 => bnd (compM (fun v_law_one_32 => bnd (bnd (bnd (ret v_law_one_32) fun x33 => bnd (ret (.int 0)) fun x34 => ixM x33 x34) fun x39 => bnd (bnd (ret s1) fun x37 => bnd (bnd (ret v_law_one_32) fun x35 => bnd (ret (.int 1)) fun x36 => ixM x35 x36) fun x38 => binM .FloorDiv x37 x38) fun x40 => binM .Mult x39 x40) someM) ds41 []) lsM) fun d42 => bnd (ret []) fun ds43 => ret (d42 :: ds43)) fun ds45 => ret (d44 :: ds45)) mkT) fun v_law_due => (bnd (bnd (bnd (ret v_law_answer) fun x52 => bnd (ret v_law_due) fun x53 => cmpB .NotEq x52 x53) (orB (bnd (bnd (bnd (bnd (bnd (ret v_law_ratios) fun d46 => bnd (ret []) fun ds47 => ret (d46 :: ds47)) tupleM) fun d48 => bnd (ret []) fun ds49 => ret (d48 :: ds49)) m_together) fun x50 => bnd (ret v_law_due) fun x51 => cmpB .NotEq x50 x51))) fun b54 => iteM b54 (bnd (ret (.bl false)) rtM) (bnd (bnd (bnd (ret v_law_answer) fun x55 => bnd (ret (.int 1)) fun x56 => ixM x55 x56) fun u57 => bnd (chkL u57) fun _ => bnd (ret (.int 7)) fun y58 => appM u57 y58) fun _ => (bnd (bnd (bnd (bnd (ret v_law_given) fun d59 => bnd (ret []) fun ds60 => ret (d59 :: ds60)) m_together) fun x61 => bnd (ret v_law_due) fun x62 => cmpM .Eq x61 x62) rtM)))))))))
def m_law_together_right : SpX := sp1 fun v_law_ratios => fnM (b_law_together_right v_law_ratios)
theorem ok_law_together_right {P : Program} {w : World} {K : PySem.W.Frag} {mg : Str → Option Value} {base : Heap} {k : Nat} {f : Addr} {fd : FuncData} {dvs : List V} (F : FnD K "_law_together_right" "_law_together_right" s_law_together_right dvs f fd) (hk : 2 ≤ k) (m_isinstance : mg "isinstance" = none) (m_len : mg "len" = none) (m_list : mg "list" = none) (m_tuple : mg "tuple" = none) (h_law_divisor : KnowsX P w K mg base k "_law_divisor" 1 [] m_law_divisor) (h_together : KnowsX P w K mg base k "together" 1 [] m_together) : FnOk P w K mg base (L2.CX P w) (k + 1) f fd ["_law_ratios"] (liftX K mg m_law_together_right) :=
  fn1 F sc_law_together_right fun cdv A outer s H E Z hr v_law_ratios => by
    have hu := hr.units
    exact (bf_set ev_int (fun _ => (.there .here)) (fun v_law_unit => (bf_for (e1 := (fun (s1 : D) => [("_law_ratios", some v_law_ratios), ("_law_unit", some s1), ("_law_one", none), ("_law_given", none), ("_law_answer", none), ("_law_due", none)])) (iv_seq (ev_var .here)) (.same (.same (.same (.same (.same (.same .nil)))))) (fun v_law_one s1 => bg_name (.there (.there .here)) (bf_set (ev_bin (ev_bin (ev_var (.there .here)) (ev_ix (ev_var (.there (.there .here))) ev_int)) (ev_call h_law_divisor (hr.mono (by omega)) (eva_cons (ev_lst (eva_cons (ev_var (.there .here)) (eva_cons (ev_ix (ev_var (.there (.there .here))) ev_int) eva_nil))) eva_nil))) (fun _ => (.there .here)) (fun v_law_unit => (bf_nil (l := (.same (.same (.drop (.same (.same (.same .nil))))))))))) (fun s1 => (bf_set (ev_blT m_list bt_list listM_ok (eva_cons (ev_var .here) eva_nil)) (fun _ => (.there (.there (.there .here)))) (fun v_law_given => (bf_set (ev_call h_together (hr.mono (by omega)) (eva_cons (ev_var (.there (.there (.there .here)))) eva_nil)) (fun _ => (.there (.there (.there (.there .here))))) (fun v_law_answer => (bf_ifX (tv_w (wv_or (tv_cmp hu (ev_var (.there (.there (.there .here)))) (ev_var .here)) (wv_or (tv_not (tv_val (ev_blt m_isinstance bt_isinstance isiM_ok (eva_cons (ev_var (.there (.there (.there (.there .here))))) (eva_cons (ev_ty m_tuple bt_tuple) eva_nil))))) (wv_or1 (tv_cmp hu (ev_blt m_len bt_len lenM_ok (eva_cons (ev_var (.there (.there (.there (.there .here))))) eva_nil)) ev_int))))) (bf_ret ev_bl) (bf_set (ev_tup (eva_cons (ev_var (.there .here)) (eva_cons (ev_lc (.there (.there .here)) (iv_seq (ev_var .here)) (cv0 (fun _ => (.there (.there .here))) (fun v_law_one_32 s0 H0 C0 cl0 fp0 => (ev_bin (ev_ix (ev_var (.there (.there .here))) ev_int) (ev_bin (ev_var (.there .here)) (ev_ix (ev_var (.there (.there .here))) ev_int)))))) eva_nil))) (fun _ => (.there (.there (.there (.there (.there .here)))))) (fun v_law_due => (bf_ifX (tv_w (wv_or (tv_cmp hu (ev_var (.there (.there (.there (.there .here))))) (ev_var (.there (.there (.there (.there (.there .here))))))) (wv_or1 (tv_cmp hu (ev_call h_together (hr.mono (by omega)) (eva_cons (ev_blT m_tuple bt_tuple tupleM_ok (eva_cons (ev_var .here) eva_nil)) eva_nil)) (ev_var (.there (.there (.there (.there (.there .here)))))))))) (bf_ret ev_bl) (bf_expr (ev_append (ev_ix (ev_var (.there (.there (.there (.there .here))))) ev_int) ev_int) (bf_ret (ev_cmp hu (ev_call h_together (hr.mono (by omega)) (eva_cons (ev_var (.there (.there (.there .here)))) eva_nil)) (ev_var (.there (.there (.there (.there (.there .here)))))))))))))))))))))
abbrev s_law_refused : Stmt := topS 19
theorem sc_law_refused : FnScope ["_law_up", "e"] ["_law_up"] (defScope s_law_refused) := ⟨rfl, rfl, rfl, by decide +kernel, rfl, by decide +kernel, by decide +kernel⟩
def b_law_refused (v_law_up : D) : M (Fl Unit Empty) := (seqF (tryM [("BadRatio", true), ("DivisionError", false)] (bnd (bnd (bnd (ret v_law_up) fun d3 => bnd (bnd (ret (.int 0)) fun d1 => bnd (ret []) fun ds2 => ret (d1 :: ds2)) fun ds4 => ret (d3 :: ds4)) m_ratio) fun _ => (ret (.nx ()))) fun fd => (bnd (bnd (bnd (bnd (exfM "bottom" fd) fun d8 => bnd (ret []) fun ds9 => ret (d8 :: ds9)) fun ds m R _ => m_law_is_number ds m R NoX) (andM (bnd (exfM "bottom" fd) fun x6 => bnd (ret (.int 0)) fun x7 => cmpM .Eq x6 x7))) rtM)) fun (s5 : Unit) => (bnd (ret (.bl false)) rtM))
def m_law_refused : SpX := sp1 fun v_law_up => fnM (b_law_refused v_law_up)
theorem ok_law_refused {P : Program} {w : World} {K : PySem.W.Frag} {mg : Str → Option Value} {base : Heap} {k : Nat} {f : Addr} {fd : FuncData} {dvs : List V} (F : FnD K "_law_refused" "_law_refused" s_law_refused dvs f fd) (hk : 2 ≤ k) (h_ratio : KnowsX P w K mg base k "ratio" 2 [] m_ratio) (p_law_is_number : KnowsP P w K mg base k "_law_is_number" 1 fun ds m R => m_law_is_number ds m R NoX) (c_BadRatio : ∃ Cc, mg "BadRatio" = some (.ref Cc)) (xm_BadRatio : ∀ q ∈ ([("BadRatio", true), ("DivisionError", false)] : List (Str × Bool)), XM K mg q.1 "BadRatio" q.2) (xf_BadRatio_bottom : ∀ nm, (nm, true) ∈ ([("BadRatio", true), ("DivisionError", false)] : List (Str × Bool)) → ∀ C, mg nm = some (.ref C) → XfC K C ∧ PySem.W.findIn K (.ref C) "bottom" = some none) : FnOk P w K mg base (L2.CX P w) (k + 1) f fd ["_law_up"] (liftX K mg m_law_refused) :=
  fn1 F sc_law_refused fun cdv A outer s H E Z hr v_law_up => by
    have hu := hr.units
    exact (bf_tryAs (e1 := (fun (s5 : Unit) => [("_law_up", some v_law_up), ("e", none)])) c_BadRatio xm_BadRatio (.there .here) (fun _ => (.there .here)) (fun pn xe q => (by_expr (ev_call h_ratio (hr.mono (by omega)) (eva_cons (ev_var .here) (eva_cons ev_int eva_nil))) (by_nil (l := (.same (.same .nil)))))) (fun nm fd a dd oe pn hcl su => (bf_ret (ev_and (ev_callP p_law_is_number (hr.mono (by omega)) (eva_cons (ev_exf su (fun C hC => xf_BadRatio_bottom nm hcl C hC) (.there .here)) eva_nil)) (ev_one (ev_cmp hu (ev_exf su (fun C hC => xf_BadRatio_bottom nm hcl C hC) (.there .here)) ev_int))))) (fun s5 => (bf_ret ev_bl)))
abbrev s_law : Stmt := topS 26
theorem sc_law : FnScope ["_law_script", "_law_pool_here", "_law_made", "_law_k", "_law_pair", "_law_one", "_law_other"] ["_law_script"] (defScope s_law) := ⟨rfl, rfl, rfl, by decide +kernel, rfl, by decide +kernel, by decide +kernel⟩
def gD_ratio_kw_bottom_top (ds : List D) : List D := match ds with | [z0, z1] => [z1, z0] | _ => []
def b_law (v_law_script : D) : M (Fl Unit Empty) := (bnd (bnd (bnd (ret v_law_script) fun d1 => bnd (ret []) fun ds2 => ret (d1 :: ds2)) m_law_pool) fun v_law_pool_here => (bnd (bnd (ret []) newL) fun v_law_made => (bnd (bnd (bnd (ret (.int 1)) fun x8 => bnd (bnd (bnd (ret v_law_pool_here) fun d6 => bnd (bnd (ret (.int 5)) fun d4 => bnd (ret []) fun ds5 => ret (d4 :: ds5)) fun ds7 => ret (d6 :: ds7)) m_law_take) fun x9 => binM .Add x8 x9) rngM) fun ds10 => seqF (forF (fun v_law_k (s3 : Unit) => (bnd (bnd (bnd (bnd (bnd (ret v_law_pool_here) fun d11 => bnd (ret []) fun ds12 => ret (d11 :: ds12)) m_law_integer) fun d17 => bnd (bnd (bnd (bnd (ret v_law_pool_here) fun d13 => bnd (ret []) fun ds14 => ret (d13 :: ds14)) m_law_integer) fun d15 => bnd (ret []) fun ds16 => ret (d15 :: ds16)) fun ds18 => ret (d17 :: ds18)) newL) fun v_law_pair => (seqF (bnd (bnd (bnd (ret v_law_pair) fun x19 => bnd (ret (.int 1)) fun x20 => ixM x19 x20) fun x21 => bnd (ret (.int 0)) fun x22 => cmpB .Eq x21 x22) fun b23 => iteM b23 (bnd (bnd (bnd (ret (.int 1)) fun x25 => unM .USub x25) fun x26 => bnd (ret v_law_k) fun x27 => binM .Sub x26 x27) fun x28 => bnd (ret v_law_pair) fun x29 => bnd (ret (.int 1)) fun x30 => bnd (stM x29 x30 x28) fun _ => (ret (.nx (())))) (ret (.nx (())))) fun (s24 : Unit) => (bnd (bnd (bnd (bnd (ret v_law_pair) fun x31 => bnd (ret (.int 0)) fun x32 => ixM x31 x32) fun d37 => bnd (bnd (bnd (ret v_law_pair) fun x33 => bnd (ret (.int 1)) fun x34 => ixM x33 x34) fun d35 => bnd (ret []) fun ds36 => ret (d35 :: ds36)) fun ds38 => ret (d37 :: ds38)) m_ratio) fun v_law_one => (bnd (bnd (bnd (bnd (bnd (bnd (ret v_law_one) fun d60 => bnd (bnd (bnd (ret v_law_pair) fun x52 => bnd (ret (.int 0)) fun x53 => ixM x52 x53) fun d58 => bnd (bnd (bnd (ret v_law_pair) fun x54 => bnd (ret (.int 1)) fun x55 => ixM x54 x55) fun d56 => bnd (ret []) fun ds57 => ret (d56 :: ds57)) fun ds59 => ret (d58 :: ds59)) fun ds61 => ret (d60 :: ds61)) m_law_in_terms) truB) notB) (orB (bnd (bnd (bnd (bnd (bnd (bnd (bnd (ret v_law_pair) fun x39 => bnd (ret (.int 0)) fun x40 => ixM x39 x40) fun d41 => bnd (ret []) fun ds42 => ret (d41 :: ds42)) fun ds43 => m_ratio (ds43 ++ [.int 1])) fun d50 => bnd (bnd (bnd (ret v_law_pair) fun x44 => bnd (ret (.int 0)) fun x45 => ixM x44 x45) fun d48 => bnd (bnd (ret (.int 1)) fun d46 => bnd (ret []) fun ds47 => ret (d46 :: ds47)) fun ds49 => ret (d48 :: ds49)) fun ds51 => ret (d50 :: ds51)) m_law_in_terms) truB) notB))) fun b62 => iteM b62 (bnd (ret (.bl false)) rtM) (bnd (bnd (bnd (bnd (bnd (bnd (ret v_law_pair) fun x71 => bnd (ret (.int 1)) fun x72 => ixM x71 x72) fun d73 => bnd (bnd (bnd (ret v_law_pair) fun x67 => bnd (ret (.int 0)) fun x68 => ixM x67 x68) fun d69 => bnd (ret []) fun ds70 => ret (d69 :: ds70)) fun ds74 => ret (d73 :: ds74)) (kwM 2 gD_ratio_kw_bottom_top m_ratio)) fun x75 => bnd (ret v_law_one) fun x76 => cmpB .NotEq x75 x76) (orB (bnd (bnd (bnd (bnd (bnd (ret v_law_pair) fun x63 => bnd (ret (.int 0)) fun x64 => ixM x63 x64) fun d65 => bnd (ret []) fun ds66 => ret (d65 :: ds66)) m_law_refused) truB) notB))) fun b77 => iteM b77 (bnd (ret (.bl false)) rtM) (bnd (bnd (ret v_law_made) fun u78 => bnd (chkL u78) fun _ => bnd (ret v_law_one) fun y79 => appM u78 y79) fun _ => (ret (.nx (())))))))))) ds10 (())) fun (s3 : Unit) => (bnd (frzM v_law_made) fun v_law_made => (bnd (bnd (ret v_law_made) seqM) fun ds81 => seqF (forF (fun v_law_one (s80 : Unit) => (bnd (bnd (bnd (bnd (bnd (ret v_law_one) fun d82 => bnd (ret []) fun ds83 => ret (d82 :: ds83)) m_law_near_right) truB) notB) fun b84 => iteM b84 (bnd (ret (.bl false)) rtM) (bnd (bnd (bnd (ret v_law_made) fun x92 => bnd (bnd (bnd (bnd (bnd (ret (.int 0)) fun d88 => bnd (bnd (ret (.int 1)) fun d86 => bnd (ret []) fun ds87 => ret (d86 :: ds87)) fun ds89 => ret (d88 :: ds89)) mkT) fun d90 => bnd (ret []) fun ds91 => ret (d90 :: ds91)) mkL) fun x93 => binM .Add x92 x93) seqM) fun ds94 => seqF (forF (fun v_law_other (s85 : Unit) => (bnd (bnd (bnd (bnd (bnd (ret v_law_one) fun d97 => bnd (bnd (ret v_law_other) fun d95 => bnd (ret []) fun ds96 => ret (d95 :: ds96)) fun ds98 => ret (d97 :: ds98)) m_law_two_right) truB) notB) fun b99 => iteM b99 (bnd (ret (.bl false)) rtM) (ret (.nx (()))))) ds94 (())) fun (s85 : Unit) => (ret (.nx (())))))) ds81 (())) fun (s80 : Unit) => (bnd (bnd (bnd (bnd (bnd (bnd (ret v_law_made) fun d102 => bnd (ret []) fun ds103 => ret (d102 :: ds103)) m_law_together_right) truB) notB) (orB (bnd (bnd (bnd (bnd (bnd (ret []) mkL) fun d100 => bnd (ret []) fun ds101 => ret (d100 :: ds101)) m_law_together_right) truB) notB))) fun b104 => iteM b104 (bnd (ret (.bl false)) rtM) (bnd (bnd (bnd (ret v_law_pool_here) fun d105 => bnd (ret []) fun ds106 => ret (d105 :: ds106)) m_law_lowest_right) rtM)))))))
def m_law : SpX := sp1 fun v_law_script => fnM (b_law v_law_script)
theorem ok_law {P : Program} {w : World} {K : PySem.W.Frag} {mg : Str → Option Value} {base : Heap} {k : Nat} {f : Addr} {fd : FuncData} (F : Fun K "law" "law" s_law f fd) (hk : 5 ≤ k) (m_range : mg "range" = none) (h_law_in_terms : KnowsX P w K mg base k "_law_in_terms" 3 [] m_law_in_terms) (h_law_integer : KnowsX P w K mg base k "_law_integer" 1 [] m_law_integer) (h_law_lowest_right : KnowsX P w K mg base k "_law_lowest_right" 1 [] m_law_lowest_right) (h_law_near_right : KnowsX P w K mg base k "_law_near_right" 1 [] m_law_near_right) (h_law_pool : KnowsX P w K mg base k "_law_pool" 1 [] m_law_pool) (h_law_refused : KnowsX P w K mg base k "_law_refused" 1 [] m_law_refused) (h_law_take : KnowsX P w K mg base k "_law_take" 2 [] m_law_take) (h_law_together_right : KnowsX P w K mg base k "_law_together_right" 1 [] m_law_together_right) (h_law_two_right : KnowsX P w K mg base k "_law_two_right" 2 [] m_law_two_right) (h_ratio : KnowsX P w K mg base k "ratio" 2 [] m_ratio) (h_ratio_d1 : KnowsX P w K mg base k "ratio" 2 [.int 1] m_ratio) (k_ratio_kw_bottom_top : KnowsK P w K mg base k "ratio" ["bottom", "top"] gD_ratio_kw_bottom_top m_ratio) : FnOk P w K mg base CX0 (k + 1) f fd ["_law_script"] (lift K fun ds m R => m_law ds m R NoX) :=
  fn_law F sc_law fun cdv A outer s H hr v_law_script => by
    have hu := hr.units
    exact (bf_set (ev_call h_law_pool (hr.mono (by omega)) (eva_cons (ev_var .here) eva_nil)) (fun _ => (.there .here)) (fun v_law_pool_here => (bf_set (ev_lstM eva_nil) (fun _ => (.there (.there .here))) (fun v_law_made => (bf_for (e1 := (fun (s3 : Unit) => [("_law_script", some v_law_script), ("_law_pool_here", some v_law_pool_here), ("_law_made", some v_law_made), ("_law_k", none), ("_law_pair", none), ("_law_one", none), ("_law_other", none)])) (iv_range1 m_range (ev_bin ev_int (ev_call h_law_take (hr.mono (by omega)) (eva_cons (ev_var (.there .here)) (eva_cons ev_int eva_nil))))) (.same (.same (.same (.same (.same (.same (.same .nil))))))) (fun v_law_k s3 => bg_name (.there (.there (.there .here))) (bf_set (ev_lstM (eva_cons (ev_call h_law_integer (hr.mono (by omega)) (eva_cons (ev_var (.there .here)) eva_nil)) (eva_cons (ev_call h_law_integer (hr.mono (by omega)) (eva_cons (ev_var (.there .here)) eva_nil)) eva_nil))) (fun _ => (.there (.there (.there (.there .here))))) (fun v_law_pair => (bf_if (e1 := (fun (s24 : Unit) => [("_law_script", some v_law_script), ("_law_pool_here", some v_law_pool_here), ("_law_made", some v_law_made), ("_law_k", some v_law_k), ("_law_pair", some v_law_pair), ("_law_one", none), ("_law_other", none)])) (tv_cmp hu (ev_ix (ev_var (.there (.there (.there (.there .here))))) ev_int) ev_int) (bf_sub (ev_bin (ev_un ev_int) (ev_var (.there (.there (.there .here))))) (ev_var (.there (.there (.there (.there .here))))) ev_int (bf_nil (l := (.same (.same (.same (.same (.same (.same (.same .nil)))))))))) (bf_nil (l := (.same (.same (.same (.same (.same (.same (.same .nil))))))))) (fun s24 => (bf_set (ev_call h_ratio (hr.mono (by omega)) (eva_cons (ev_ix (ev_var (.there (.there (.there (.there .here))))) ev_int) (eva_cons (ev_ix (ev_var (.there (.there (.there (.there .here))))) ev_int) eva_nil))) (fun _ => (.there (.there (.there (.there (.there .here)))))) (fun v_law_one => (bf_ifX (tv_w (wv_or (tv_not (tv_val (ev_call h_law_in_terms (hr.mono (by omega)) (eva_cons (ev_var (.there (.there (.there (.there (.there .here)))))) (eva_cons (ev_ix (ev_var (.there (.there (.there (.there .here))))) ev_int) (eva_cons (ev_ix (ev_var (.there (.there (.there (.there .here))))) ev_int) eva_nil)))))) (wv_or1 (tv_not (tv_val (ev_call h_law_in_terms (hr.mono (by omega)) (eva_cons (ev_callD h_ratio_d1 (hr.mono (by omega)) (eva_cons (ev_ix (ev_var (.there (.there (.there (.there .here))))) ev_int) eva_nil)) (eva_cons (ev_ix (ev_var (.there (.there (.there (.there .here))))) ev_int) (eva_cons ev_int eva_nil))))))))) (bf_ret ev_bl) (bf_ifX (tv_w (wv_or (tv_cmp hu (ev_callK k_ratio_kw_bottom_top (hr.mono (by omega)) (evk_cons (ev_ix (ev_var (.there (.there (.there (.there .here))))) ev_int) (evk_cons (ev_ix (ev_var (.there (.there (.there (.there .here))))) ev_int) evk_nil))) (ev_var (.there (.there (.there (.there (.there .here))))))) (wv_or1 (tv_not (tv_val (ev_call h_law_refused (hr.mono (by omega)) (eva_cons (ev_ix (ev_var (.there (.there (.there (.there .here))))) ev_int) eva_nil))))))) (bf_ret ev_bl) (bf_expr (ev_append (ev_var (.there (.there .here))) (ev_var (.there (.there (.there (.there (.there .here))))))) (bf_nil (l := (.same (.same (.same (.drop (.drop (.drop (.same .nil))))))))))))))))))) (fun s3 => (bf_frz (.there (.there .here)) (fun _ => (.there (.there .here))) (fun v_law_made => (bf_for (e1 := (fun (s80 : Unit) => [("_law_script", some v_law_script), ("_law_pool_here", some v_law_pool_here), ("_law_made", some v_law_made), ("_law_k", none), ("_law_pair", none), ("_law_one", none), ("_law_other", none)])) (iv_seq (ev_var (.there (.there .here)))) (.same (.same (.same (.same (.same (.same (.same .nil))))))) (fun v_law_one s80 => bg_name (.there (.there (.there (.there (.there .here))))) (bf_ifX (tv_not (tv_val (ev_call h_law_near_right (hr.mono (by omega)) (eva_cons (ev_var (.there (.there (.there (.there (.there .here)))))) eva_nil)))) (bf_ret ev_bl) (bf_for (e1 := (fun (s85 : Unit) => [("_law_script", some v_law_script), ("_law_pool_here", some v_law_pool_here), ("_law_made", some v_law_made), ("_law_k", none), ("_law_pair", none), ("_law_one", some v_law_one), ("_law_other", none)])) (iv_seq (ev_bin (ev_var (.there (.there .here))) (ev_lst (eva_cons (ev_tup (eva_cons ev_int (eva_cons ev_int eva_nil))) eva_nil)))) (.same (.same (.same (.same (.same (.same (.same .nil))))))) (fun v_law_other s85 => bg_name (.there (.there (.there (.there (.there (.there .here)))))) (bf_ifX (tv_not (tv_val (ev_call h_law_two_right (hr.mono (by omega)) (eva_cons (ev_var (.there (.there (.there (.there (.there .here)))))) (eva_cons (ev_var (.there (.there (.there (.there (.there (.there .here))))))) eva_nil))))) (bf_ret ev_bl) (bf_nil (l := (.same (.same (.same (.same (.same (.same (.drop .nil))))))))))) (fun s85 => (bf_nil (l := (.same (.same (.same (.same (.same (.drop (.same .nil))))))))))))) (fun s80 => (bf_ifX (tv_w (wv_or (tv_not (tv_val (ev_call h_law_together_right (hr.mono (by omega)) (eva_cons (ev_var (.there (.there .here))) eva_nil)))) (wv_or1 (tv_not (tv_val (ev_call h_law_together_right (hr.mono (by omega)) (eva_cons (ev_lst eva_nil) eva_nil))))))) (bf_ret ev_bl) (bf_ret (ev_call h_law_lowest_right (hr.mono (by omega)) (eva_cons (ev_var (.there .here)) eva_nil))))))))))))))
end K11

namespace K11
open PySem PySem.Spec PyProof.Rows L2 DL
local macro_rules | `(tactic| tm_at "bd") => `(tactic| (first
  | (with_reducible assumption)
  | ((with_reducible show Bd _ (_ * _)); refine Bd.mulR (by tm_at "bd") (by tm_at "bd"))
  | ((with_reducible show Bd _ (_ + _)); refine Bd.addR (by tm_at "bd") (by tm_at "bd"))
  | ((with_reducible show Bd _ (_ - _)); refine Bd.subR (by tm_at "bd") (by tm_at "bd"))
  | ((with_reducible show Bd _ (-_)); refine Bd.negR (by tm_at "bd"))
  | (exact Bd.lit _)
  | (exact Bd.one)
  | assumption))
local macro_rules | `(tactic| tm_at "mul") => `(tactic| (exact Bd.mul (by tm_at "bd") (by tm_at "bd") (by decide)))
local macro_rules | `(tactic| tm_at "st") => `(tactic| (first
  | (with_reducible refine ret_i ?_)
  | (with_reducible refine bnd_i ?_)
  | (with_reducible refine rtM_i ?_)
  | (with_reducible refine seqF_i ?_)
  | (with_reducible refine seqK_nx ?_)
  | (with_reducible refine seqK_rt ?_)
  | (with_reducible refine upF_i ?_)
  | (with_reducible refine fnM_i ?_)
  | (with_reducible refine fnK_i ?_)
  | (with_reducible refine fnRK_i ?_)
  | (with_reducible refine fnR_same ?_)
  | (with_reducible refine iteM_ti ?_)
  | (with_reducible refine iteM_fi ?_)
  | (with_reducible refine add_i ?_)
  | (with_reducible refine sub_i ?_)
  | (with_reducible refine neg_i ?_)
  | (with_reducible refine iadd_i ?_)
  | (with_reducible refine eq_i ?_)
  | (with_reducible refine ne_i ?_)
  | (with_reducible refine lt_i ?_)
  | (with_reducible refine le_i ?_)
  | (with_reducible refine gt_i ?_)
  | (with_reducible refine ge_i ?_)
  | (with_reducible refine isN_i ?_)
  | (with_reducible refine isnN_i ?_)
  | (with_reducible refine cmpM_i ?_)
  | (with_reducible refine tru_int ?_)
  | (with_reducible refine tru_bl ?_)
  | (with_reducible refine tru_lst ?_)
  | (with_reducible refine tru_tup ?_)
  | (with_reducible refine notB_t ?_)
  | (with_reducible refine notB_f ?_)
  | (with_reducible refine notB_i ?_)
  | (with_reducible refine andB_t ?_)
  | (with_reducible refine andB_f ?_)
  | (with_reducible refine orB_t ?_)
  | (with_reducible refine orB_f ?_)
  | (with_reducible refine andM_ti ?_)
  | (with_reducible refine andM_fi ?_)
  | (with_reducible refine notM_t ?_)
  | (with_reducible refine notM_f ?_)
  | (with_reducible refine notM_i ?_)
  | (with_reducible refine abs_i ?_)
  | (with_reducible refine int_i ?_)
  | (with_reducible refine int_b ?_)
  | (with_reducible refine max_i ?_)
  | (with_reducible refine min_i ?_)
  | (with_reducible refine len_T ?_)
  | (with_reducible refine len_L ?_)
  | (with_reducible refine list_T ?_)
  | (with_reducible refine list_L ?_)
  | (with_reducible refine list_K ?_)
  | (with_reducible refine tuple_T ?_)
  | (with_reducible refine tuple_L ?_)
  | (with_reducible refine seq_T ?_)
  | (with_reducible refine seq_L ?_)
  | (with_reducible refine zip_L ?_)
  | (with_reducible refine zip_T ?_)
  | (with_reducible refine lsM_i ?_)
  | (with_reducible refine someM_i ?_)
  | (with_reducible refine ut2_i ?_)
  | (with_reducible refine un2_i ?_)
  | (with_reducible refine rai_i ?_)
  | (with_reducible refine sum_L ?_)
  | ((with_reducible show binM Operator.Mult (D.int _) (D.int _) _ _ _); refine mul_i (by tm_at "mul") ?_)
  | ((with_reducible show binM Operator.Mod (D.int _) (D.int _) _ _ _); refine mod_i (by first | assumption | omega | decide) ?_)
  | ((with_reducible show binM Operator.Pow (D.int _) (D.int _) _ _ _); refine pow_i (by refine ⟨?_, ?_, ?_⟩ <;> omega) ?_)
  | (with_reducible refine mkT_i (by first | decide | (simp <;> omega)) ?_)
  | (with_reducible refine mkL_i (by first | decide | (simp <;> omega)) ?_)
  | ((with_reducible refine ixT_i atI_0 ?_))
  | ((with_reducible refine ixT_i atI_1 ?_))
  | ((with_reducible refine ixT_i atI_2 ?_))
  | ((with_reducible refine ixL_i atI_0 ?_))
  | ((with_reducible refine ixL_i atI_1 ?_))
  | ((with_reducible refine ixL_i atI_2 ?_))))
local macro_rules | `(tactic| tm_at "en") => `(tactic| (first | (with_reducible refine sp1_i ?_) | (with_reducible refine sp2_i ?_) | (with_reducible refine sp3_i ?_) | (with_reducible refine sp4_i ?_) | (with_reducible refine sp5_i ?_) | (with_reducible refine sp6_i ?_)))
local macro_rules | `(tactic| tm_at "mm") => `(tactic| repeat tm_at "st")
theorem pool_ok {ns : List Int} {m : Led} {R : D → Led → Prop} {E : XR} (k : ∀ p, R (.ref p) (m ++ [(p, poolO 0 0 ns)])) : m_law_pool [.lsk (ns.map D.int)] m R E := by
  show fnK (b_law_pool _) m R E
  unfold b_law_pool
  tm_at "mm"
  exact newL_i (by simp) k
theorem take_ok {p : Addr} {a c many : Int} {ns : List Int} {rest : Led} {R : D → Led → Prop} {E : XR} (hn : ns.length ≤ 63) (h0 : 0 < many) (ha : 0 ≤ a) (ha2 : a ≤ 1000000) (hc : 0 ≤ c) (hb : Bd 4000 many)
    (k : ∀ r a' c' : Int, 0 ≤ r → r < many → a ≤ a' → a' ≤ a + 1 → 0 ≤ c' → R (.int r) ((p, poolO a' c' ns) :: rest)) : m_law_take [.ref p, .int many] ((p, poolO a c ns) :: rest) R E := by
  show fnM (b_law_take _ _) _ R E
  unfold b_law_take
  have Ba : Bd 40 a := by unfold Bd; omega
  have hz : ∃ z, atI (ns.map D.int ++ [D.int 0]) (a % max 1 (((ns.map D.int).length : Nat) : Int)) = some (.int z) := by
    have h1 : (0 : Int) < max 1 (((ns.map D.int).length : Nat) : Int) := by omega
    have h2 := Int.emod_nonneg a (Int.ne_of_gt h1)
    have h3 := Int.emod_lt_of_pos a h1
    obtain ⟨j, hj⟩ := Int.eq_ofNat_of_zero_le h2
    have h4 : j < (ns ++ [0]).length := by
      rw [hj, List.length_map] at h3
      simp only [List.length_append, List.length_cons, List.length_nil]
      omega
    refine ⟨(ns ++ [0])[j], ?_⟩
    rw [hj]
    refine atI_nat ?_
    rw [show ns.map D.int ++ [D.int 0] = (ns ++ [0]).map D.int by simp, List.getElem?_map, List.getElem?_eq_getElem h4]
    rfl
  obtain ⟨z, hz⟩ := hz
  tm_at "mm"
  refine ixR_i 0 rfl atI_1 ?_
  tm_at "mm"
  have tail : ∀ (a0 c0 : Int), a ≤ a0 → a0 ≤ a + 1 → 0 ≤ c0 → (bnd (bnd (bnd (bnd (bnd (DL.ret (.ref p)) fun x59 => bnd (DL.ret (.int 1)) fun x60 => ixM x59 x60) fun d61 => bnd (DL.ret []) fun ds62 => DL.ret (d61 :: ds62)) intM) fun x63 => bnd (DL.ret (.int many)) fun x64 => binM .Mod x63 x64) fun v_law_digit => bnd (bnd (bnd (DL.ret (.ref p)) fun x65 => bnd (DL.ret (.int 1)) fun x66 => ixM x65 x66) fun x67 => bnd (DL.ret (.int many)) fun x68 => binM .FloorDiv x67 x68) fun x69 => bnd (DL.ret (.ref p)) fun x70 => bnd (DL.ret (.int 1)) fun x71 => bnd (DL.stM x70 x71 x69) fun _ => bnd (DL.ret v_law_digit) rtM) ((p, poolO a0 c0 ns) :: rest) (fnR ((p, poolO a c ns) :: rest) R) (fun nm fd m' => E nm fd (m'.take ((p, poolO a c ns) :: rest).length)) := by
    intro a0 c0 h1 h2 h3
    tm_at "mm"
    refine ixR_i 0 rfl atI_1 ?_
    tm_at "mm"
    refine ixR_i 0 rfl atI_1 ?_
    tm_at "mm"
    refine fdiv_i (hb.divG (by omega) (by decide)) ?_
    tm_at "mm"
    refine st_i 0 1 rfl rfl ?_
    tm_at "mm"
    refine fnR_len rfl ?_
    have e : c0.fdiv many = c0 / many := Int.fdiv_eq_ediv_of_nonneg _ (Int.le_of_lt h0)
    rw [e]
    exact k _ a0 (c0 / many) (Int.emod_nonneg _ (Int.ne_of_gt h0)) (Int.emod_lt_of_pos _ h0) h1 h2 (Int.ediv_nonneg h3 (Int.le_of_lt h0))
  refine iteM_dec (fun h => ?_) (fun h => ?_)
  · tm_at "mm"
    refine ixR_i 0 rfl atI_0 ?_
    tm_at "mm"
    refine st_i 0 0 rfl rfl ?_
    tm_at "mm"
    refine ixR_i 0 rfl atI_2 ?_
    tm_at "mm"
    refine cat_i (by simp; omega) ?_
    tm_at "mm"
    refine ixR_i 0 rfl atI_2 ?_
    tm_at "mm"
    refine ixL_i hz ?_
    tm_at "mm"
    refine iteM_dec (fun h2 => ?_) (fun h2 => ?_)
    · tm_at "mm"
      refine fdiv_i ((Bd.lit 11).divG (by decide) (by decide)) ?_
      tm_at "mm"
      refine fnR_len rfl ?_
      exact k _ (a + 1) c (Int.emod_nonneg _ (Int.ne_of_gt h0)) (Int.emod_lt_of_pos _ h0) (by omega) (by omega) hc
    · tm_at "mm"
      refine st_i 0 1 rfl rfl ?_
      tm_at "mm"
      have hz0 : 0 ≤ z := by
        have e : (10 : Int) ^ Int.toNat 18 = 1000000000000000000 := by decide
        rw [e] at h2
        omega
      exact tail (a + 1) z (by omega) (by omega) hz0
  · tm_at "mm"
    exact tail a c (by omega) (by omega) hc
theorem divisor_ok {d : D} {ns : List Int} {m : Led} {R : D → Led → Prop} {E : XR} (hd : Seq d (ns.map D.int)) (k : R (.int (gL ns : Nat)) m) : m_divisor [d] m R E := by
  show fnM (b_divisor _) m R E
  unfold b_divisor
  tm_at "mm"
  have go : seqM d m = fun R (_ : XR) => R (ns.map D.int) m := by rcases hd with rfl | rfl <;> rfl
  rw [go]
  tm_at "mm"
  refine for_fold (e := D.int) (enc := fun g : Nat => D.int (g : Int)) (step := fun g n => Nat.gcd n.natAbs g) ns 0 (fun n _ g Q hq => ?_) ?_
  · tm_at "mm"
    refine while_ind (fun y s m2 => m2 = m ∧ ∃ x : Nat, Nat.gcd x y = Nat.gcd n.natAbs g ∧ s = (D.int (x : Nat), D.int (y : Nat))) ?_ g _ m ⟨rfl, n.natAbs, rfl, rfl⟩
    rintro y s m2 ⟨rfl, x, hg, rfl⟩ Q2 hy hn
    tm_at "mm"
    by_cases h0 : y = 0
    · subst h0
      rw [show (((0 : Nat) : Int) != 0) = false from rfl]
      refine hn _ ?_
      tm_at "mm"
      rw [Nat.gcd_zero_right] at hg
      show Q (Fl.nx (D.int (x : Nat))) m2
      rw [hg]
      exact hq
    · rw [show (((y : Nat) : Int) != 0) = true by simp; omega]
      refine hy _ fun Q3 h3 => ?_
      tm_at "mm"
      refine h3 _ _ (x % y) (Nat.mod_lt _ (by omega)) ⟨rfl, y, ?_, ?_⟩
      · rw [← hg, Nat.gcd_comm x y, Nat.gcd_rec y x, Nat.gcd_comm]
      · rw [Int.natCast_emod]
  · tm_at "mm"
    exact k
theorem law_divisor_ok {d : D} {ns : List Int} {m : Led} {R : D → Led → Prop} {E : XR} (hd : Seq d (ns.map D.int)) (k : R (.int (gL ns : Nat)) m) : m_law_divisor [d] m R E := by
  show fnM (b_law_divisor _) m R E
  unfold b_law_divisor
  tm_at "mm"
  have go : seqM d m = fun R (_ : XR) => R (ns.map D.int) m := by rcases hd with rfl | rfl <;> rfl
  rw [go]
  tm_at "mm"
  refine for_fold (e := D.int) (enc := fun g : Nat => D.int (g : Int)) (step := fun g n => Nat.gcd n.natAbs g) ns 0 (fun n _ g Q hq => ?_) ?_
  · tm_at "mm"
    refine while_ind (fun y s m2 => m2 = m ∧ ∃ x : Nat, Nat.gcd x y = Nat.gcd n.natAbs g ∧ s = (D.int (x : Nat), D.int (y : Nat))) ?_ g _ m ⟨rfl, n.natAbs, rfl, rfl⟩
    rintro y s m2 ⟨rfl, x, hg, rfl⟩ Q2 hy hn
    tm_at "mm"
    by_cases h0 : y = 0
    · subst h0
      rw [show (!decide (((0 : Nat) : Int) = 0)) = false from rfl]
      refine hn _ ?_
      tm_at "mm"
      rw [Nat.gcd_zero_right] at hg
      show Q (Fl.nx (D.int (x : Nat))) m2
      rw [hg]
      exact hq
    · rw [show (!decide (((y : Nat) : Int) = 0)) = true by simp; omega]
      refine hy _ fun Q3 h3 => ?_
      tm_at "mm"
      refine h3 _ _ (x % y) (Nat.mod_lt _ (by omega)) ⟨rfl, y, ?_, ?_⟩
      · rw [← hg, Nat.gcd_comm x y, Nat.gcd_rec y x, Nat.gcd_comm]
      · rw [Int.natCast_emod]
  · tm_at "mm"
    exact k
theorem ratio_ok {u d : Int} {m : Led} {R : D → Led → Prop} {E : XR} (hd : d ≠ 0) (hb : Bd 8000 d) (k : R (rat (mkQ u d)) m) : m_ratio [.int u, .int d] m R E := by
  show fnM (b_ratio _ _) m R E
  unfold b_ratio
  tm_at "mm"
  refine iteM_dec (fun h => absurd h hd) (fun _ => ?_)
  tm_at "mm"
  refine divisor_ok (ns := [u, d]) (.inl rfl) ?_
  rw [gL2]
  have hp := piece_bd (u := u) hd hb
  have hp0 := piece_ne (u := u) hd
  tm_at "mm"
  have fin : ∀ x : Int, x = piece u d → (bnd (bnd (bnd (bnd (DL.ret (D.int u)) fun x => bnd (DL.ret (D.int (piece u d))) fun y => binM .FloorDiv x y) fun d1 => bnd (bnd (bnd (DL.ret (D.int d)) fun x => bnd (DL.ret (D.int (piece u d))) fun y => binM .FloorDiv x y) fun d2 => bnd (DL.ret []) fun ds => DL.ret (d2 :: ds)) fun ds => DL.ret (d1 :: ds)) mkT) (rtM (σ := Unit) (τ := Empty))) m (fnR m R) (fun nm fd m' => E nm fd (m'.take m.length)) := by
    intro x _
    tm_at "mm"
    refine fdiv_i (hp.divG hp0 (by decide)) ?_
    tm_at "mm"
    refine fdiv_i (hp.divG hp0 (by decide)) ?_
    tm_at "mm"
    exact k
  refine iteM_dec (fun h => ?_) (fun h => ?_)
  · tm_at "mm"
    have e : -(Int.gcd u d : Int) = piece u d := by unfold piece; rw [if_pos h]
    rw [e]
    exact fin _ rfl
  · tm_at "mm"
    have e : (Int.gcd u d : Int) = piece u d := by unfold piece; rw [if_neg h]
    rw [e]
    exact fin _ rfl
theorem ratio_bad {u : Int} {m : Led} {R : D → Led → Prop} {E : XR} (k : E "BadRatio" (some ("bottom", .int 0)) m) : m_ratio [.int u, .int 0] m R E := by
  show fnM (b_ratio _ _) m R E
  unfold b_ratio
  tm_at "mm"
  refine iteM_dec (fun h => ?_) (fun h => absurd rfl h)
  tm_at "mm"
  rw [List.take_length]
  exact k
theorem law_ratio_ok {u d : Int} {m : Led} {R : D → Led → Prop} {E : XR} (hd : d ≠ 0) (hb : Bd 8000 d) (k : R (rat (mkQ u d)) m) : m_law_ratio [.int u, .int d] m R E := by
  show fnM (b_law_ratio _ _) m R E
  unfold b_law_ratio
  tm_at "mm"
  refine law_divisor_ok (ns := [u, d]) (.inl rfl) ?_
  rw [gL2]
  have hp := piece_bd (u := u) hd hb
  have hp0 := piece_ne (u := u) hd
  tm_at "mm"
  have fin : (bnd (bnd (bnd (bnd (DL.ret (D.int u)) fun x => bnd (DL.ret (D.int (piece u d))) fun y => binM .FloorDiv x y) fun d1 => bnd (bnd (bnd (DL.ret (D.int d)) fun x => bnd (DL.ret (D.int (piece u d))) fun y => binM .FloorDiv x y) fun d2 => bnd (DL.ret []) fun ds => DL.ret (d2 :: ds)) fun ds => DL.ret (d1 :: ds)) mkT) (rtM (σ := Unit) (τ := Empty))) m (fnR m R) (fun nm fd m' => E nm fd (m'.take m.length)) := by
    tm_at "mm"
    refine fdiv_i (hp.divG hp0 (by decide)) ?_
    tm_at "mm"
    refine fdiv_i (hp.divG hp0 (by decide)) ?_
    tm_at "mm"
    exact k
  refine iteM_dec (fun h => ?_) (fun h => ?_)
  · tm_at "mm"
    have e : -(Int.gcd u d : Int) = piece u d := by unfold piece; rw [if_pos h]
    rw [e]
    exact fin
  · tm_at "mm"
    have e : (Int.gcd u d : Int) = piece u d := by unfold piece; rw [if_neg h]
    rw [e]
    exact fin
section
variable {p q : Q} {m : Led} {R : D → Led → Prop} {E : XR}
theorem plus_ok (hp : Rb 3000 p) (hq : Rb 3000 q) (p0 : p.2 ≠ 0) (q0 : q.2 ≠ 0) (k : R (rat (plusQ p q)) m) : m_plus [rat p, rat q] m R E := by
  obtain ⟨h1, h2⟩ := hp
  obtain ⟨h3, h4⟩ := hq
  show fnM (b_plus _ _) m R E
  unfold b_plus
  tm_at "mm"
  refine ratio_ok (Int.mul_ne_zero p0 q0) ((h2.mulR h4).up (by decide)) ?_
  tm_at "mm"
  exact k
theorem minus_ok (hp : Rb 3000 p) (hq : Rb 3000 q) (p0 : p.2 ≠ 0) (q0 : q.2 ≠ 0) (k : R (rat (minusQ p q)) m) : m_minus [rat p, rat q] m R E := by
  obtain ⟨h1, h2⟩ := hp
  obtain ⟨h3, h4⟩ := hq
  show fnM (b_minus _ _) m R E
  unfold b_minus
  tm_at "mm"
  refine ratio_ok (Int.mul_ne_zero p0 q0) ((h2.mulR h4).up (by decide)) ?_
  tm_at "mm"
  exact k
theorem times_ok (hp : Rb 3000 p) (hq : Rb 3000 q) (p0 : p.2 ≠ 0) (q0 : q.2 ≠ 0) (k : R (rat (timesQ p q)) m) : m_times [rat p, rat q] m R E := by
  obtain ⟨h1, h2⟩ := hp
  obtain ⟨h3, h4⟩ := hq
  show fnM (b_times _ _) m R E
  unfold b_times
  tm_at "mm"
  refine ratio_ok (Int.mul_ne_zero p0 q0) ((h2.mulR h4).up (by decide)) ?_
  tm_at "mm"
  exact k
theorem compare_ok (hp : Rb 3000 p) (hq : Rb 3000 q) (k : R (.int (cmpR p q)) m) : m_compare [rat p, rat q] m R E := by
  obtain ⟨h1, h2⟩ := hp
  obtain ⟨h3, h4⟩ := hq
  show fnM (b_compare _ _) m R E
  unfold b_compare
  tm_at "mm"
  simpa [cmpR] using k
end
theorem is_number_ok {i : Int} {m : Led} {R : D → Led → Prop} {E : XR} (k : R (.bl true) m) : m_law_is_number [.int i] m R E := by
  show fnM (b_law_is_number _) m R E
  unfold b_law_is_number
  tm_at "mm"
  refine isi_i (t := "int") rfl (by decide) ?_
  rw [show isiD "int" "int" = true by decide]
  tm_at "mm"
  refine isi_i (t := "int") rfl (by decide) ?_
  rw [show isiD "int" "bool" = false by decide]
  tm_at "mm"
  exact k
theorem in_terms_ok {q : Q} {u d : Int} {m : Led} {R : D → Led → Prop} {E : XR} (hd : d ≠ 0) (hb : Bd 8000 d) (e : q = mkQ u d) (k : R (.bl true) m) : m_law_in_terms [rat q, .int u, .int d] m R E := by
  show fnM (b_law_in_terms _ _ _) m R E
  unfold b_law_in_terms
  tm_at "mm"
  refine isi_i (t := "tuple") rfl (by decide) ?_
  rw [show isiD "tuple" "tuple" = true by decide]
  tm_at "mm"
  rw [show (!decide ((([D.int q.1, D.int q.2].length : Nat) : Int) = 2)) = false from rfl]
  tm_at "mm"
  refine is_number_ok ?_
  tm_at "mm"
  refine is_number_ok ?_
  tm_at "mm"
  refine law_ratio_ok hd hb ?_
  tm_at "mm"
  refine eq_di (nb_rat 19 _) (nb_rat 19 _) fun t ht => ?_
  tm_at "mm"
  rw [ht.mpr (by rw [e])]
  exact k
theorem two_right_ok {p q : Q} {m : Led} {R : D → Led → Prop} {E : XR} (hp : Rb 1000 p) (hq : Rb 1000 q) (p0 : p.2 ≠ 0) (q0 : q.2 ≠ 0) (k : R (.bl true) m) : m_law_two_right [rat p, rat q] m R E := by
  have hp3 : Rb 3000 p := ⟨hp.1.up (by decide), hp.2.up (by decide)⟩
  have hq3 : Rb 3000 q := ⟨hq.1.up (by decide), hq.2.up (by decide)⟩
  obtain ⟨h1, h2⟩ := hp
  obtain ⟨h3, h4⟩ := hq
  have hn := Int.mul_ne_zero p0 q0
  have hb : Bd 8000 (p.2 * q.2) := (h2.mulR h4).up (by decide)
  show fnM (b_law_two_right _ _) m R E
  unfold b_law_two_right
  tm_at "mm"
  refine plus_ok hp3 hq3 p0 q0 ?_
  tm_at "mm"
  refine in_terms_ok hn hb rfl ?_
  tm_at "mm"
  refine minus_ok hp3 hq3 p0 q0 ?_
  tm_at "mm"
  refine in_terms_ok hn hb rfl ?_
  tm_at "mm"
  refine times_ok hp3 hq3 p0 q0 ?_
  tm_at "mm"
  refine in_terms_ok hn hb rfl ?_
  tm_at "mm"
  refine compare_ok hp3 hq3 ?_
  tm_at "mm"
  refine is_number_ok ?_
  tm_at "mm"
  rw [show (decide (cmpR p q = (if decide (q.1 * p.2 < p.1 * q.2) = true then (1 : Int) else 0) - (if decide (p.1 * q.2 < q.1 * p.2) = true then (1 : Int) else 0))) = true by simp [cmpR]]
  exact k
end K11

namespace K11
open PySem PySem.Spec PyProof.Rows L2 DL
local macro_rules | `(tactic| tm_at "bd") => `(tactic| (first
  | (with_reducible assumption)
  | ((with_reducible show Bd _ (_ * _)); refine Bd.mulR (by tm_at "bd") (by tm_at "bd"))
  | ((with_reducible show Bd _ (_ + _)); refine Bd.addR (by tm_at "bd") (by tm_at "bd"))
  | ((with_reducible show Bd _ (_ - _)); refine Bd.subR (by tm_at "bd") (by tm_at "bd"))
  | ((with_reducible show Bd _ (-_)); refine Bd.negR (by tm_at "bd"))
  | (exact Bd.lit _)
  | (exact Bd.one)
  | assumption))
local macro_rules | `(tactic| tm_at "mul") => `(tactic| (exact Bd.mul (by tm_at "bd") (by tm_at "bd") (by decide)))
local macro_rules | `(tactic| tm_at "st") => `(tactic| (first
  | (with_reducible refine ret_i ?_)
  | (with_reducible refine bnd_i ?_)
  | (with_reducible refine rtM_i ?_)
  | (with_reducible refine seqF_i ?_)
  | (with_reducible refine seqK_nx ?_)
  | (with_reducible refine seqK_rt ?_)
  | (with_reducible refine upF_i ?_)
  | (with_reducible refine fnM_i ?_)
  | (with_reducible refine fnK_i ?_)
  | (with_reducible refine fnRK_i ?_)
  | (with_reducible refine fnR_same ?_)
  | (with_reducible refine iteM_ti ?_)
  | (with_reducible refine iteM_fi ?_)
  | (with_reducible refine add_i ?_)
  | (with_reducible refine sub_i ?_)
  | (with_reducible refine neg_i ?_)
  | (with_reducible refine iadd_i ?_)
  | (with_reducible refine eq_i ?_)
  | (with_reducible refine ne_i ?_)
  | (with_reducible refine lt_i ?_)
  | (with_reducible refine le_i ?_)
  | (with_reducible refine gt_i ?_)
  | (with_reducible refine ge_i ?_)
  | (with_reducible refine isN_i ?_)
  | (with_reducible refine isnN_i ?_)
  | (with_reducible refine cmpM_i ?_)
  | (with_reducible refine tru_int ?_)
  | (with_reducible refine tru_bl ?_)
  | (with_reducible refine tru_lst ?_)
  | (with_reducible refine tru_tup ?_)
  | (with_reducible refine notB_t ?_)
  | (with_reducible refine notB_f ?_)
  | (with_reducible refine notB_i ?_)
  | (with_reducible refine andB_t ?_)
  | (with_reducible refine andB_f ?_)
  | (with_reducible refine orB_t ?_)
  | (with_reducible refine orB_f ?_)
  | (with_reducible refine andM_ti ?_)
  | (with_reducible refine andM_fi ?_)
  | (with_reducible refine notM_t ?_)
  | (with_reducible refine notM_f ?_)
  | (with_reducible refine notM_i ?_)
  | (with_reducible refine abs_i ?_)
  | (with_reducible refine int_i ?_)
  | (with_reducible refine int_b ?_)
  | (with_reducible refine max_i ?_)
  | (with_reducible refine min_i ?_)
  | (with_reducible refine len_T ?_)
  | (with_reducible refine len_L ?_)
  | (with_reducible refine list_T ?_)
  | (with_reducible refine list_L ?_)
  | (with_reducible refine list_K ?_)
  | (with_reducible refine tuple_T ?_)
  | (with_reducible refine tuple_L ?_)
  | (with_reducible refine seq_T ?_)
  | (with_reducible refine seq_L ?_)
  | (with_reducible refine zip_L ?_)
  | (with_reducible refine zip_T ?_)
  | (with_reducible refine lsM_i ?_)
  | (with_reducible refine someM_i ?_)
  | (with_reducible refine ut2_i ?_)
  | (with_reducible refine un2_i ?_)
  | (with_reducible refine rai_i ?_)
  | (with_reducible refine sum_L ?_)
  | ((with_reducible show binM Operator.Mult (D.int _) (D.int _) _ _ _); refine mul_i (by tm_at "mul") ?_)
  | ((with_reducible show binM Operator.Mod (D.int _) (D.int _) _ _ _); refine mod_i (by first | assumption | omega | decide) ?_)
  | ((with_reducible show binM Operator.Pow (D.int _) (D.int _) _ _ _); refine pow_i (by refine ⟨?_, ?_, ?_⟩ <;> omega) ?_)
  | (with_reducible refine mkT_i (by first | decide | (simp <;> omega)) ?_)
  | (with_reducible refine mkL_i (by first | decide | (simp <;> omega)) ?_)
  | ((with_reducible refine ixT_i atI_0 ?_))
  | ((with_reducible refine ixT_i atI_1 ?_))
  | ((with_reducible refine ixT_i atI_2 ?_))
  | ((with_reducible refine ixL_i atI_0 ?_))
  | ((with_reducible refine ixL_i atI_1 ?_))
  | ((with_reducible refine ixL_i atI_2 ?_))))
local macro_rules | `(tactic| tm_at "en") => `(tactic| (first | (with_reducible refine sp1_i ?_) | (with_reducible refine sp2_i ?_) | (with_reducible refine sp3_i ?_) | (with_reducible refine sp4_i ?_) | (with_reducible refine sp5_i ?_) | (with_reducible refine sp6_i ?_)))
local macro_rules | `(tactic| tm_at "mm") => `(tactic| repeat tm_at "st")
def far : Int := 100000000000000000000
theorem cmp_one {p q : Q} (h : q.1 * p.2 < p.1 * q.2) : cmpR p q = 1 ∧ cmpR q p = -1 := by
  unfold cmpR
  constructor
  · rw [if_pos h, if_neg (by omega)]; rfl
  · rw [if_neg (by omega), if_pos h]; rfl
theorem near_gt {a b : Int} (hb : 0 < b) : a * (mkQ (a * far + 1) (b * far)).2 < (mkQ (a * far + 1) (b * far)).1 * b := by
  have hn : b * far ≠ 0 := Int.mul_ne_zero (by omega) (by decide)
  have h1 := mkQ_cross (u := a * far + 1) hn
  have h2 := (mkQ_nf (u := a * far + 1) hn).1
  generalize mkQ (a * far + 1) (b * far) = q at *
  have e : (q.1 * b - a * q.2) * far = q.2 := by
    have e1 : q.1 * b * far = q.1 * (b * far) := Int.mul_assoc ..
    have e2 : (a * far + 1) * q.2 = a * q.2 * far + q.2 := by
      rw [Int.add_mul, Int.one_mul, Int.mul_assoc, Int.mul_comm far, ← Int.mul_assoc]
    rw [Int.sub_mul, e1, h1, e2]
    omega
  have h3 : 0 < (q.1 * b - a * q.2) * far := by rw [e]; exact h2
  have h4 : 0 < q.1 * b - a * q.2 := by
    rcases Int.lt_or_le 0 (q.1 * b - a * q.2) with z | z
    · exact z
    · have := Int.mul_nonpos_of_nonpos_of_nonneg z (show (0 : Int) ≤ far by decide)
      omega
  omega
theorem near_right_ok {q : Q} {m : Led} {R : D → Led → Prop} {E : XR} (hq : Rb 100 q) (q0 : 0 < q.2) (k : R (.bl true) m) : m_law_near_right [rat q] m R E := by
  show fnM (b_law_near_right _) m R E
  unfold b_law_near_right
  have e20 : (10 : Int) ^ Int.toNat 20 = far := by decide
  have e8 : (10 : Int) ^ Int.toNat 8 = 100000000 := by decide
  tm_at "mm"
  rw [e8, e20]
  have stop : (bnd (DL.ret (D.bl true)) (rtM (σ := Unit) (τ := Empty))) m (fnR m R) (fun nm fd m' => E nm fd (m'.take m.length)) := by
    tm_at "mm"
    exact k
  have hf : Bd 67 far := by unfold Bd; decide
  have fin : q.1.natAbs ≤ 100000000 → q.2 ≤ 100000000 → Rb 1000 (mkQ (q.1 * far + 1) (q.2 * far)) ∧ (mkQ (q.1 * far + 1) (q.2 * far)).2 ≠ 0 := by
    intro h1 h2
    have hn : q.2 * far ≠ 0 := Int.mul_ne_zero (by omega) (by decide)
    have b1 : Bd 28 q.1 := by unfold Bd; omega
    have b2 : Bd 28 q.2 := by unfold Bd; omega
    have hb := mkQ_bd (u := q.1 * far + 1) hn ((b1.mulR hf).addR Bd.one) (b2.mulR hf)
    refine ⟨⟨hb.1.up (by decide), hb.2.up (by decide)⟩, ?_⟩
    have := (mkQ_nf (u := q.1 * far + 1) hn).1
    omega
  refine orB_i (fun h => ?_) (fun h => ?_)
  · tm_at "mm"
    exact k
  · tm_at "mm"
    rw [e8]
    refine iteM_dec (fun h2 => ?_) (fun h2 => ?_)
    · exact stop
    · have h1 : q.1.natAbs ≤ 100000000 := by simp at h; omega
      obtain ⟨f1, f2⟩ := fin h1 (by omega)
      have f3 : Rb 3000 (mkQ (q.1 * far + 1) (q.2 * far)) := ⟨f1.1.up (by decide), f1.2.up (by decide)⟩
      have q3 : Rb 3000 q := ⟨hq.1.up (by decide), hq.2.up (by decide)⟩
      have q1 : Rb 1000 q := ⟨hq.1.up (by decide), hq.2.up (by decide)⟩
      obtain ⟨c1, c2⟩ := cmp_one (near_gt (a := q.1) q0)
      obtain ⟨b1, b2⟩ := hq
      tm_at "mm"
      refine ratio_ok (Int.mul_ne_zero (by omega) (by decide)) ((b2.mulR hf).up (by decide)) ?_
      tm_at "mm"
      refine compare_ok f3 q3 ?_
      tm_at "mm"
      rw [c1, show (!decide ((1 : Int) = 1)) = false from rfl]
      tm_at "mm"
      refine compare_ok q3 f3 ?_
      tm_at "mm"
      rw [c2, show (!decide ((-1 : Int) = -1)) = false from rfl]
      tm_at "mm"
      refine two_right_ok q1 f1 (by omega) f2 ?_
      tm_at "mm"
      refine two_right_ok f1 q1 f2 (by omega) ?_
      tm_at "mm"
      exact k
theorem refused_ok {u : Int} {m : Led} {R : D → Led → Prop} {E : XR} (k : R (.bl true) m) : m_law_refused [.int u] m R E := by
  show fnM (b_law_refused _) m R E
  unfold b_law_refused
  tm_at "mm"
  unfold tryM
  tm_at "mm"
  refine ratio_bad ⟨true, by decide, fun _ => ?_, fun z => nomatch z⟩
  tm_at "mm"
  refine ⟨_, rfl, ?_⟩
  tm_at "mm"
  refine is_number_ok ?_
  tm_at "mm"
  refine ⟨_, rfl, ?_⟩
  tm_at "mm"
  exact k
end K11

namespace K11
open PySem PySem.Spec PyProof.Rows L2 DL
local macro_rules | `(tactic| tm_at "bd") => `(tactic| (first
  | (with_reducible assumption)
  | ((with_reducible show Bd _ (_ * _)); refine Bd.mulR (by tm_at "bd") (by tm_at "bd"))
  | ((with_reducible show Bd _ (_ + _)); refine Bd.addR (by tm_at "bd") (by tm_at "bd"))
  | ((with_reducible show Bd _ (_ - _)); refine Bd.subR (by tm_at "bd") (by tm_at "bd"))
  | ((with_reducible show Bd _ (-_)); refine Bd.negR (by tm_at "bd"))
  | (exact Bd.lit _)
  | (exact Bd.one)
  | assumption))
local macro_rules | `(tactic| tm_at "mul") => `(tactic| (exact Bd.mul (by tm_at "bd") (by tm_at "bd") (by decide)))
local macro_rules | `(tactic| tm_at "st") => `(tactic| (first
  | (with_reducible refine ret_i ?_)
  | (with_reducible refine bnd_i ?_)
  | (with_reducible refine rtM_i ?_)
  | (with_reducible refine seqF_i ?_)
  | (with_reducible refine seqK_nx ?_)
  | (with_reducible refine seqK_rt ?_)
  | (with_reducible refine upF_i ?_)
  | (with_reducible refine fnM_i ?_)
  | (with_reducible refine fnK_i ?_)
  | (with_reducible refine fnRK_i ?_)
  | (with_reducible refine fnR_same ?_)
  | (with_reducible refine iteM_ti ?_)
  | (with_reducible refine iteM_fi ?_)
  | (with_reducible refine add_i ?_)
  | (with_reducible refine sub_i ?_)
  | (with_reducible refine neg_i ?_)
  | (with_reducible refine iadd_i ?_)
  | (with_reducible refine eq_i ?_)
  | (with_reducible refine ne_i ?_)
  | (with_reducible refine lt_i ?_)
  | (with_reducible refine le_i ?_)
  | (with_reducible refine gt_i ?_)
  | (with_reducible refine ge_i ?_)
  | (with_reducible refine isN_i ?_)
  | (with_reducible refine isnN_i ?_)
  | (with_reducible refine cmpM_i ?_)
  | (with_reducible refine tru_int ?_)
  | (with_reducible refine tru_bl ?_)
  | (with_reducible refine tru_lst ?_)
  | (with_reducible refine tru_tup ?_)
  | (with_reducible refine notB_t ?_)
  | (with_reducible refine notB_f ?_)
  | (with_reducible refine notB_i ?_)
  | (with_reducible refine andB_t ?_)
  | (with_reducible refine andB_f ?_)
  | (with_reducible refine orB_t ?_)
  | (with_reducible refine orB_f ?_)
  | (with_reducible refine andM_ti ?_)
  | (with_reducible refine andM_fi ?_)
  | (with_reducible refine notM_t ?_)
  | (with_reducible refine notM_f ?_)
  | (with_reducible refine notM_i ?_)
  | (with_reducible refine abs_i ?_)
  | (with_reducible refine int_i ?_)
  | (with_reducible refine int_b ?_)
  | (with_reducible refine max_i ?_)
  | (with_reducible refine min_i ?_)
  | (with_reducible refine len_T ?_)
  | (with_reducible refine len_L ?_)
  | (with_reducible refine list_T ?_)
  | (with_reducible refine list_L ?_)
  | (with_reducible refine list_K ?_)
  | (with_reducible refine tuple_T ?_)
  | (with_reducible refine tuple_L ?_)
  | (with_reducible refine seq_T ?_)
  | (with_reducible refine seq_L ?_)
  | (with_reducible refine zip_L ?_)
  | (with_reducible refine zip_T ?_)
  | (with_reducible refine lsM_i ?_)
  | (with_reducible refine someM_i ?_)
  | (with_reducible refine ut2_i ?_)
  | (with_reducible refine un2_i ?_)
  | (with_reducible refine rai_i ?_)
  | (with_reducible refine sum_L ?_)
  | ((with_reducible show binM Operator.Mult (D.int _) (D.int _) _ _ _); refine mul_i (by tm_at "mul") ?_)
  | ((with_reducible show binM Operator.Mod (D.int _) (D.int _) _ _ _); refine mod_i (by first | assumption | omega | decide) ?_)
  | ((with_reducible show binM Operator.Pow (D.int _) (D.int _) _ _ _); refine pow_i (by refine ⟨?_, ?_, ?_⟩ <;> omega) ?_)
  | (with_reducible refine mkT_i (by first | decide | (simp <;> omega)) ?_)
  | (with_reducible refine mkL_i (by first | decide | (simp <;> omega)) ?_)
  | ((with_reducible refine ixT_i atI_0 ?_))
  | ((with_reducible refine ixT_i atI_1 ?_))
  | ((with_reducible refine ixT_i atI_2 ?_))
  | ((with_reducible refine ixL_i atI_0 ?_))
  | ((with_reducible refine ixL_i atI_1 ?_))
  | ((with_reducible refine ixL_i atI_2 ?_))))
local macro_rules | `(tactic| tm_at "en") => `(tactic| (first | (with_reducible refine sp1_i ?_) | (with_reducible refine sp2_i ?_) | (with_reducible refine sp3_i ?_) | (with_reducible refine sp4_i ?_) | (with_reducible refine sp5_i ?_) | (with_reducible refine sp6_i ?_)))
local macro_rules | `(tactic| tm_at "mm") => `(tactic| repeat tm_at "st")
theorem low_map {d : D} {ns : List Int} (hd : Seq d (ns.map D.int)) : (∀ m (R : List D → Led → Prop) (E : XR), R (ns.map D.int) m → seqM d m R E) := by
  intro m R E h
  rcases hd with rfl | rfl <;> exact h
theorem lowest_ok {d : D} {ns : List Int} {m : Led} {R : D → Led → Prop} {E : XR} (hd : Seq d (ns.map D.int)) (hl : ns.length ≤ 1000) (hb : ∀ x ∈ ns, Bd 8000 x) (k : ∀ p, R (.ref p) (m ++ [(p, .lst ((lowL ns).map D.int))])) : m_lowest [d] m R E := by
  show fnK (b_lowest _) m R E
  unfold b_lowest
  have hg := gL_bd hb
  tm_at "mm"
  refine divisor_ok hd ?_
  tm_at "mm"
  refine iteM_i (fun h => ?_) (fun h => ?_)
  · have h0 : gL ns ≠ 0 := by simpa using h
    tm_at "mm"
    refine low_map hd _ _ _ ?_
    tm_at "mm"
    refine comp_map (e := D.int) (g := fun n => .int (n.fdiv (gL ns : Nat))) ns [] (fun n _ Q hQ => ?_) (by simp; omega) ?_
    · tm_at "mm"
      refine fdiv_i (hg.divG (by omega) (by decide)) ?_
      tm_at "mm"
      exact hQ
    · refine lsMM_i fun p => ?_
      tm_at "mm"
      have := k p
      unfold lowL at this
      rw [if_neg h0] at this
      rw [List.map_map] at this
      exact this
  · have h0 : gL ns = 0 := by simpa using h
    have e : lowL ns = ns := by unfold lowL; rw [if_pos h0]
    rw [e] at k
    tm_at "mm"
    rcases hd with rfl | rfl
    · intro p; exact k p
    · intro p; exact k p
theorem low_ok {ns : List Int} {m : Led} {R : D → Led → Prop} {E : XR} (hl : ns.length ≤ 1000) (hb : ∀ x ∈ ns, Bd 8000 x) (k : R (.lst ((lowL ns).map D.int)) m) : m_law_low [.lst (ns.map D.int)] m R E := by
  show fnM (b_law_low _) m R E
  unfold b_law_low
  have hg := gL_bd hb
  tm_at "mm"
  refine law_divisor_ok (.inl rfl) ?_
  tm_at "mm"
  refine iteM_dec (fun h => ?_) (fun h => ?_)
  · have h0 : gL ns = 0 := by omega
    have e : lowL ns = ns := by unfold lowL; rw [if_pos h0]
    rw [e] at k
    tm_at "mm"
    exact k
  · have h0 : gL ns ≠ 0 := by omega
    tm_at "mm"
    refine comp_map (e := D.int) (g := fun n => .int (n.fdiv (gL ns : Nat))) ns [] (fun n _ Q hQ => ?_) (by simp; omega) ?_
    · tm_at "mm"
      refine fdiv_i (hg.divG (by omega) (by decide)) ?_
      tm_at "mm"
      exact hQ
    · tm_at "mm"
      unfold lowL at k
      rw [if_neg h0] at k
      rw [List.map_map] at k
      exact k
/-! together -/
def uF (u : Int) (q : Q) : Int := (u * q.2).fdiv (Int.gcd u q.2 : Nat)
def unitQ (qs : List Q) : Int := qs.foldl uF 1
def GQ (q : Q) : Prop := 0 < q.2 ∧ Rb 100 q
theorem uF_ok {u : Int} {q : Q} (hu : 0 < u) (hq : 0 < q.2) : 0 < uF u q ∧ (uF u q).natAbs ≤ (u * q.2).natAbs := by
  have hg := gcd_pos (u := u) (d := q.2) (by omega)
  have hp : 0 < u * q.2 := Int.mul_pos hu hq
  have e : uF u q = u * q.2 / (Int.gcd u q.2 : Nat) := Int.fdiv_eq_ediv_of_nonneg _ (by omega)
  have h1 : (Int.gcd u q.2 : Int) ≤ u := Int.le_of_dvd hu (Int.gcd_dvd_left ..)
  have h2 : u ≤ u * q.2 := by
    have := Int.mul_le_mul_of_nonneg_left (show 1 ≤ q.2 by omega) (Int.le_of_lt hu)
    omega
  have h3 : 0 < u * q.2 / (Int.gcd u q.2 : Nat) := Int.ediv_pos_of_pos_of_dvd hp (by omega) (Int.dvd_mul_of_dvd_left (Int.gcd_dvd_left ..))
  have h4 : u * q.2 / (Int.gcd u q.2 : Nat) ≤ u * q.2 := Int.ediv_le_self _ (Int.le_of_lt hp)
  rw [e]
  exact ⟨h3, by omega⟩
theorem uF_bd {u : Int} {q : Q} {n : Nat} (hu : 0 < u) (hq : GQ q) (hb : Bd n u) : Bd (n + 100) (uF u q) := by
  have h := (uF_ok hu hq.1).2
  exact Nat.lt_of_le_of_lt h (hb.mulR hq.2.2)
theorem unit_all : ∀ (qs : List Q) (u : Int) (n : Nat), (∀ q ∈ qs, GQ q) → 0 < u → Bd n u → 0 < qs.foldl uF u ∧ Bd (n + 100 * qs.length) (qs.foldl uF u)
  | [], u, n, _, hu, hb => ⟨hu, hb⟩
  | q :: qs, u, n, h, hu, hb => by
    have hq := h q List.mem_cons_self
    have := unit_all qs (uF u q) (n + 100) (fun x hx => h x (List.mem_cons_of_mem _ hx)) (uF_ok hu hq.1).1 (uF_bd hu hq hb)
    refine ⟨this.1, this.2.up ?_⟩
    rw [List.length_cons]; omega
theorem unit_ok {qs : List Q} (h : ∀ q ∈ qs, GQ q) (hl : qs.length ≤ 10) : 0 < unitQ qs ∧ Bd 1100 (unitQ qs) := by
  have := unit_all qs 1 1 h (by decide) Bd.one
  exact ⟨this.1, this.2.up (by omega)⟩
def topsQ (qs : List Q) : List Int := qs.map fun q => q.1 * (unitQ qs).fdiv q.2
theorem fdiv_bd {u d : Int} {n : Nat} (hu : 0 < u) (hd : 0 < d) (hb : Bd n u) : Bd n (u.fdiv d) := by
  rw [Int.fdiv_eq_ediv_of_nonneg _ (Int.le_of_lt hd)]
  have h1 := Int.ediv_le_self d (Int.le_of_lt hu)
  have h2 : 0 ≤ u / d := Int.ediv_nonneg (Int.le_of_lt hu) (Int.le_of_lt hd)
  unfold Bd at hb ⊢
  omega
theorem unit_loop {f : D → D → M (Fl D D)} {R : Fl D Empty → Led → Prop} {E : XR} {m : Led} {qs : List Q} (h : ∀ q ∈ qs, GQ q) (hl : qs.length ≤ 10)
    (hf : ∀ q u, GQ q → 0 < u → Bd 1100 u → ∀ Q : Fl D D → Led → Prop, Q (.nx (.int (uF u q))) m → f (rat q) (.int u) m Q E) (k : R (.nx (.int (unitQ qs))) m) : forF f (qs.map rat) (.int 1) m R E := by
  refine for_ind (e := rat) (fun xs s m2 => m2 = m ∧ ∃ u : Int, s = .int u ∧ xs.foldl uF u = unitQ qs ∧ 0 < u ∧ Bd (1100 - 100 * xs.length) u ∧ xs.length ≤ 10 ∧ ∀ q ∈ xs, GQ q) ?_ ?_ qs _ m ⟨rfl, 1, rfl, rfl, by decide, Bd.one.up (by omega), hl, h⟩
  · rintro q xs s m2 ⟨rfl, u, rfl, hu, hp, hb, hx, hq⟩ Q h1 _ _
    have gq := hq q List.mem_cons_self
    simp only [List.length_cons] at hb hx
    refine hf q u gq hp (hb.up (by omega)) Q (h1 _ _ ⟨rfl, _, rfl, hu, (uF_ok hp gq.1).1, (uF_bd hp gq hb).up (by omega), by omega, fun x hx => hq x (List.mem_cons_of_mem _ hx)⟩)
  · rintro s m2 ⟨rfl, u, rfl, hu, _⟩
    have hu : u = unitQ qs := hu
    subst hu
    exact k
theorem together_ok {d : D} {qs : List Q} {m : Led} {R : D → Led → Prop} {E : XR} (hd : Seq d (qs.map rat)) (h : ∀ q ∈ qs, GQ q) (hl : qs.length ≤ 10) (k : ∀ p, R (.tup [.int (unitQ qs), .ref p]) (m ++ [(p, .lst ((topsQ qs).map D.int))])) : m_together [d] m R E := by
  have sm : (∀ m (R : List D → Led → Prop) (E : XR), R (qs.map rat) m → seqM d m R E) := by
    intro m R E h
    rcases hd with rfl | rfl <;> exact h
  show fnK (b_together _) m R E
  unfold b_together
  obtain ⟨hu, hub⟩ := unit_ok h hl
  tm_at "mm"
  refine sm _ _ _ ?_
  tm_at "mm"
  refine unit_loop h hl (fun q u gq hp hb Q hQ => ?_) ?_
  · obtain ⟨q0, b1, b2⟩ := gq
    tm_at "mm"
    refine divisor_ok (ns := [u, q.2]) (.inl rfl) ?_
    rw [gL2]
    have hg := gcd_pos (u := u) (d := q.2) (by omega)
    have hgb : Bd 100 (Int.gcd u q.2 : Nat) := by
      have := Int.le_of_dvd q0 (Int.gcd_dvd_right u q.2)
      unfold Bd at b2 ⊢
      omega
    tm_at "mm"
    refine fdiv_i (hgb.divG (by omega) (by decide)) ?_
    tm_at "mm"
    exact hQ
  · tm_at "mm"
    refine sm _ _ _ ?_
    tm_at "mm"
    refine comp_map (e := rat) (g := fun q => .int (q.1 * (unitQ qs).fdiv q.2)) qs [] (fun q hq Q hQ => ?_) (by simp; omega) ?_
    · obtain ⟨q0, b1, b2⟩ := h q hq
      tm_at "mm"
      refine fdiv_i (b2.divG (by omega) (by decide)) ?_
      have b3 := fdiv_bd hu q0 hub
      tm_at "mm"
      exact hQ
    · refine lsMM_i fun p => ?_
      tm_at "mm"
      have := k p
      unfold topsQ at this
      rw [List.map_map] at this
      exact this
theorem together_right_ok {qs : List Q} {m : Led} {R : D → Led → Prop} {E : XR} (h : ∀ q ∈ qs, GQ q) (hl : qs.length ≤ 10) (k : R (.bl true) m) : m_law_together_right [.lst (qs.map rat)] m R E := by
  show fnM (b_law_together_right (.lst (qs.map rat))) m R E
  unfold b_law_together_right
  obtain ⟨hu, hub⟩ := unit_ok h hl
  have nbq : NB 20 (D.lst (qs.map rat)) := nb_rats 18 _
  have nbd : NB 20 (D.tup [.int (unitQ qs), .lst ((topsQ qs).map D.int)]) := by
    intro x hx
    simp only [List.mem_cons, List.not_mem_nil, or_false] at hx
    rcases hx with rfl | rfl
    · exact nb_int _ _
    · exact nb_lst fun x _ => nb_int _ _
  tm_at "mm"
  refine unit_loop h hl (fun q u gq hp hb Q hQ => ?_) ?_
  · obtain ⟨q0, b1, b2⟩ := gq
    tm_at "mm"
    refine law_divisor_ok (ns := [u, q.2]) (.inl rfl) ?_
    rw [gL2]
    have hg := gcd_pos (u := u) (d := q.2) (by omega)
    have hgb : Bd 100 (Int.gcd u q.2 : Nat) := by
      have := Int.le_of_dvd q0 (Int.gcd_dvd_right u q.2)
      unfold Bd at b2 ⊢
      omega
    tm_at "mm"
    refine fdiv_i (hgb.divG (by omega) (by decide)) ?_
    tm_at "mm"
    exact hQ
  · tm_at "mm"
    refine together_ok (.inl rfl) h hl fun p => ?_
    tm_at "mm"
    refine ne_dt nbq ?_
    tm_at "mm"
    refine isi_i (t := "tuple") rfl (by decide) ?_
    rw [show isiD "tuple" "tuple" = true by decide]
    tm_at "mm"
    rw [show (!decide ((([D.int (unitQ qs), D.ref p].length : Nat) : Int) = 2)) = false from rfl]
    tm_at "mm"
    refine comp_map (e := rat) (g := fun q => .int (q.1 * (unitQ qs).fdiv q.2)) qs [] (fun q hq Q hQ => ?_) (by simp; omega) ?_
    · obtain ⟨q0, b1, b2⟩ := h q hq
      tm_at "mm"
      refine fdiv_i (b2.divG (by omega) (by decide)) ?_
      have b3 := fdiv_bd hu q0 hub
      tm_at "mm"
      exact hQ
    · have et : qs.map (fun q => D.int (q.1 * (unitQ qs).fdiv q.2)) = (topsQ qs).map D.int := by unfold topsQ; rw [List.map_map]; rfl
      rw [et]
      tm_at "mm"
      refine ne_wt (.tup (.cons (.now _) (.cons (.led (i := m.length) (List.getElem?_concat_length) (DWs.now _)) .nil))) (.now _) nbd ?_
      tm_at "mm"
      refine together_ok (.inr rfl) h hl fun p2 => ?_
      tm_at "mm"
      refine ne_wt (.tup (.cons (.now _) (.cons (.led (i := (m ++ [(p, MO.lst ((topsQ qs).map D.int))]).length) (List.getElem?_concat_length) (DWs.now _)) .nil))) (.now _) nbd ?_
      tm_at "mm"
      have hm : (m ++ [(p, MO.lst ((topsQ qs).map D.int))] ++ [(p2, MO.lst ((topsQ qs).map D.int))])[m.length]? = some (p, MO.lst ((topsQ qs).map D.int)) := by
        rw [List.getElem?_append_left (by simp)]
        exact List.getElem?_concat_length
      refine chk_i m.length hm ?_
      tm_at "mm"
      refine app_i m.length hm (by unfold topsQ; simp; omega) ?_
      tm_at "mm"
      refine together_ok (.inl rfl) h hl fun p3 => ?_
      tm_at "mm"
      refine eq_wt (.tup (.cons (.now _) (.cons (.led (List.getElem?_concat_length) (DWs.now _)) .nil))) (.now _) nbd ?_
      tm_at "mm"
      refine fnR_rt ?_
      rw [show List.take m.length ((m ++ [(p, MO.lst ((topsQ qs).map D.int))] ++ [(p2, MO.lst ((topsQ qs).map D.int))]).set m.length (p, MO.lst ((topsQ qs).map D.int ++ [D.int 7])) ++ [(p3, MO.lst ((topsQ qs).map D.int))]) = m by simp]
      exact k
end K11

namespace K11
open PySem PySem.Spec PyProof.Rows L2 DL
local macro_rules | `(tactic| tm_at "bd") => `(tactic| (first
  | (with_reducible assumption)
  | ((with_reducible show Bd _ (_ * _)); refine Bd.mulR (by tm_at "bd") (by tm_at "bd"))
  | ((with_reducible show Bd _ (_ + _)); refine Bd.addR (by tm_at "bd") (by tm_at "bd"))
  | ((with_reducible show Bd _ (_ - _)); refine Bd.subR (by tm_at "bd") (by tm_at "bd"))
  | ((with_reducible show Bd _ (-_)); refine Bd.negR (by tm_at "bd"))
  | (exact Bd.lit _)
  | (exact Bd.one)
  | assumption))
local macro_rules | `(tactic| tm_at "mul") => `(tactic| (exact Bd.mul (by tm_at "bd") (by tm_at "bd") (by decide)))
local macro_rules | `(tactic| tm_at "st") => `(tactic| (first
  | (with_reducible refine ret_i ?_)
  | (with_reducible refine bnd_i ?_)
  | (with_reducible refine rtM_i ?_)
  | (with_reducible refine seqF_i ?_)
  | (with_reducible refine seqK_nx ?_)
  | (with_reducible refine seqK_rt ?_)
  | (with_reducible refine upF_i ?_)
  | (with_reducible refine fnM_i ?_)
  | (with_reducible refine fnK_i ?_)
  | (with_reducible refine fnRK_i ?_)
  | (with_reducible refine fnR_same ?_)
  | (with_reducible refine iteM_ti ?_)
  | (with_reducible refine iteM_fi ?_)
  | (with_reducible refine add_i ?_)
  | (with_reducible refine sub_i ?_)
  | (with_reducible refine neg_i ?_)
  | (with_reducible refine iadd_i ?_)
  | (with_reducible refine eq_i ?_)
  | (with_reducible refine ne_i ?_)
  | (with_reducible refine lt_i ?_)
  | (with_reducible refine le_i ?_)
  | (with_reducible refine gt_i ?_)
  | (with_reducible refine ge_i ?_)
  | (with_reducible refine isN_i ?_)
  | (with_reducible refine isnN_i ?_)
  | (with_reducible refine cmpM_i ?_)
  | (with_reducible refine tru_int ?_)
  | (with_reducible refine tru_bl ?_)
  | (with_reducible refine tru_lst ?_)
  | (with_reducible refine tru_tup ?_)
  | (with_reducible refine notB_t ?_)
  | (with_reducible refine notB_f ?_)
  | (with_reducible refine notB_i ?_)
  | (with_reducible refine andB_t ?_)
  | (with_reducible refine andB_f ?_)
  | (with_reducible refine orB_t ?_)
  | (with_reducible refine orB_f ?_)
  | (with_reducible refine andM_ti ?_)
  | (with_reducible refine andM_fi ?_)
  | (with_reducible refine notM_t ?_)
  | (with_reducible refine notM_f ?_)
  | (with_reducible refine notM_i ?_)
  | (with_reducible refine abs_i ?_)
  | (with_reducible refine int_i ?_)
  | (with_reducible refine int_b ?_)
  | (with_reducible refine max_i ?_)
  | (with_reducible refine min_i ?_)
  | (with_reducible refine len_T ?_)
  | (with_reducible refine len_L ?_)
  | (with_reducible refine list_T ?_)
  | (with_reducible refine list_L ?_)
  | (with_reducible refine list_K ?_)
  | (with_reducible refine tuple_T ?_)
  | (with_reducible refine tuple_L ?_)
  | (with_reducible refine seq_T ?_)
  | (with_reducible refine seq_L ?_)
  | (with_reducible refine zip_L ?_)
  | (with_reducible refine zip_T ?_)
  | (with_reducible refine lsM_i ?_)
  | (with_reducible refine someM_i ?_)
  | (with_reducible refine ut2_i ?_)
  | (with_reducible refine un2_i ?_)
  | (with_reducible refine rai_i ?_)
  | (with_reducible refine sum_L ?_)
  | ((with_reducible show binM Operator.Mult (D.int _) (D.int _) _ _ _); refine mul_i (by tm_at "mul") ?_)
  | ((with_reducible show binM Operator.Mod (D.int _) (D.int _) _ _ _); refine mod_i (by first | assumption | omega | decide) ?_)
  | ((with_reducible show binM Operator.Pow (D.int _) (D.int _) _ _ _); refine pow_i (by refine ⟨?_, ?_, ?_⟩ <;> omega) ?_)
  | (with_reducible refine mkT_i (by first | decide | (simp <;> omega)) ?_)
  | (with_reducible refine mkL_i (by first | decide | (simp <;> omega)) ?_)
  | ((with_reducible refine ixT_i atI_0 ?_))
  | ((with_reducible refine ixT_i atI_1 ?_))
  | ((with_reducible refine ixT_i atI_2 ?_))
  | ((with_reducible refine ixL_i atI_0 ?_))
  | ((with_reducible refine ixL_i atI_1 ?_))
  | ((with_reducible refine ixL_i atI_2 ?_))))
local macro_rules | `(tactic| tm_at "en") => `(tactic| (first | (with_reducible refine sp1_i ?_) | (with_reducible refine sp2_i ?_) | (with_reducible refine sp3_i ?_) | (with_reducible refine sp4_i ?_) | (with_reducible refine sp5_i ?_) | (with_reducible refine sp6_i ?_)))
local macro_rules | `(tactic| tm_at "mm") => `(tactic| repeat tm_at "st")
local macro_rules | `(tactic| tm_at "tk") => `(tactic| (refine take_ok (by assumption) (by omega) (by omega) (by omega) (by assumption) ((Bd.lit _).up (by decide)) ?_))
theorem integer_ok {p : Addr} {a c : Int} {ns : List Int} {rest : Led} {R : D → Led → Prop} {E : XR} (hn : ns.length ≤ 63) (ha : 0 ≤ a) (ha2 : a ≤ 900000) (hc : 0 ≤ c)
    (k : ∀ i a' c' : Int, Bd 98 i → a ≤ a' → a' ≤ a + 2 → 0 ≤ c' → R (.int i) ((p, poolO a' c' ns) :: rest)) : m_law_integer [.ref p] ((p, poolO a c ns) :: rest) R E := by
  show fnM (b_law_integer _) _ R E
  unfold b_law_integer
  have e29 : (10 : Int) ^ Int.toNat 29 = 100000000000000000000000000000 := by decide
  tm_at "mm"
  rw [e29]
  tm_at "tk"
  intro r a1 c1 h1 h2 h3 h4 h5
  have hz : ∃ s : Int, 0 < s ∧ s ≤ 100000000000000000000000000000 ∧ atI [D.int 3, D.int 12, D.int 1000, D.int 100000000000000000000000000000] r = some (.int s) := by
    have hr : r = 0 ∨ r = 1 ∨ r = 2 ∨ r = 3 := by omega
    rcases hr with rfl | rfl | rfl | rfl
    · exact ⟨_, by decide, by decide, atI_0⟩
    · exact ⟨_, by decide, by decide, atI_1⟩
    · exact ⟨_, by decide, by decide, atI_2⟩
    · exact ⟨_, by decide, by decide, atI_3⟩
  obtain ⟨s, h6, h7, hz⟩ := hz
  have hs : Bd 97 s := by unfold Bd; omega
  tm_at "mm"
  refine ixL_i hz ?_
  tm_at "mm"
  refine take_ok hn (by omega) (by omega) (by omega) h5 ((show Bd 98 (2 * s + 1) by unfold Bd; omega).up (by decide)) ?_
  intro r2 a2 c2 h8 h9 h10 h11 h12
  tm_at "mm"
  refine fnR_len rfl ?_
  exact k _ _ _ (by unfold Bd; omega) (by omega) (by omega) h12
theorem lowest_right_ok {p : Addr} {a c : Int} {ns : List Int} {rest : Led} {R : D → Led → Prop} {E : XR} (hn : ns.length ≤ 63) (ha : 0 ≤ a) (ha2 : a ≤ 900000) (hc : 0 ≤ c)
    (k : ∀ m', R (.bl true) m') : m_law_lowest_right [.ref p] ((p, poolO a c ns) :: rest) R E := by
  unfold m_law_lowest_right
  tm_at "en"
  unfold b_law_lowest_right
  have e25 : (10 : Int) ^ Int.toNat 25 = 10000000000000000000000000 := by decide
  tm_at "mm"
  tm_at "tk"
  intro r a1 c1 h1 h2 h3 h4 h5
  tm_at "mm"
  rw [e25]
  tm_at "tk"
  intro r2 a2 c2 h12 h22 h32 h42 h52
  tm_at "mm"
  have hz : ∃ z : Int, 0 < z ∧ z ≤ 10000000000000000000000000 ∧ atI [D.int 1, D.int 10000000000000000000000000] (if decide (r2 = 0) = true then 1 else 0) = some (.int z) := by
    by_cases h : r2 = 0
    · exact ⟨10000000000000000000000000, by decide, by decide, by rw [if_pos (by simpa using h)]; exact atI_1⟩
    · exact ⟨1, by decide, by decide, by rw [if_neg (by simpa using h)]; exact atI_0⟩
  obtain ⟨z, z0, z1, hz⟩ := hz
  refine ixL_i hz ?_
  have br : Bd 10 r := by unfold Bd; omega
  have bz : Bd 84 z := by unfold Bd; omega
  tm_at "mm"
  tm_at "tk"
  intro r3 a3 c3 h13 h23 h33 h43 h53
  tm_at "mm"
  tm_at "tk"
  intro r4 a4 c4 h14 h24 h34 h44 h54
  tm_at "mm"
  have hm : ∃ z : Int, 0 ≤ z ∧ z ≤ 40 ∧ atI [D.int r3, D.int 40] (if decide (r4 = 0) = true then 1 else 0) = some (.int z) := by
    by_cases h : r4 = 0
    · exact ⟨40, by decide, by decide, by rw [if_pos (by simpa using h)]; exact atI_1⟩
    · exact ⟨r3, by omega, by omega, by rw [if_neg (by simpa using h)]; exact atI_0⟩
  obtain ⟨many, m0, m1, hm⟩ := hm
  refine ixL_i hm ?_
  tm_at "mm"
  refine rng_i (by omega) (by omega) ?_
  tm_at "mm"
  rw [rangeD_map]
  refine comp_ind (e := fun k : Nat => D.int (k : Int)) (fun xs acc m' => ∃ (a c : Int) (vs : List Int), 0 ≤ a ∧ a ≤ a4 + 100 - xs.length ∧ 0 ≤ c ∧ acc = vs.map D.int ∧ (∀ v ∈ vs, Bd 200 v) ∧ vs.length + xs.length ≤ 40 ∧ m' = (p, poolO a c ns) :: rest) ?_ ?_ _ _ _ ⟨a4, c4, [], by omega, by simp; omega, h54, rfl, by simp, by simp; omega, rfl⟩
  · rintro x xs acc m' ⟨a5, c5, vs, q1, q2, q3, rfl, q5, q6, rfl⟩ Q hs _
    simp only [List.length_cons] at q2 q6
    refine ⟨by simp; omega, ?_⟩
    tm_at "mm"
    tm_at "tk"
    intro r6 a6 c6 h16 h26 h36 h46 h56
    have b6 : Bd 6 (r6 - 20) := by unfold Bd; omega
    tm_at "mm"
    refine hs _ _ (by simp; omega) ⟨a6, c6, vs ++ [r * z * (r6 - 20)], by omega, by omega, h56, by simp, ?_, by simp; omega, rfl⟩
    intro v hv
    rcases List.mem_append.mp hv with hv | hv
    · exact q5 v hv
    · obtain rfl : v = r * z * (r6 - 20) := by simpa using hv
      exact ((br.mulR bz).mulR b6).up (by decide)
  · rintro acc m' ⟨a5, c5, vs, q1, q2, q3, rfl, q5, q6, rfl⟩
    have vl : vs.length ≤ 1000 := by simp at q6; omega
    have vb : ∀ v ∈ vs, Bd 8000 v := fun v hv => (q5 v hv).up (by decide)
    have nbl : ∀ l : List Int, NB 20 (D.lst (l.map D.int)) := fun l => nb_lst fun x _ => nb_int _ _
    tm_at "mm"
    refine lowest_ok (.inl rfl) vl vb fun p1 => ?_
    tm_at "mm"
    refine low_ok vl vb ?_
    tm_at "mm"
    refine ne_wt (.led get_last (DWs.now _)) (.now _) (nbl _) ?_
    tm_at "mm"
    refine ne_dt (nbl _) ?_
    tm_at "mm"
    refine chk_i _ get_last ?_
    tm_at "mm"
    refine app_i _ get_last (by rw [List.length_map]; unfold lowL; split <;> (try rw [List.length_map]) <;> omega) ?_
    tm_at "mm"
    refine eq_dt (nbl _) ?_
    tm_at "mm"
    refine lowest_ok (.inr rfl) vl vb fun p2 => ?_
    tm_at "mm"
    refine low_ok vl vb ?_
    tm_at "mm"
    refine eq_wt (.led get_last (DWs.now _)) (.now _) (nbl _) ?_
    tm_at "mm"
    exact fnR_rt (k _)
theorem two_loop {qs : List Q} {q : Q} {f : D → Unit → M (Fl Unit Unit)} {R : Fl Unit Empty → Led → Prop} {E : XR} {m : Led} : True := trivial
theorem law_ok {ns : List Int} (hn : ns.length ≤ 63) (R : D → Led → Prop) (hR : ∀ m', R (.bl true) m') : m_law [.lsk (ns.map D.int)] [] R NoX := by
  unfold m_law
  tm_at "en"
  unfold b_law
  tm_at "mm"
  refine pool_ok fun p => ?_
  tm_at "mm"
  refine newL_i (by simp) fun l => ?_
  tm_at "mm"
  simp only [List.nil_append, List.cons_append]
  refine take_ok hn (by omega) (by omega) (by omega) (by omega) ((Bd.lit _).up (by decide)) ?_
  intro r a c h1 h2 h3 h4 h5
  tm_at "mm"
  refine rng_i (by omega) (by omega) ?_
  tm_at "mm"
  rw [rangeD_map]
  refine for_ind (e := fun k : Nat => D.int (k : Int)) (fun xs s m' => ∃ (a c : Int) (qs : List Q) (junk : Led), 0 ≤ a ∧ a ≤ 1000 - 10 * xs.length ∧ 0 ≤ c ∧ (∀ q ∈ qs, GQ q) ∧ qs.length + xs.length ≤ 5 ∧ (∀ x ∈ xs, x ≤ 10) ∧ m' = (p, poolO a c ns) :: (l, .lst (qs.map rat)) :: junk) ?_ ?_ _ _ _ ⟨a, c, [], [], by omega, by simp; omega, h5, by simp, by simp; omega, by intro x hx; simp at hx; omega, rfl⟩
  · rintro x xs s m' ⟨a1, c1, qs, junk, q1, q2, q3, q4, q5, qx, rfl⟩ Q hs hrt _
    simp only [List.length_cons] at q2 q5
    have hx10 := qx x List.mem_cons_self
    tm_at "mm"
    refine integer_ok hn q1 (by omega) q3 ?_
    intro u a2 c2 bu h6 h7 h8
    tm_at "mm"
    refine integer_ok hn (by omega) (by omega) h8 ?_
    intro y a3 c3 by0 h9 h10 h11
    tm_at "mm"
    refine newL_i (by simp) fun pr => ?_
    generalize hM : (p, poolO a3 c3 ns) :: (l, MO.lst (qs.map rat)) :: junk = M0
    tm_at "mm"
    refine ixR_i _ get_last atI_1 ?_
    tm_at "mm"
    refine iteM_gen (fun fl m' => fl = .nx () ∧ ∃ y' : Int, y' ≠ 0 ∧ Bd 98 y' ∧ m' = M0 ++ [(pr, .lst [.int u, .int y'])]) ?_ ?_ ?_
    · intro h R' hR'
      tm_at "mm"
      refine st_i _ 1 get_last rfl ?_
      tm_at "mm"
      rw [set_last]
      exact hR' _ _ ⟨rfl, _, by omega, by unfold Bd; omega, rfl⟩
    · intro h R' hR'
      tm_at "mm"
      exact hR' _ _ ⟨rfl, y, by simpa using h, by0, rfl⟩
    · rintro fl m' ⟨rfl, y', y0, yb, rfl⟩
      have yb8 : Bd 8000 y' := yb.up (by decide)
      tm_at "mm"
      refine ixR_i _ get_last atI_0 ?_
      tm_at "mm"
      refine ixR_i _ get_last atI_1 ?_
      tm_at "mm"
      refine ratio_ok y0 yb8 ?_
      tm_at "mm"
      refine ixR_i _ get_last atI_0 ?_
      tm_at "mm"
      refine ixR_i _ get_last atI_1 ?_
      tm_at "mm"
      refine in_terms_ok y0 yb8 rfl ?_
      tm_at "mm"
      refine ixR_i _ get_last atI_0 ?_
      tm_at "mm"
      refine ratio_ok (by decide) ((Bd.lit 1).up (by decide)) ?_
      tm_at "mm"
      refine ixR_i _ get_last atI_0 ?_
      tm_at "mm"
      refine in_terms_ok (by decide) ((Bd.lit 1).up (by decide)) rfl ?_
      tm_at "mm"
      refine ixR_i _ get_last atI_1 ?_
      tm_at "mm"
      refine ixR_i _ get_last atI_0 ?_
      tm_at "mm"
      refine ⟨rfl, ratio_ok y0 yb8 ?_⟩
      tm_at "mm"
      refine ne_dt (nb_rat 19 _) ?_
      tm_at "mm"
      refine ixR_i _ get_last atI_0 ?_
      tm_at "mm"
      refine refused_ok ?_
      tm_at "mm"
      subst hM
      refine chk_i 1 rfl ?_
      tm_at "mm"
      refine app_i 1 rfl (by simp; omega) ?_
      tm_at "mm"
      refine hs _ _ ⟨a3, c3, qs ++ [mkQ u y'], junk ++ [(pr, .lst [.int u, .int y'])], by omega, by omega, h11, ?_, by simp; omega, fun z hz => qx z (List.mem_cons_of_mem _ hz), ?_⟩
      · intro q hq
        rcases List.mem_append.mp hq with hq | hq
        · exact q4 q hq
        · obtain rfl : q = mkQ u y' := by simpa using hq
          have hb := mkQ_rb (u := u) y0 bu yb
          exact ⟨(mkQ_nf y0).1, hb.1.up (by decide), hb.2.up (by decide)⟩
      · simp
  · rintro s m' ⟨a1, c1, qs, junk, q1, q2, q3, q4, q5, _, rfl⟩
    simp at q2 q5
    tm_at "mm"
    refine frz_i 1 rfl ?_
    tm_at "mm"
    refine for_ind (e := rat) (fun xs s m' => (∀ q ∈ xs, GQ q) ∧ m' = (p, poolO a1 c1 ns) :: junk) ?_ ?_ _ _ _ ⟨q4, rfl⟩
    · rintro q xs s m' ⟨hg, rfl⟩ Q hs _ _
      obtain ⟨q0, qb⟩ := hg q List.mem_cons_self
      have qb1 : Rb 1000 q := ⟨qb.1.up (by decide), qb.2.up (by decide)⟩
      tm_at "mm"
      refine near_right_ok qb q0 ?_
      tm_at "mm"
      refine cat_i (by simp; omega) ?_
      tm_at "mm"
      rw [show qs.map rat ++ [D.tup [D.int 0, D.int 1]] = (qs ++ [(0, 1)]).map rat by simp]
      refine for_ind (e := rat) (fun ys s m' => (∀ q ∈ ys, GQ q) ∧ m' = (p, poolO a1 c1 ns) :: junk) ?_ ?_ _ _ _ ⟨?_, rfl⟩
      · rintro q2 ys s m' ⟨hg2, rfl⟩ Q hs2 _ _
        obtain ⟨q20, q2b⟩ := hg2 q2 List.mem_cons_self
        tm_at "mm"
        refine two_right_ok qb1 ⟨q2b.1.up (by decide), q2b.2.up (by decide)⟩ (by omega) (by omega) ?_
        tm_at "mm"
        exact hs2 _ _ ⟨fun z hz => hg2 z (List.mem_cons_of_mem _ hz), rfl⟩
      · rintro s m' ⟨_, rfl⟩
        tm_at "mm"
        exact hs _ _ ⟨fun z hz => hg z (List.mem_cons_of_mem _ hz), rfl⟩
      · intro z hz
        rcases List.mem_append.mp hz with hz | hz
        · exact q4 z hz
        · obtain rfl : z = (0, 1) := by simpa using hz
          exact ⟨by decide, by unfold Bd; decide, by unfold Bd; decide⟩
    · rintro s m' ⟨_, rfl⟩
      tm_at "mm"
      refine together_right_ok q4 (by omega) ?_
      tm_at "mm"
      refine together_right_ok (qs := []) (by simp) (by simp) ?_
      tm_at "mm"
      refine lowest_right_ok hn q1 (by omega) q3 fun m' => ?_
      tm_at "mm"
      exact fnR_rt (hR _)
theorem main_law (ns : List Int) (hl : ns.length ≤ 63) (R : D → Led → Prop) (hR : ∀ m', R (.bl true) m') : m_law [.lsk (ns.map D.int)] [] R NoX := law_ok hl R hR
end K11

namespace K11
open PySem PySem.Spec PyProof.Rows L2 DL
abbrev s_BadRatio__init__ : Stmt := DL.inClass (topS 2) 0
theorem all_mk {w : World} {K : PySem.W.Frag} {h : Heap} {mg : Str → Option Value} {fa : Addr} (X : K.In h) (G : h.Ns mainGlobals mg) (hfa : mg "law" = some (.ref fa))
    {f0 : Addr} {od0 an0 : Option Addr} {sl0 : Array (Option Value)} {oc0 kV0 dc0 pm0 cd0 ct0 : Value}
    (a0 : PySem.W.nsIn K mainGlobals "_law_pool" = some (some (.ref f0))) (l0 : K.lookup f0 = some ⟨oc0, od0, .func (PySem.W.fnOf "_law_pool" "_law_pool" (defArgs s_law_pool) (defBody s_law_pool) (defScope s_law_pool) .none kV0 dc0 pm0 an0 cd0 ct0), sl0⟩) (c0 : PySem.W.codeIn K cd0 "_law_pool" = true) (k0 : PySem.W.keepIn K (.ref f0) = true)
    {f1 : Addr} {od1 an1 : Option Addr} {sl1 : Array (Option Value)} {oc1 kV1 dc1 pm1 cd1 ct1 : Value}
    (a1 : PySem.W.nsIn K mainGlobals "divisor" = some (some (.ref f1))) (l1 : K.lookup f1 = some ⟨oc1, od1, .func (PySem.W.fnOf "divisor" "divisor" (defArgs s_divisor) (defBody s_divisor) (defScope s_divisor) .none kV1 dc1 pm1 an1 cd1 ct1), sl1⟩) (c1 : PySem.W.codeIn K cd1 "divisor" = true) (k1 : PySem.W.keepIn K (.ref f1) = true)
    {f2 : Addr} {od2 an2 : Option Addr} {sl2 : Array (Option Value)} {oc2 kV2 dc2 pm2 cd2 ct2 : Value}
    (a2 : PySem.W.nsIn K mainGlobals "lowest" = some (some (.ref f2))) (l2 : K.lookup f2 = some ⟨oc2, od2, .func (PySem.W.fnOf "lowest" "lowest" (defArgs s_lowest) (defBody s_lowest) (defScope s_lowest) .none kV2 dc2 pm2 an2 cd2 ct2), sl2⟩) (c2 : PySem.W.codeIn K cd2 "lowest" = true) (k2 : PySem.W.keepIn K (.ref f2) = true)
    {f3 : Addr} {od3 an3 : Option Addr} {sl3 : Array (Option Value)} {oc3 kV3 dc3 pm3 cd3 ct3 : Value}
    (a3 : PySem.W.nsIn K mainGlobals "_law_take" = some (some (.ref f3))) (l3 : K.lookup f3 = some ⟨oc3, od3, .func (PySem.W.fnOf "_law_take" "_law_take" (defArgs s_law_take) (defBody s_law_take) (defScope s_law_take) .none kV3 dc3 pm3 an3 cd3 ct3), sl3⟩) (c3 : PySem.W.codeIn K cd3 "_law_take" = true) (k3 : PySem.W.keepIn K (.ref f3) = true)
    {f4 : Addr} {od4 an4 : Option Addr} {sl4 : Array (Option Value)} {oc4 kV4 dc4 pm4 cd4 ct4 : Value}
    (a4 : PySem.W.nsIn K mainGlobals "_law_divisor" = some (some (.ref f4))) (l4 : K.lookup f4 = some ⟨oc4, od4, .func (PySem.W.fnOf "_law_divisor" "_law_divisor" (defArgs s_law_divisor) (defBody s_law_divisor) (defScope s_law_divisor) .none kV4 dc4 pm4 an4 cd4 ct4), sl4⟩) (c4 : PySem.W.codeIn K cd4 "_law_divisor" = true) (k4 : PySem.W.keepIn K (.ref f4) = true)
    {f5 : Addr} {od5 an5 : Option Addr} {sl5 : Array (Option Value)} {oc5 kV5 dc5 pm5 cd5 ct5 : Value}
    (a5 : PySem.W.nsIn K mainGlobals "_law_low" = some (some (.ref f5))) (l5 : K.lookup f5 = some ⟨oc5, od5, .func (PySem.W.fnOf "_law_low" "_law_low" (defArgs s_law_low) (defBody s_law_low) (defScope s_law_low) .none kV5 dc5 pm5 an5 cd5 ct5), sl5⟩) (c5 : PySem.W.codeIn K cd5 "_law_low" = true) (k5 : PySem.W.keepIn K (.ref f5) = true)
    {f6 : Addr} {od6 an6 : Option Addr} {sl6 : Array (Option Value)} {oc6 kV6 dc6 pm6 cd6 ct6 : Value}
    (a6 : PySem.W.nsIn K mainGlobals "_law_lowest_right" = some (some (.ref f6))) (l6 : K.lookup f6 = some ⟨oc6, od6, .func (PySem.W.fnOf "_law_lowest_right" "_law_lowest_right" (defArgs s_law_lowest_right) (defBody s_law_lowest_right) (defScope s_law_lowest_right) .none kV6 dc6 pm6 an6 cd6 ct6), sl6⟩) (c6 : PySem.W.codeIn K cd6 "_law_lowest_right" = true) (k6 : PySem.W.keepIn K (.ref f6) = true)
    {f7 : Addr} {od7 an7 : Option Addr} {sl7 : Array (Option Value)} {oc7 kV7 dc7 pm7 cd7 ct7 : Value}
    {T7 : Addr} {oT7 : Obj} {nT7 : Nat} {uT7_0 : Value}
    (a7 : PySem.W.nsIn K mainGlobals "ratio" = some (some (.ref f7))) (l7 : K.lookup f7 = some ⟨oc7, od7, .func (PySem.W.fnOf "ratio" "ratio" (defArgs s_ratio) (defBody s_ratio) (defScope s_ratio) (.ref T7) kV7 dc7 pm7 an7 cd7 ct7), sl7⟩) (c7 : PySem.W.codeIn K cd7 "ratio" = true) (k7 : PySem.W.keepIn K (.ref f7) = true)
    (lT7 : K.lookup T7 = some oT7) (oTd7 : oT7.data = .seq [uT7_0].toArray nT7) (rT7_0 : RelV (.int 1 : V) uT7_0)
    {f8 : Addr} {od8 an8 : Option Addr} {sl8 : Array (Option Value)} {oc8 kV8 dc8 pm8 cd8 ct8 : Value}
    (a8 : PySem.W.nsIn K mainGlobals "_law_integer" = some (some (.ref f8))) (l8 : K.lookup f8 = some ⟨oc8, od8, .func (PySem.W.fnOf "_law_integer" "_law_integer" (defArgs s_law_integer) (defBody s_law_integer) (defScope s_law_integer) .none kV8 dc8 pm8 an8 cd8 ct8), sl8⟩) (c8 : PySem.W.codeIn K cd8 "_law_integer" = true) (k8 : PySem.W.keepIn K (.ref f8) = true)
    {f9 : Addr} {od9 an9 : Option Addr} {sl9 : Array (Option Value)} {oc9 kV9 dc9 pm9 cd9 ct9 : Value}
    (a9 : PySem.W.nsIn K mainGlobals "compare" = some (some (.ref f9))) (l9 : K.lookup f9 = some ⟨oc9, od9, .func (PySem.W.fnOf "compare" "compare" (defArgs s_compare) (defBody s_compare) (defScope s_compare) .none kV9 dc9 pm9 an9 cd9 ct9), sl9⟩) (c9 : PySem.W.codeIn K cd9 "compare" = true) (k9 : PySem.W.keepIn K (.ref f9) = true)
    {f10 : Addr} {od10 an10 : Option Addr} {sl10 : Array (Option Value)} {oc10 kV10 dc10 pm10 cd10 ct10 : Value}
    (a10 : PySem.W.nsIn K mainGlobals "_law_ratio" = some (some (.ref f10))) (l10 : K.lookup f10 = some ⟨oc10, od10, .func (PySem.W.fnOf "_law_ratio" "_law_ratio" (defArgs s_law_ratio) (defBody s_law_ratio) (defScope s_law_ratio) .none kV10 dc10 pm10 an10 cd10 ct10), sl10⟩) (c10 : PySem.W.codeIn K cd10 "_law_ratio" = true) (k10 : PySem.W.keepIn K (.ref f10) = true)
    {f11 : Addr} {od11 an11 : Option Addr} {sl11 : Array (Option Value)} {oc11 kV11 dc11 pm11 cd11 ct11 : Value}
    (a11 : PySem.W.nsIn K mainGlobals "_law_is_number" = some (some (.ref f11))) (l11 : K.lookup f11 = some ⟨oc11, od11, .func (PySem.W.fnOf "_law_is_number" "_law_is_number" (defArgs s_law_is_number) (defBody s_law_is_number) (defScope s_law_is_number) .none kV11 dc11 pm11 an11 cd11 ct11), sl11⟩) (c11 : PySem.W.codeIn K cd11 "_law_is_number" = true) (k11 : PySem.W.keepIn K (.ref f11) = true)
    {f12 : Addr} {od12 an12 : Option Addr} {sl12 : Array (Option Value)} {oc12 kV12 dc12 pm12 cd12 ct12 : Value}
    (a12 : PySem.W.nsIn K mainGlobals "_law_in_terms" = some (some (.ref f12))) (l12 : K.lookup f12 = some ⟨oc12, od12, .func (PySem.W.fnOf "_law_in_terms" "_law_in_terms" (defArgs s_law_in_terms) (defBody s_law_in_terms) (defScope s_law_in_terms) .none kV12 dc12 pm12 an12 cd12 ct12), sl12⟩) (c12 : PySem.W.codeIn K cd12 "_law_in_terms" = true) (k12 : PySem.W.keepIn K (.ref f12) = true)
    {f13 : Addr} {od13 an13 : Option Addr} {sl13 : Array (Option Value)} {oc13 kV13 dc13 pm13 cd13 ct13 : Value}
    (a13 : PySem.W.nsIn K mainGlobals "plus" = some (some (.ref f13))) (l13 : K.lookup f13 = some ⟨oc13, od13, .func (PySem.W.fnOf "plus" "plus" (defArgs s_plus) (defBody s_plus) (defScope s_plus) .none kV13 dc13 pm13 an13 cd13 ct13), sl13⟩) (c13 : PySem.W.codeIn K cd13 "plus" = true) (k13 : PySem.W.keepIn K (.ref f13) = true)
    {f14 : Addr} {od14 an14 : Option Addr} {sl14 : Array (Option Value)} {oc14 kV14 dc14 pm14 cd14 ct14 : Value}
    (a14 : PySem.W.nsIn K mainGlobals "minus" = some (some (.ref f14))) (l14 : K.lookup f14 = some ⟨oc14, od14, .func (PySem.W.fnOf "minus" "minus" (defArgs s_minus) (defBody s_minus) (defScope s_minus) .none kV14 dc14 pm14 an14 cd14 ct14), sl14⟩) (c14 : PySem.W.codeIn K cd14 "minus" = true) (k14 : PySem.W.keepIn K (.ref f14) = true)
    {f15 : Addr} {od15 an15 : Option Addr} {sl15 : Array (Option Value)} {oc15 kV15 dc15 pm15 cd15 ct15 : Value}
    (a15 : PySem.W.nsIn K mainGlobals "times" = some (some (.ref f15))) (l15 : K.lookup f15 = some ⟨oc15, od15, .func (PySem.W.fnOf "times" "times" (defArgs s_times) (defBody s_times) (defScope s_times) .none kV15 dc15 pm15 an15 cd15 ct15), sl15⟩) (c15 : PySem.W.codeIn K cd15 "times" = true) (k15 : PySem.W.keepIn K (.ref f15) = true)
    {f16 : Addr} {od16 an16 : Option Addr} {sl16 : Array (Option Value)} {oc16 kV16 dc16 pm16 cd16 ct16 : Value}
    (a16 : PySem.W.nsIn K mainGlobals "_law_two_right" = some (some (.ref f16))) (l16 : K.lookup f16 = some ⟨oc16, od16, .func (PySem.W.fnOf "_law_two_right" "_law_two_right" (defArgs s_law_two_right) (defBody s_law_two_right) (defScope s_law_two_right) .none kV16 dc16 pm16 an16 cd16 ct16), sl16⟩) (c16 : PySem.W.codeIn K cd16 "_law_two_right" = true) (k16 : PySem.W.keepIn K (.ref f16) = true)
    {f17 : Addr} {od17 an17 : Option Addr} {sl17 : Array (Option Value)} {oc17 kV17 dc17 pm17 cd17 ct17 : Value}
    (a17 : PySem.W.nsIn K mainGlobals "_law_near_right" = some (some (.ref f17))) (l17 : K.lookup f17 = some ⟨oc17, od17, .func (PySem.W.fnOf "_law_near_right" "_law_near_right" (defArgs s_law_near_right) (defBody s_law_near_right) (defScope s_law_near_right) .none kV17 dc17 pm17 an17 cd17 ct17), sl17⟩) (c17 : PySem.W.codeIn K cd17 "_law_near_right" = true) (k17 : PySem.W.keepIn K (.ref f17) = true)
    {f18 : Addr} {od18 an18 : Option Addr} {sl18 : Array (Option Value)} {oc18 kV18 dc18 pm18 cd18 ct18 : Value}
    (a18 : PySem.W.nsIn K mainGlobals "together" = some (some (.ref f18))) (l18 : K.lookup f18 = some ⟨oc18, od18, .func (PySem.W.fnOf "together" "together" (defArgs s_together) (defBody s_together) (defScope s_together) .none kV18 dc18 pm18 an18 cd18 ct18), sl18⟩) (c18 : PySem.W.codeIn K cd18 "together" = true) (k18 : PySem.W.keepIn K (.ref f18) = true)
    {f19 : Addr} {od19 an19 : Option Addr} {sl19 : Array (Option Value)} {oc19 kV19 dc19 pm19 cd19 ct19 : Value}
    (a19 : PySem.W.nsIn K mainGlobals "_law_together_right" = some (some (.ref f19))) (l19 : K.lookup f19 = some ⟨oc19, od19, .func (PySem.W.fnOf "_law_together_right" "_law_together_right" (defArgs s_law_together_right) (defBody s_law_together_right) (defScope s_law_together_right) .none kV19 dc19 pm19 an19 cd19 ct19), sl19⟩) (c19 : PySem.W.codeIn K cd19 "_law_together_right" = true) (k19 : PySem.W.keepIn K (.ref f19) = true)
    {f20 : Addr} {od20 an20 : Option Addr} {sl20 : Array (Option Value)} {oc20 kV20 dc20 pm20 cd20 ct20 : Value}
    (a20 : PySem.W.nsIn K mainGlobals "_law_refused" = some (some (.ref f20))) (l20 : K.lookup f20 = some ⟨oc20, od20, .func (PySem.W.fnOf "_law_refused" "_law_refused" (defArgs s_law_refused) (defBody s_law_refused) (defScope s_law_refused) .none kV20 dc20 pm20 an20 cd20 ct20), sl20⟩) (c20 : PySem.W.codeIn K cd20 "_law_refused" = true) (k20 : PySem.W.keepIn K (.ref f20) = true)
    {f21 : Addr} {od21 an21 : Option Addr} {sl21 : Array (Option Value)} {oc21 kV21 dc21 pm21 cd21 ct21 : Value}
    (a21 : PySem.W.nsIn K mainGlobals "law" = some (some (.ref f21))) (l21 : K.lookup f21 = some ⟨oc21, od21, .func (PySem.W.fnOf "law" "law" (defArgs s_law) (defBody s_law) (defScope s_law) .none kV21 dc21 pm21 an21 cd21 ct21), sl21⟩) (c21 : PySem.W.codeIn K cd21 "law" = true) (k21 : PySem.W.keepIn K (.ref f21) = true)
    (z0 : PySem.W.nsIn K mainGlobals "abs" = some none)
    (z1 : PySem.W.nsIn K mainGlobals "bool" = some none)
    (z2 : PySem.W.nsIn K mainGlobals "int" = some none)
    (z3 : PySem.W.nsIn K mainGlobals "isinstance" = some none)
    (z4 : PySem.W.nsIn K mainGlobals "len" = some none)
    (z5 : PySem.W.nsIn K mainGlobals "list" = some none)
    (z6 : PySem.W.nsIn K mainGlobals "max" = some none)
    (z7 : PySem.W.nsIn K mainGlobals "range" = some none)
    (z8 : PySem.W.nsIn K mainGlobals "tuple" = some none)
    {C_BadRatio : Addr} (ax_BadRatio : PySem.W.nsIn K mainGlobals "BadRatio" = some (some (.ref C_BadRatio)))
    {C_DivisionError : Addr} (ax_DivisionError : PySem.W.nsIn K mainGlobals "DivisionError" = some (some (.ref C_DivisionError)))
    (zsup : PySem.W.nsIn K mainGlobals "super" = some none) (zq : PySem.W.nsIn K cStatics "thirdparty.any" = some none)
    {fI_BadRatio cc_BadRatio cda_BadRatio N_BadRatio : Addr} {nm_BadRatio qq_BadRatio : Str} {bs_BadRatio bm_BadRatio : List Value} {sn_BadRatio : List Str} {sub_BadRatio : List Value} {ab_BadRatio : Bool} {col_BadRatio : Option Bool} {dd_BadRatio : Option Addr} {k0_BadRatio k1_BadRatio k2_BadRatio k3_BadRatio k5_BadRatio : Option Value} {kV_BadRatio doc_BadRatio pm_BadRatio ct_BadRatio oc_BadRatio ccl_BadRatio cl_BadRatio : Value} {an_BadRatio od_BadRatio cdd_BadRatio cld_BadRatio : Option Addr} {osl_BadRatio ccs_BadRatio csl_BadRatio : Array (Option Value)} {vs_BadRatio : Array Value} {file_BadRatio : Str} {tf_BadRatio : Tok}
    (lx_BadRatio : K.lookup C_BadRatio = some (excClassObj nm_BadRatio qq_BadRatio C_BadRatio N_BadRatio bs_BadRatio bm_BadRatio true sn_BadRatio sub_BadRatio ab_BadRatio col_BadRatio dd_BadRatio k0_BadRatio k1_BadRatio k2_BadRatio k3_BadRatio k5_BadRatio "ValueError.__new__")) (rx_BadRatio : PySem.HandSPX.refsVE bm_BadRatio = true) (sx_BadRatio : PySem.W.findIn K (.ref C_BadRatio) "__setattr__" = some (some (.builtin "object.__setattr__")))
    (bx_BadRatio : PySem.W.subIn K (.ref C_BadRatio) (.type "BaseException") = some true) (tx_BadRatio : PySem.W.typeIn K (.ref C_BadRatio) = some (.type "type")) (kx_BadRatio : PySem.W.keepIn K (.ref C_BadRatio) = true) (ix_BadRatio : PySem.W.findIn K (.ref C_BadRatio) "__init__" = some (some (.ref fI_BadRatio))) (ux_BadRatio : PySem.W.typeIn K (.ref fI_BadRatio) = some (.type "function"))
    (fx_BadRatio : K.lookup fI_BadRatio = some ⟨oc_BadRatio, od_BadRatio, .func (fnC "__init__" "BadRatio.__init__" s_BadRatio__init__ cc_BadRatio cda_BadRatio kV_BadRatio doc_BadRatio pm_BadRatio an_BadRatio ct_BadRatio), osl_BadRatio⟩) (cx_BadRatio : PySem.W.codeIn K (.ref cda_BadRatio) "BadRatio.__init__" = true) (dx_BadRatio : K.lookup cda_BadRatio = some ⟨ccl_BadRatio, cdd_BadRatio, .fields vs_BadRatio, ccs_BadRatio⟩) (d2_BadRatio : vs_BadRatio[2]? = some (.str file_BadRatio tf_BadRatio))
    (d3_BadRatio : ((PySem.Challenge.pw_leastcomplaint_k11_ratios.main.file : Str) == file_BadRatio) = true) (ex_BadRatio : K.lookup cc_BadRatio = some ⟨cl_BadRatio, cld_BadRatio, .cell (some (.ref C_BadRatio)), csl_BadRatio⟩) (px_BadRatio : PySem.W.ks_superIn K C_BadRatio C_BadRatio "__init__" = some (some (.builtin "ValueError.__init__"))) (mx_BadRatio : PySem.W.mroIn K C_BadRatio (.ref C_BadRatio) = some true) (vx_BadRatio : PySem.W.subIn K (.ref C_BadRatio) (.type "ValueError") = some true)
    (ox_BadRatio : PySem.W.excInitIn K C_BadRatio [.type "ValueError", .type "Exception", .type "BaseException", .type "object"] "ValueError.__new__" = true)
    (nx_BadRatio : PySem.W.findIn K (.ref C_BadRatio) "bottom" = some none)
    (em_BadRatio_BadRatio : PySem.W.exmOne K (.ref C_BadRatio) (.ref C_BadRatio) = some true)
    (em_BadRatio_DivisionError : PySem.W.exmOne K (.ref C_DivisionError) (.ref C_BadRatio) = some false)
    (ga_BadRatio : PySem.W.findIn K (.ref C_BadRatio) "__getattribute__" = some (some (.builtin "BaseException.__getattribute__"))) (gg_BadRatio : PySem.W.findIn K (.ref C_BadRatio) "__getattr__" = some none) (gb_BadRatio : PySem.W.subIn K (.ref C_BadRatio) (.type "BaseException") = some true) (gd_BadRatio : PySem.W.hasDictIn K C_BadRatio = true)
    (gf_BadRatio_bottom : PySem.W.findIn K (.ref C_BadRatio) "bottom" = some none)
    : ∃ fd : FuncData, (∀ (s : Shared) (v : Value), BindsTo s fd ⟨[v], []⟩ [("_law_script", v)]) ∧ ∀ base : Heap, K.In base → base.Ns mainGlobals mg → FnOk PySem.Challenge.pw_leastcomplaint_k11_ratios w K mg base CX0 6 fa fd ["_law_script"] (lift K fun ds m R => m_law ds m R NoX) := by
  have e := hfa.symm.trans (PySem.W.mg_of X G a21)
  cases e
  have mz_abs := PySem.W.mg_none_of X G z0
  have mz_bool := PySem.W.mg_none_of X G z1
  have mz_int := PySem.W.mg_none_of X G z2
  have mz_isinstance := PySem.W.mg_none_of X G z3
  have mz_len := PySem.W.mg_none_of X G z4
  have mz_list := PySem.W.mg_none_of X G z5
  have mz_max := PySem.W.mg_none_of X G z6
  have mz_range := PySem.W.mg_none_of X G z7
  have mz_tuple := PySem.W.mg_none_of X G z8
  have mg_BadRatio := PySem.W.mg_of X G ax_BadRatio
  have mg_DivisionError := PySem.W.mg_of X G ax_DivisionError
  have mz_super := PySem.W.mg_none_of X G zsup
  have Z_BadRatio : XIn PySem.Challenge.pw_leastcomplaint_k11_ratios K mg C_BadRatio fI_BadRatio cc_BadRatio cda_BadRatio "BadRatio.__init__" _ := xin_mk (st := s_BadRatio__init__) lx_BadRatio rx_BadRatio sx_BadRatio bx_BadRatio tx_BadRatio kx_BadRatio ix_BadRatio ux_BadRatio fx_BadRatio cx_BadRatio dx_BadRatio d2_BadRatio d3_BadRatio ex_BadRatio px_BadRatio mx_BadRatio vx_BadRatio zq ox_BadRatio mz_super (by decide +kernel)
  have x_BadRatio : XK1 PySem.Challenge.pw_leastcomplaint_k11_ratios w K mg "BadRatio" "bottom" C_BadRatio := xk1_mk mg_BadRatio Z_BadRatio (sf := "self") (par := "bottom") (f := "bottom") ⟨rfl, rfl, rfl, rfl, ⟨_, rfl, rfl⟩, show ∀ x ∈ (defScope s_BadRatio__init__).names, x.2 ≠ .cell by decide +kernel, rfl, rfl⟩ ⟨_, fun L => rfl⟩ rfl (by decide) nx_BadRatio (by decide) (by decide) (fun L => rfl) rfl (fun _ _ _ => .of_eq rfl)
  have c_BadRatio : ∃ Cc, mg "BadRatio" = some (.ref Cc) := ⟨_, mg_BadRatio⟩
  have xm_BadRatio : ∀ q ∈ ([("BadRatio", true), ("DivisionError", false)] : List (Str × Bool)), XM K mg q.1 "BadRatio" q.2 := by
    intro q hq
    simp only [List.mem_cons, List.not_mem_nil, or_false] at hq
    rcases hq with rfl | rfl
    · exact ⟨_, _, mg_BadRatio, mg_BadRatio, em_BadRatio_BadRatio⟩
    · exact ⟨_, _, mg_DivisionError, mg_BadRatio, em_BadRatio_DivisionError⟩
  have xf_BadRatio_bottom : ∀ nm, (nm, true) ∈ ([("BadRatio", true), ("DivisionError", false)] : List (Str × Bool)) → ∀ C, mg nm = some (.ref C) → XfC K C ∧ PySem.W.findIn K (.ref C) "bottom" = some none := by
    intro nm hq C hC
    simp only [List.mem_cons, List.not_mem_nil, or_false, Prod.mk.injEq, Bool.true_eq_false, Bool.false_eq_true, reduceCtorEq, and_false, and_true, or_false, false_or] at hq
    subst hq
    have e := mg_BadRatio.symm.trans hC
    cases e
    exact ⟨⟨ga_BadRatio, gg_BadRatio, gb_BadRatio, gd_BadRatio⟩, gf_BadRatio_bottom⟩
  have F0 := fnD_mk (st := s_law_pool) l0 c0 k0
  have F1 := fnD_mk (st := s_divisor) l1 c1 k1
  have F2 := fnD_mk (st := s_lowest) l2 c2 k2
  have F3 := fnD_mk (st := s_law_take) l3 c3 k3
  have F4 := fnD_mk (st := s_law_divisor) l4 c4 k4
  have F5 := fnD_mk (st := s_law_low) l5 c5 k5
  have F6 := fnD_mk (st := s_law_lowest_right) l6 c6 k6
  have F7 := fnD_mk1 (st := s_ratio) l7 c7 k7 lT7 oTd7 rT7_0
  have F8 := fnD_mk (st := s_law_integer) l8 c8 k8
  have F9 := fnD_mk (st := s_compare) l9 c9 k9
  have F10 := fnD_mk (st := s_law_ratio) l10 c10 k10
  have F11 := fnD_mk (st := s_law_is_number) l11 c11 k11
  have Fh11 := fun_mk (st := s_law_is_number) l11 c11 k11
  have F12 := fnD_mk (st := s_law_in_terms) l12 c12 k12
  have F13 := fnD_mk (st := s_plus) l13 c13 k13
  have F14 := fnD_mk (st := s_minus) l14 c14 k14
  have F15 := fnD_mk (st := s_times) l15 c15 k15
  have F16 := fnD_mk (st := s_law_two_right) l16 c16 k16
  have F17 := fnD_mk (st := s_law_near_right) l17 c17 k17
  have F18 := fnD_mk (st := s_together) l18 c18 k18
  have F19 := fnD_mk (st := s_law_together_right) l19 c19 k19
  have F20 := fnD_mk (st := s_law_refused) l20 c20 k20
  have F21 := fun_mk (st := s_law) l21 c21 k21
  refine ⟨PySem.W.fnOf "law" "law" (defArgs s_law) (defBody s_law) (defScope s_law) .none kV21 dc21 pm21 an21 cd21 ct21, fun s v => .of_eq rfl, fun base _ _ => ?_⟩
  have K_law_pool : KnowsX PySem.Challenge.pw_leastcomplaint_k11_ratios w K mg base 1 "_law_pool" 1 [] m_law_pool := knows0 (ok_law_pool (k := 0) F0 (by decide) mz_list) (PySem.W.mg_of X G a0) k0 (F0.bindsN fun _ _ _ _ _ _ us hl => match us, hl with | [_], _ => rfl)
  have K_divisor : KnowsX PySem.Challenge.pw_leastcomplaint_k11_ratios w K mg base 1 "divisor" 1 [] m_divisor := knows0 (ok_divisor (k := 0) F1 (by decide) mz_abs) (PySem.W.mg_of X G a1) k1 (F1.bindsN fun _ _ _ _ _ _ us hl => match us, hl with | [_], _ => rfl)
  have K_lowest : KnowsX PySem.Challenge.pw_leastcomplaint_k11_ratios w K mg base 2 "lowest" 1 [] m_lowest := knows0 (ok_lowest (k := 1) F2 (by decide) mz_list (K_divisor.mono (by decide))) (PySem.W.mg_of X G a2) k2 (F2.bindsN fun _ _ _ _ _ _ us hl => match us, hl with | [_], _ => rfl)
  have K_law_take : KnowsX PySem.Challenge.pw_leastcomplaint_k11_ratios w K mg base 1 "_law_take" 2 [] m_law_take := knows0 (ok_law_take (k := 0) F3 (by decide) mz_int mz_len mz_max) (PySem.W.mg_of X G a3) k3 (F3.bindsN fun _ _ _ _ _ _ us hl => match us, hl with | [_, _], _ => rfl)
  have K_law_divisor : KnowsX PySem.Challenge.pw_leastcomplaint_k11_ratios w K mg base 1 "_law_divisor" 1 [] m_law_divisor := knows0 (ok_law_divisor (k := 0) F4 (by decide) mz_abs mz_int) (PySem.W.mg_of X G a4) k4 (F4.bindsN fun _ _ _ _ _ _ us hl => match us, hl with | [_], _ => rfl)
  have K_law_low : KnowsX PySem.Challenge.pw_leastcomplaint_k11_ratios w K mg base 2 "_law_low" 1 [] m_law_low := knows0 (ok_law_low (k := 1) F5 (by decide) mz_list (K_law_divisor.mono (by decide))) (PySem.W.mg_of X G a5) k5 (F5.bindsN fun _ _ _ _ _ _ us hl => match us, hl with | [_], _ => rfl)
  have K_law_lowest_right : KnowsX PySem.Challenge.pw_leastcomplaint_k11_ratios w K mg base 3 "_law_lowest_right" 1 [] m_law_lowest_right := knows0 (ok_law_lowest_right (k := 2) F6 (by decide) mz_int mz_list mz_range mz_tuple (K_law_low.mono (by decide)) (K_law_take.mono (by decide)) (K_lowest.mono (by decide))) (PySem.W.mg_of X G a6) k6 (F6.bindsN fun _ _ _ _ _ _ us hl => match us, hl with | [_], _ => rfl)
  have K_ratio : KnowsX PySem.Challenge.pw_leastcomplaint_k11_ratios w K mg base 2 "ratio" 2 [] m_ratio := knowsD (ok_ratio (k := 1) F7 (by decide) (K_divisor.mono (by decide)) x_BadRatio) (PySem.W.mg_of X G a7) k7 (F7.binds1 2 1 (by simp) rfl fun _ _ _ _ _ _ _ us its hl hi => match us, its, hl, hi with | [_, _], [_], _, _ => ⟨_, rfl, rfl⟩) (fun _ => .nil)
  have K_ratio_d1 : KnowsX PySem.Challenge.pw_leastcomplaint_k11_ratios w K mg base 2 "ratio" 2 [.int 1] m_ratio := knowsD (ok_ratio (k := 1) F7 (by decide) (K_divisor.mono (by decide)) x_BadRatio) (PySem.W.mg_of X G a7) k7 (F7.binds1 1 0 (by simp) rfl fun _ _ _ _ _ _ _ us its hl hi => match us, its, hl, hi with | [_], [_], _, _ => ⟨_, rfl, rfl⟩) (fun _ => (.cons (.int _) .nil))
  have KK_ratio_kw_bottom_top : KnowsK PySem.Challenge.pw_leastcomplaint_k11_ratios w K mg base 2 "ratio" ["bottom", "top"] gD_ratio_kw_bottom_top m_ratio := knowsK (ok_ratio (k := 1) F7 (by decide) (K_divisor.mono (by decide)) x_BadRatio) (PySem.W.mg_of X G a7) k7 (kb_all (ks := ["bottom", "top"]) F7 (fun {α} (ds : List α) => match ds with | [z0, z1] => [z1, z0] | _ => []) (by simp) (fun r => match r with | .cons r0 (.cons r1 (.nil)) => (.cons r1 (.cons r0 .nil)) | .nil => .nil | .cons _ .nil => .nil | .cons _ (.cons _ (.cons _ _)) => .nil) (fun _ _ _ _ _ _ _ us its ws h0 h1 h2 => match us, its, ws, h0, h1, h2 with | [], [_], [_, _], _, _, _ => ⟨_, rfl, rfl⟩)) (fun F zs ds q hl => by
    match zs, ds, q, hl with
    | _, _, .cons r0 (.cons r1 (.nil)), _ => exact (.cons r1 (.cons r0 .nil)))
  have K_law_integer : KnowsX PySem.Challenge.pw_leastcomplaint_k11_ratios w K mg base 2 "_law_integer" 1 [] m_law_integer := knows0 (ok_law_integer (k := 1) F8 (by decide) (K_law_take.mono (by decide))) (PySem.W.mg_of X G a8) k8 (F8.bindsN fun _ _ _ _ _ _ us hl => match us, hl with | [_], _ => rfl)
  have K_compare : KnowsX PySem.Challenge.pw_leastcomplaint_k11_ratios w K mg base 1 "compare" 2 [] m_compare := knows0 (ok_compare (k := 0) F9 (by decide) mz_int) (PySem.W.mg_of X G a9) k9 (F9.bindsN fun _ _ _ _ _ _ us hl => match us, hl with | [_, _], _ => rfl)
  have K_law_ratio : KnowsX PySem.Challenge.pw_leastcomplaint_k11_ratios w K mg base 2 "_law_ratio" 2 [] m_law_ratio := knows0 (ok_law_ratio (k := 1) F10 (by decide) (K_law_divisor.mono (by decide))) (PySem.W.mg_of X G a10) k10 (F10.bindsN fun _ _ _ _ _ _ us hl => match us, hl with | [_, _], _ => rfl)
  have K_law_is_number : KnowsX PySem.Challenge.pw_leastcomplaint_k11_ratios w K mg base 1 "_law_is_number" 1 [] m_law_is_number := knows0 (ok_law_is_number (k := 0) F11 (by decide) mz_bool mz_int mz_isinstance) (PySem.W.mg_of X G a11) k11 (F11.bindsN fun _ _ _ _ _ _ us hl => match us, hl with | [_], _ => rfl)
  have KP_law_is_number : KnowsP PySem.Challenge.pw_leastcomplaint_k11_ratios w K mg base 1 "_law_is_number" 1 fun ds m R => m_law_is_number ds m R NoX := okP_law_is_number (k := 0) Fh11 (PySem.W.mg_of X G a11) (F11.bindsN fun _ _ _ _ _ _ us hl => match us, hl with | [_], _ => rfl) (by decide) mz_bool mz_int mz_isinstance
  have K_law_in_terms : KnowsX PySem.Challenge.pw_leastcomplaint_k11_ratios w K mg base 3 "_law_in_terms" 3 [] m_law_in_terms := knows0 (ok_law_in_terms (k := 2) F12 (by decide) mz_isinstance mz_len mz_tuple (K_law_is_number.mono (by decide)) (K_law_ratio.mono (by decide))) (PySem.W.mg_of X G a12) k12 (F12.bindsN fun _ _ _ _ _ _ us hl => match us, hl with | [_, _, _], _ => rfl)
  have K_plus : KnowsX PySem.Challenge.pw_leastcomplaint_k11_ratios w K mg base 3 "plus" 2 [] m_plus := knows0 (ok_plus (k := 2) F13 (by decide) (K_ratio.mono (by decide))) (PySem.W.mg_of X G a13) k13 (F13.bindsN fun _ _ _ _ _ _ us hl => match us, hl with | [_, _], _ => rfl)
  have K_minus : KnowsX PySem.Challenge.pw_leastcomplaint_k11_ratios w K mg base 3 "minus" 2 [] m_minus := knows0 (ok_minus (k := 2) F14 (by decide) (K_ratio.mono (by decide))) (PySem.W.mg_of X G a14) k14 (F14.bindsN fun _ _ _ _ _ _ us hl => match us, hl with | [_, _], _ => rfl)
  have K_times : KnowsX PySem.Challenge.pw_leastcomplaint_k11_ratios w K mg base 3 "times" 2 [] m_times := knows0 (ok_times (k := 2) F15 (by decide) (K_ratio.mono (by decide))) (PySem.W.mg_of X G a15) k15 (F15.bindsN fun _ _ _ _ _ _ us hl => match us, hl with | [_, _], _ => rfl)
  have K_law_two_right : KnowsX PySem.Challenge.pw_leastcomplaint_k11_ratios w K mg base 4 "_law_two_right" 2 [] m_law_two_right := knows0 (ok_law_two_right (k := 3) F16 (by decide) mz_int (K_law_in_terms.mono (by decide)) (K_law_is_number.mono (by decide)) (K_compare.mono (by decide)) (K_minus.mono (by decide)) (K_plus.mono (by decide)) (K_times.mono (by decide))) (PySem.W.mg_of X G a16) k16 (F16.bindsN fun _ _ _ _ _ _ us hl => match us, hl with | [_, _], _ => rfl)
  have K_law_near_right : KnowsX PySem.Challenge.pw_leastcomplaint_k11_ratios w K mg base 5 "_law_near_right" 1 [] m_law_near_right := knows0 (ok_law_near_right (k := 4) F17 (by decide) mz_abs (K_law_two_right.mono (by decide)) (K_compare.mono (by decide)) (K_ratio.mono (by decide))) (PySem.W.mg_of X G a17) k17 (F17.bindsN fun _ _ _ _ _ _ us hl => match us, hl with | [_], _ => rfl)
  have K_together : KnowsX PySem.Challenge.pw_leastcomplaint_k11_ratios w K mg base 2 "together" 1 [] m_together := knows0 (ok_together (k := 1) F18 (by decide) (K_divisor.mono (by decide))) (PySem.W.mg_of X G a18) k18 (F18.bindsN fun _ _ _ _ _ _ us hl => match us, hl with | [_], _ => rfl)
  have K_law_together_right : KnowsX PySem.Challenge.pw_leastcomplaint_k11_ratios w K mg base 3 "_law_together_right" 1 [] m_law_together_right := knows0 (ok_law_together_right (k := 2) F19 (by decide) mz_isinstance mz_len mz_list mz_tuple (K_law_divisor.mono (by decide)) (K_together.mono (by decide))) (PySem.W.mg_of X G a19) k19 (F19.bindsN fun _ _ _ _ _ _ us hl => match us, hl with | [_], _ => rfl)
  have K_law_refused : KnowsX PySem.Challenge.pw_leastcomplaint_k11_ratios w K mg base 3 "_law_refused" 1 [] m_law_refused := knows0 (ok_law_refused (k := 2) F20 (by decide) (K_ratio.mono (by decide)) (KP_law_is_number.mono (by decide)) c_BadRatio xm_BadRatio xf_BadRatio_bottom) (PySem.W.mg_of X G a20) k20 (F20.bindsN fun _ _ _ _ _ _ us hl => match us, hl with | [_], _ => rfl)
  exact ok_law (k := 5) F21 (by decide) mz_range (K_law_in_terms.mono (by decide)) (K_law_integer.mono (by decide)) (K_law_lowest_right.mono (by decide)) (K_law_near_right.mono (by decide)) (K_law_pool.mono (by decide)) (K_law_refused.mono (by decide)) (K_law_take.mono (by decide)) (K_law_together_right.mono (by decide)) (K_law_two_right.mono (by decide)) (K_ratio.mono (by decide)) (K_ratio_d1.mono (by decide)) (KK_ratio_kw_bottom_top.mono (by decide))
end K11
open PySem PySem.W PyProof.Rows
set_option maxHeartbeats 0 in
theorem PySem.Challenge.cw_leastcomplaint_k11_ratios_holds : PySem.Challenge.rw_leastcomplaint_k11_ratios.Holds := by
  w_on; o_law; k_head; (case hw => w_witness2)
  k_fill
  refine L2.walk_of (l := PySem.Challenge.rw_leastcomplaint_k11_ratios) (n := 63) (k := 6) (x := "_law_script") (CX := fun _ => L2.CX0) (sp := fun w => DL.lift _ fun ds m R => K11.m_law ds m R DL.NoX) rfl (by decide) rfl ⟨rfl, by decide, by decide⟩ (fun w h Y => PySem.W.kIn_of Y) ?F (fun _ H a ns hl _ hS => DL.law_start hS fun R hR => K11.main_law ns hl R hR) (fun _ _ _ _ _ h => h)
  case F =>
    intro w mg fa h KX G hmg
    refine' K11.all_mk KX G hmg ?a0 ?l0 ?c0 ?k0 ?a1 ?l1 ?c1 ?k1 ?a2 ?l2 ?c2 ?k2 ?a3 ?l3 ?c3 ?k3 ?a4 ?l4 ?c4 ?k4 ?a5 ?l5 ?c5 ?k5 ?a6 ?l6 ?c6 ?k6 ?a7 ?l7 ?c7 ?k7 ?lT7 ?oTd7 ?rT7_0 ?a8 ?l8 ?c8 ?k8 ?a9 ?l9 ?c9 ?k9 ?a10 ?l10 ?c10 ?k10 ?a11 ?l11 ?c11 ?k11 ?a12 ?l12 ?c12 ?k12 ?a13 ?l13 ?c13 ?k13 ?a14 ?l14 ?c14 ?k14 ?a15 ?l15 ?c15 ?k15 ?a16 ?l16 ?c16 ?k16 ?a17 ?l17 ?c17 ?k17 ?a18 ?l18 ?c18 ?k18 ?a19 ?l19 ?c19 ?k19 ?a20 ?l20 ?c20 ?k20 ?a21 ?l21 ?c21 ?k21 ?z0 ?z1 ?z2 ?z3 ?z4 ?z5 ?z6 ?z7 ?z8 ?ax_BadRatio ?ax_DivisionError ?zsup ?zq ?lx_BadRatio ?rx_BadRatio ?sx_BadRatio ?bx_BadRatio ?tx_BadRatio ?kx_BadRatio ?ix_BadRatio ?ux_BadRatio ?fx_BadRatio ?cx_BadRatio ?dx_BadRatio ?d2_BadRatio ?d3_BadRatio ?ex_BadRatio ?px_BadRatio ?mx_BadRatio ?vx_BadRatio ?ox_BadRatio ?nx_BadRatio ?em_BadRatio_BadRatio ?em_BadRatio_DivisionError ?ga_BadRatio ?gg_BadRatio ?gb_BadRatio ?gd_BadRatio ?gf_BadRatio_bottom
    (case a0 => k_is)
    (case l0 => k_is)
    (case c0 => k_is)
    (case k0 => k_is)
    (case a1 => k_is)
    (case l1 => k_is)
    (case c1 => k_is)
    (case k1 => k_is)
    (case a2 => k_is)
    (case l2 => k_is)
    (case c2 => k_is)
    (case k2 => k_is)
    (case a3 => k_is)
    (case l3 => k_is)
    (case c3 => k_is)
    (case k3 => k_is)
    (case a4 => k_is)
    (case l4 => k_is)
    (case c4 => k_is)
    (case k4 => k_is)
    (case a5 => k_is)
    (case l5 => k_is)
    (case c5 => k_is)
    (case k5 => k_is)
    (case a6 => k_is)
    (case l6 => k_is)
    (case c6 => k_is)
    (case k6 => k_is)
    (case a7 => k_is)
    (case l7 => k_is)
    (case c7 => k_is)
    (case k7 => k_is)
    (case lT7 => k_is)
    (case oTd7 => exact rfl)
    (case rT7_0 => exact ⟨_, rfl⟩)
    (case a8 => k_is)
    (case l8 => k_is)
    (case c8 => k_is)
    (case k8 => k_is)
    (case a9 => k_is)
    (case l9 => k_is)
    (case c9 => k_is)
    (case k9 => k_is)
    (case a10 => k_is)
    (case l10 => k_is)
    (case c10 => k_is)
    (case k10 => k_is)
    (case a11 => k_is)
    (case l11 => k_is)
    (case c11 => k_is)
    (case k11 => k_is)
    (case a12 => k_is)
    (case l12 => k_is)
    (case c12 => k_is)
    (case k12 => k_is)
    (case a13 => k_is)
    (case l13 => k_is)
    (case c13 => k_is)
    (case k13 => k_is)
    (case a14 => k_is)
    (case l14 => k_is)
    (case c14 => k_is)
    (case k14 => k_is)
    (case a15 => k_is)
    (case l15 => k_is)
    (case c15 => k_is)
    (case k15 => k_is)
    (case a16 => k_is)
    (case l16 => k_is)
    (case c16 => k_is)
    (case k16 => k_is)
    (case a17 => k_is)
    (case l17 => k_is)
    (case c17 => k_is)
    (case k17 => k_is)
    (case a18 => k_is)
    (case l18 => k_is)
    (case c18 => k_is)
    (case k18 => k_is)
    (case a19 => k_is)
    (case l19 => k_is)
    (case c19 => k_is)
    (case k19 => k_is)
    (case a20 => k_is)
    (case l20 => k_is)
    (case c20 => k_is)
    (case k20 => k_is)
    (case a21 => k_is)
    (case l21 => k_is)
    (case c21 => k_is)
    (case k21 => k_is)
    (case z0 => k_is)
    (case z1 => k_is)
    (case z2 => k_is)
    (case z3 => k_is)
    (case z4 => k_is)
    (case z5 => k_is)
    (case z6 => k_is)
    (case z7 => k_is)
    (case z8 => k_is)
    (case ax_BadRatio => k_is)
    (case ax_DivisionError => k_is)
    (case zsup => k_is)
    (case zq => k_is)
    (case lx_BadRatio => k_is)
    (case rx_BadRatio => first | exact rfl | decide +kernel)
    (case sx_BadRatio => k_is)
    (case bx_BadRatio => k_is)
    (case tx_BadRatio => k_is)
    (case kx_BadRatio => k_is)
    (case ix_BadRatio => k_is)
    (case ux_BadRatio => k_is)
    (case fx_BadRatio => k_is)
    (case cx_BadRatio => k_is)
    (case dx_BadRatio => k_is)
    (case d2_BadRatio => exact rfl)
    (case d3_BadRatio => first | exact rfl | decide +kernel)
    (case ex_BadRatio => k_is)
    (case px_BadRatio => first | k_is | kernel_rfl | exact rfl)
    (case mx_BadRatio => first | k_is | kernel_rfl | exact rfl)
    (case vx_BadRatio => k_is)
    (case ox_BadRatio => first | k_is | kernel_rfl | exact rfl)
    (case nx_BadRatio => k_is)
    (case em_BadRatio_BadRatio => first | k_is | kernel_rfl | exact rfl)
    (case em_BadRatio_DivisionError => first | k_is | kernel_rfl | exact rfl)
    (case ga_BadRatio => first | k_is | kernel_rfl | exact rfl)
    (case gg_BadRatio => first | k_is | kernel_rfl | exact rfl)
    (case gb_BadRatio => first | k_is | kernel_rfl | exact rfl)
    (case gd_BadRatio => first | k_is | kernel_rfl | exact rfl)
    (case gf_BadRatio_bottom => k_is)

