import PyProof.Rows.All
import HandS.ForMost
import KE.KDictKeyed
import KE.KDictWalk
import KE.KDictPairs
import HandS.Deep
import HandS.TupAny
import HandS.SortInts
import HandS.Flow
import HandS.Style
import PyProof.ReprRoads
import HandS.Conv
import HandS.Zip
import HandS.Strs
import KE.GoesEnum
import KE.GoesMore
import HandS.Star
import HandS.TupLen
import KE.SortData
import KE.KTupSum
import HandS.NoneIn
import HandS.DictComp
import HandS.IsInst
import HandS.Iter
import PyProof.Rows.Walk
import PySem.Challenge.RW_leastlattices_k36_whole_stretches_of_arc
set_option Elab.async false
set_option linter.all false
set_option maxRecDepth 100000
namespace Pv
open PySem PySem.Spec PyProof.Rows L2
abbrev Frag := PySem.W.Frag
/-! what is seen, data, their standing in a heap -/
open Classical in
noncomputable def hid (H : Hp) (O : Addr → Prop) : Hp := fun a => if O a then none else H a
theorem hid_some {H : Hp} {O : Addr → Prop} {a : Addr} {o : HO} : hid H O a = some o ↔ ¬ O a ∧ H a = some o := by
  unfold hid
  by_cases h : O a
  · rw [if_pos h]; exact ⟨fun e => (by cases e), fun e => absurd h e.1⟩
  · rw [if_neg h]; exact ⟨fun e => ⟨h, e⟩, fun e => e.2⟩
theorem hid_sub {H : Hp} {O : Addr → Prop} : Same (hid H O) H := fun _ _ e => (hid_some.mp e).2
def keyD : Key → PyData
  | .inl i => .int i
  | .inr s => .str s
/-- a tuple, as a known object without a dict of its own, or the module's -/
def Tp (K : Frag) (H : Hp) (a : Addr) (xs : List V) : Prop := (∃ o : Obj, o.dict = none ∧ H a = some (.frz o (.tup xs))) ∨
  (∃ (o : Obj) (its : Array Value) (n : Nat), o.dict = none ∧ K.lookup a = some o ∧ o.cls = .type "tuple" ∧ o.data = .seq its n ∧ its.size ≤ sizeLine ∧ Vals xs its.toList)
theorem Tp.sq {K : Frag} {H : Hp} {a : Addr} {xs : List V} (h : Tp K H a xs) : SqT K H a xs := by
  rcases h with ⟨o, _, h⟩ | ⟨o, its, n, _, h⟩
  · exact .inl (.inr ⟨o, h⟩)
  · exact .inr ⟨o, its, n, h⟩
theorem Tp.up {K : Frag} {H H' : Hp} {a : Addr} {xs : List V} (h : Tp K H a xs) (e : Same H H') : Tp K H' a xs := by
  rcases h with ⟨o, d, h⟩ | h
  · exact .inl ⟨o, d, e _ _ h⟩
  · exact .inr h
/-- a list: tracked, known, or the module's -/
def Lp (K : Frag) (H : Hp) (a : Addr) (xs : List V) : Prop := Rd H a (.lst xs) ∨
  (∃ (its : List Value) (n : Nat), K.lookup a = some { cls := .type "list", data := .seq its.toArray n } ∧ xs.length ≤ sizeLine ∧ Vals xs its)
theorem Lp.sq {K : Frag} {H : Hp} {a : Addr} {xs : List V} (h : Lp K H a xs) : SqL K H a xs := by
  rcases h with h | ⟨its, n, h, z, r⟩
  · exact .inl h
  · exact .inr ⟨_, its.toArray, n, h, rfl, rfl, rfl, by rw [List.size_toArray, ← r.length]; exact z, by simpa using r⟩
/-! keys of dicts: ints and tuples of such, without texts -/
mutual
def hashP : NestedKey → Int
  | .none => reduceHash 0xFCA86420
  | .num i => hashInt i
  | .text _ => 0
  | .tup ks => reduceHash (Builtin.Tuple.tupleHashOf (hashesP ks))
def hashesP : List NestedKey → List Int
  | [] => []
  | k :: ks => hashP k :: hashesP ks
end
mutual
def keyN : PyData → Option NestedKey
  | .int i => some (.num i)
  | .tuple ds => (keysN ds).map .tup
  | _ => none
def keysN : List PyData → Option (List NestedKey)
  | [] => some []
  | d :: ds => (keyN d).bind fun k => (keysN ds).map (k :: ·)
end
/-- a dict whose keys are such tuples: each with the place where it stands, and what is under it -/
def DNok (a : Addr) (o : Obj) (xs : List (NestedKey × Addr × V)) (h : Heap) : Prop := h.get? a = some o ∧ (a == sysModules) = false ∧ xs.length ≤ sizeLine ∧
  ∃ (us : List (NestedKey × Addr × Value)) (es : Array DictEntry) (ep : Nat), Paired (fun (p : NestedKey × Addr × V) (q : NestedKey × Addr × Value) => p.1 = q.1 ∧ p.2.1 = q.2.1 ∧ RelV p.2.2 q.2.2) xs us ∧
  o.ExactDict ∧ o.data = .dict es ep ∧ es.toList = us.map (fun x => (⟨hashP x.1, .ref x.2.1, x.2.2⟩ : DictEntry)) ∧ (us.map (·.1)).Nodup
def DN (a : Addr) (o : Obj) (xs : List (NestedKey × Addr × V)) : HO := .ext (DNok a o xs)
mutual
inductive RD (K : Frag) (H : Hp) : V → PyData → Prop
  | non : RD K H .non .none
  | bl (b : Bool) : RD K H (.bl b) (.bool b)
  | int (i : Int) : RD K H (.int i) (.int i)
  | str (x : Str) : RD K H (.str x) (.str x)
  | lst {a : Addr} {xs : List V} {ds : List PyData} : Lp K H a xs → RDs K H xs ds → RD K H (.ref a) (.list ds)
  | tup {a : Addr} {xs : List V} {ds : List PyData} : Tp K H a xs → RDs K H xs ds → RD K H (.ref a) (.tuple ds)
  | dctK {a : Addr} {kvs : List (Key × V)} {ds : List (PyData × PyData)} : Rd H a (.dK kvs) → RDk K H kvs ds → RD K H (.ref a) (.dict ds)
  | dctN {a : Addr} {o : Obj} {xs : List (NestedKey × Addr × V)} {ds : List (PyData × PyData)} : H a = some (DN a o xs) → ds ≠ [] → RDn K H xs ds → RD K H (.ref a) (.dict ds)
inductive RDs (K : Frag) (H : Hp) : List V → List PyData → Prop
  | nil : RDs K H [] []
  | cons {v : V} {vs : List V} {d : PyData} {ds : List PyData} : RD K H v d → RDs K H vs ds → RDs K H (v :: vs) (d :: ds)
inductive RDk (K : Frag) (H : Hp) : List (Key × V) → List (PyData × PyData) → Prop
  | nil : RDk K H [] []
  | cons {k : Key} {v : V} {vs : List (Key × V)} {d : PyData} {ds : List (PyData × PyData)} : RD K H v d → RDk K H vs ds → RDk K H ((k, v) :: vs) ((keyD k, d) :: ds)
inductive RDn (K : Frag) (H : Hp) : List (NestedKey × Addr × V) → List (PyData × PyData) → Prop
  | nil : RDn K H [] []
  | cons {k : NestedKey} {b : Addr} {v : V} {xs : List (NestedKey × Addr × V)} {dk d : PyData} {ds : List (PyData × PyData)} : RD K H (.ref b) dk → keyN dk = some k → k.depth ≤ 8 → RD K H v d → RDn K H xs ds → RDn K H ((k, b, v) :: xs) ((dk, d) :: ds)
end
theorem sameSqT {K : Frag} {H H' : Hp} {a : Addr} {xs : List V} (e : Same H H') (h : SqT K H a xs) : SqT K H' a xs := by
  rcases h with (h | ⟨o, h⟩) | h
  · exact .inl (.inl (e _ _ h))
  · exact .inl (.inr ⟨o, e _ _ h⟩)
  · exact .inr h
theorem sameRd {H H' : Hp} {a : Addr} {u : HO} (e : Same H H') (h : Rd H a u) : Rd H' a u := by
  rcases h with h | ⟨o, h⟩
  · exact .inl (e _ _ h)
  · exact .inr ⟨o, e _ _ h⟩
theorem Lp.up {K : Frag} {H H' : Hp} {a : Addr} {xs : List V} (h : Lp K H a xs) (e : Same H H') : Lp K H' a xs := h.imp (sameRd e) id
theorem Lp.obj {X : Cx} {pins : List (Addr × Obj)} {σ : L2.St} {H : Hp} {s : Shared} {a : Addr} {xs : List V} (I : Inv X pins σ H s) (h : Lp X.K H a xs) : xs.length ≤ sizeLine ∧ ∃ (its : List Value) (n : Nat), Vals xs its ∧ s.heap.get? a = some { cls := .type "list", data := .seq its.toArray n } := by
  rcases h with h | ⟨its, n, h, z, r⟩
  · obtain ⟨z, its, n, r, g⟩ := h.ok I.hok
    exact ⟨z, its, n, r, g⟩
  · exact ⟨z, its, n, r, I.kIn a _ h⟩
mutual
theorem RD.mono {K : Frag} {H H' : Hp} (e : Same H H') : ∀ (d : PyData) (v : V), RD K H v d → RD K H' v d
  | .none, _, h => by cases h; exact .non
  | .bool b, _, h => by cases h; exact .bl b
  | .int i, _, h => by cases h; exact .int i
  | .str x, _, h => by cases h; exact .str x
  | .list ds, _, h => by
    cases h with
    | lst hs ha => exact .lst (hs.up e) (RDs.mono e ds _ ha)
  | .tuple ds, _, h => by
    cases h with
    | tup hs ha => exact .tup (hs.up e) (RDs.mono e ds _ ha)
  | .dict ds, _, h => by
    cases h with
    | dctK hs ha => exact .dctK (sameRd e hs) (RDk.mono e ds _ ha)
    | dctN hs hn ha => exact .dctN (e _ _ hs) hn (RDn.mono e ds _ ha)
theorem RDs.mono {K : Frag} {H H' : Hp} (e : Same H H') : ∀ (ds : List PyData) (vs : List V), RDs K H vs ds → RDs K H' vs ds
  | [], _, h => by cases h; exact .nil
  | d :: ds, _, h => by
    cases h with
    | cons h1 h2 => exact .cons (RD.mono e d _ h1) (RDs.mono e ds _ h2)
theorem RDk.mono {K : Frag} {H H' : Hp} (e : Same H H') : ∀ (ds : List (PyData × PyData)) (vs : List (Key × V)), RDk K H vs ds → RDk K H' vs ds
  | [], _, h => by cases h; exact .nil
  | (_, d) :: ds, _, h => by
    cases h with
    | cons h1 h2 => exact .cons (RD.mono e d _ h1) (RDk.mono e ds _ h2)
theorem RDn.mono {K : Frag} {H H' : Hp} (e : Same H H') : ∀ (ds : List (PyData × PyData)) (vs : List (NestedKey × Addr × V)), RDn K H vs ds → RDn K H' vs ds
  | [], _, h => by cases h; exact .nil
  | (dk, d) :: ds, _, h => by
    cases h with
    | cons h1 h2 h3 h4 h5 => exact .cons (RD.mono e dk _ h1) h2 h3 (RD.mono e d _ h4) (RDn.mono e ds _ h5)
end
theorem RD.up {K : Frag} {H H' : Hp} {v : V} {d : PyData} (h : RD K H v d) (e : Same H H') : RD K H' v d := RD.mono e d v h
theorem RDs.up {K : Frag} {H H' : Hp} {v : List V} {d : List PyData} (h : RDs K H v d) (e : Same H H') : RDs K H' v d := RDs.mono e d v h
theorem RDk.up {K : Frag} {H H' : Hp} {v : List (Key × V)} {d : List (PyData × PyData)} (h : RDk K H v d) (e : Same H H') : RDk K H' v d := RDk.mono e d v h
theorem RDn.up {K : Frag} {H H' : Hp} {v : List (NestedKey × Addr × V)} {d : List (PyData × PyData)} (h : RDn K H v d) (e : Same H H') : RDn K H' v d := RDn.mono e d v h
theorem RDs.len {K : Frag} {H : Hp} : ∀ {vs : List V} {ds : List PyData}, RDs K H vs ds → vs.length = ds.length
  | _, _, .nil => rfl
  | _, _, .cons _ t => by rw [List.length_cons, List.length_cons, RDs.len t]
theorem RDs.get {K : Frag} {H : Hp} : ∀ {vs : List V} {ds : List PyData} {i : Nat} {d : PyData}, RDs K H vs ds → ds[i]? = some d → ∃ v, vs[i]? = some v ∧ RD K H v d
  | _, _, _, _, .nil, e => by simp at e
  | _, _, 0, _, .cons h _, e => by simp at e; subst e; exact ⟨_, rfl, h⟩
  | _, _, i + 1, _, .cons _ t, e => by
    obtain ⟨v, h1, h2⟩ := RDs.get (i := i) t (by simpa using e)
    exact ⟨v, by simpa using h1, h2⟩
theorem RDs.app {K : Frag} {H : Hp} : ∀ {vs ws : List V} {ds es : List PyData}, RDs K H vs ds → RDs K H ws es → RDs K H (vs ++ ws) (ds ++ es)
  | _, _, _, _, .nil, s => s
  | _, _, _, _, .cons r t, s => .cons r (RDs.app t s)
theorem RDs.one {K : Frag} {H : Hp} {v : V} {d : PyData} (h : RD K H v d) : RDs K H [v] [d] := .cons h .nil
theorem RDs.take {K : Frag} {H : Hp} : ∀ {vs : List V} {ds : List PyData} (n : Nat), RDs K H vs ds → RDs K H (vs.take n) (ds.take n)
  | _, _, 0, _ => .nil
  | _, _, _ + 1, .nil => .nil
  | _, _, n + 1, .cons r t => .cons r (RDs.take n t)
theorem RDs.drop {K : Frag} {H : Hp} : ∀ {vs : List V} {ds : List PyData} (n : Nat), RDs K H vs ds → RDs K H (vs.drop n) (ds.drop n)
  | _, _, 0, r => r
  | _, _, _ + 1, .nil => .nil
  | _, _, n + 1, .cons _ t => RDs.drop n t
theorem RDs.set {K : Frag} {H : Hp} {v : V} {d : PyData} (h : RD K H v d) : ∀ {vs : List V} {ds : List PyData} (i : Nat), RDs K H vs ds → RDs K H (vs.set i v) (ds.set i d)
  | _, _, _, .nil => .nil
  | _, _, 0, .cons _ t => .cons h t
  | _, _, i + 1, .cons r t => .cons r (RDs.set h i t)
theorem RDs.erase {K : Frag} {H : Hp} : ∀ {vs : List V} {ds : List PyData} (i : Nat), RDs K H vs ds → RDs K H (vs.eraseIdx i) (ds.eraseIdx i)
  | _, _, _, .nil => .nil
  | _, _, 0, .cons _ t => t
  | _, _, i + 1, .cons r t => .cons r (RDs.erase i t)
theorem RDs.rev {K : Frag} {H : Hp} : ∀ {vs : List V} {ds : List PyData}, RDs K H vs ds → RDs K H vs.reverse ds.reverse
  | _, _, .nil => .nil
  | _, _, .cons r t => by
    rw [List.reverse_cons, List.reverse_cons]
    exact RDs.app (RDs.rev t) (.one r)
theorem RDs.ints {K : Frag} {H : Hp} : ∀ (ns : List Int), RDs K H (ns.map V.int) (ns.map PyData.int)
  | [] => .nil
  | n :: ns => .cons (.int n) (RDs.ints ns)
/-! states: what a name holds -/
structure Src where
  cells : List Int
  left : Int
  mixed : Int
  turn : Int
inductive M where
  | sh (d : PyData)
  | ol (lent : Bool) (ds : List PyData)
  | od (lent : Bool) (kvs : List (PyData × PyData))
  | src (s : Src)
abbrev Sx := List (Option M)
def srcD (c : Addr) (s : Src) : List (Key × V) := [(.inr "cells", .ref c), (.inr "left", .int s.left), (.inr "mixed", .int s.mixed), (.inr "turn", .int s.turn)]
def RM (K : Frag) (Hs H : Hp) (v : V) : M → List Addr → Prop
  | .sh d, L => RD K Hs v d ∧ L = []
  | .ol _ ds, L => ∃ p vs, v = .ref p ∧ H p = some (.lst vs) ∧ RDs K Hs vs ds ∧ L = [p]
  | .od _ kvs, L => ∃ p, v = .ref p ∧ L = [p] ∧ ((∃ ks, H p = some (.dK ks) ∧ RDk K Hs ks kvs) ∨ (∃ o xs, H p = some (DN p o xs) ∧ kvs ≠ [] ∧ RDn K Hs xs kvs))
  | .src s, L => ∃ p c, v = .ref p ∧ L = [p, c] ∧ H p = some (.dK (srcD c s)) ∧ H c = some (.lst (s.cells.map V.int))
/-- the heap may change, but where L stands -/
theorem RM.up {K : Frag} {Hs Hs' H H' : Hp} {v : V} {m : M} {L : List Addr} (h : RM K Hs H v m L) (e : Same Hs Hs') (k : ∀ b o, b ∈ L → H b = some o → H' b = some o) : RM K Hs' H' v m L := by
  cases m with
  | sh d => exact ⟨h.1.up e, h.2⟩
  | ol b ds =>
    obtain ⟨p, vs, e1, e2, e3, e4⟩ := h
    exact ⟨p, vs, e1, k p _ (by rw [e4]; simp) e2, e3.up e, e4⟩
  | od b kvs =>
    obtain ⟨p, e1, e4, e2⟩ := h
    refine ⟨p, e1, e4, ?_⟩
    rcases e2 with ⟨ks, e2, e3⟩ | ⟨o, ks, e2, hn, e3⟩
    · exact .inl ⟨ks, k p _ (by rw [e4]; simp) e2, e3.up e⟩
    · exact .inr ⟨o, ks, k p _ (by rw [e4]; simp) e2, hn, e3.up e⟩
  | src s =>
    obtain ⟨p, c, e1, e4, e2, e3⟩ := h
    exact ⟨p, c, e1, e4, k p _ (by rw [e4]; simp) e2, k c _ (by rw [e4]; simp) e3⟩
theorem RM.there {K : Frag} {Hs H : Hp} {v : V} {m : M} {L : List Addr} (h : RM K Hs H v m L) {b : Addr} (hb : b ∈ L) : H b ≠ none := by
  cases m with
  | sh d => obtain ⟨_, e⟩ := h; subst e; cases hb
  | ol _ ds =>
    obtain ⟨p, vs, e1, e2, e3, e4⟩ := h
    subst e4; rw [List.mem_singleton] at hb; subst hb; rw [e2]; exact Option.some_ne_none _
  | od _ kvs =>
    obtain ⟨p, e1, e4, e2⟩ := h
    subst e4; rw [List.mem_singleton] at hb; subst hb
    rcases e2 with ⟨ks, e2, e3⟩ | ⟨o, ks, e2, e3⟩ <;> (rw [e2]; exact Option.some_ne_none _)
  | src s =>
    obtain ⟨p, c, e1, e4, e2, e3⟩ := h
    subst e4
    rcases List.mem_cons.mp hb with rfl | hb
    · rw [e2]; exact Option.some_ne_none _
    · rw [List.mem_singleton] at hb; subst hb; rw [e3]; exact Option.some_ne_none _
def Own (L : Nat → List Addr) (T : List Addr) (b : Addr) : Prop := (∃ i, b ∈ L i) ∨ b ∈ T
/-- what is hidden, and the names whose thing is lent: they keep it -/
structure Zt where
  h : Addr → Prop
  pin : Nat → Option V
def Hid (Z : Zt) (L : Nat → List Addr) (T : List Addr) (b : Addr) : Prop := Z.h b ∨ Own L T b
def upL (L : Nat → List Addr) (i : Nat) (T : List Addr) : Nat → List Addr := fun j => if j = i then T else L j
theorem upL_eq {L : Nat → List Addr} {i j : Nat} {T : List Addr} (e : j = i) : upL L i T j = T := if_pos e
theorem upL_ne {L : Nat → List Addr} {i j : Nat} {T : List Addr} (e : ¬ j = i) : upL L i T j = L j := if_neg e
def M.free : M → Bool
  | .sh _ => true
  | .ol b _ => !b
  | .od b _ => !b
  | .src _ => false
/-- a name may be stored anew -/
def open1 (st : Sx) (i : Nat) : Bool := match st[i]? with
  | some none => true
  | some (some m) => m.free
  | none => false
structure Rel (K : Frag) (Z : Zt) (L : Nat → List Addr) (T : List Addr) (σ : L2.St) (H : Hp) (st : Sx) : Prop where
  len : σ.length = st.length
  slot : ∀ (i : Nat) (m : M), st[i]? = some (some m) → ∃ v, σ[i]? = some (some v) ∧ RM K (hid H (Hid Z L T)) H v m (L i)
  emp : ∀ (i : Nat), (∀ m, st[i]? ≠ some (some m)) → L i = []
  dis : ∀ (i j : Nat) (b : Addr), b ∈ L i → b ∈ L j → i = j
  dt : ∀ (i : Nat) (b : Addr), b ∈ L i → b ∉ T
  dz : ∀ b, Own L T b → ¬ Z.h b
  zin : ∀ b, Z.h b → H b ≠ none
  tin : ∀ b ∈ T, H b ≠ none
  pn : ∀ (i : Nat) (v : V), Z.pin i = some v → σ[i]? = some (some v) ∧ ∃ m, st[i]? = some (some m) ∧ m.free = false
structure Step (W : Addr → Prop) (H : Hp) (W' : Addr → Prop) (H' : Hp) : Prop where
  keep : ∀ b o, H b = some o → ¬ W b → H' b = some o
  young : ∀ b, W' b → W b ∨ H b = none
theorem Step.refl (W : Addr → Prop) (H : Hp) : Step W H W H := ⟨fun _ _ e _ => e, fun _ h => .inl h⟩
theorem Step.trans {W W1 W2 : Addr → Prop} {H H1 H2 : Hp} (a : Step W H W1 H1) (b : Step W1 H1 W2 H2) : Step W H W2 H2 where
  keep := fun c o e n => b.keep c o (a.keep c o e n) fun h => (a.young c h).elim n fun q => by rw [q] at e; cases e
  young := fun c h => by
    by_cases hw : W c
    · exact .inl hw
    · rcases b.young c h with h1 | h1
      · exact a.young c h1
      · refine .inr ?_
        cases q : H c with
        | none => rfl
        | some o => rw [a.keep c o q hw] at h1; cases h1
/-- what is seen stays -/
theorem Step.see {Z : Zt} {L L' : Nat → List Addr} {T T' : List Addr} {H H' : Hp} (a : Step (Own L T) H (Own L' T') H') : Same (hid H (Hid Z L T)) (hid H' (Hid Z L' T')) := fun b o e => by
  obtain ⟨n, e⟩ := hid_some.mp e
  have nw : ¬ Own L T b := fun h => n (.inr h)
  refine hid_some.mpr ⟨fun h => ?_, a.keep b o e nw⟩
  rcases h with h | h
  · exact n (.inl h)
  · rcases a.young b h with h | h
    · exact nw h
    · rw [h] at e; cases e
section
variable {K : Frag} {Z : Zt} {L : Nat → List Addr} {T : List Addr} {σ : L2.St} {H H' : Hp} {st : Sx}
theorem Rel.lin (r : Rel K Z L T σ H st) {i : Nat} {b : Addr} (h : b ∈ L i) : H b ≠ none := by
  by_cases q : ∃ m, st[i]? = some (some m)
  · obtain ⟨m, q⟩ := q
    obtain ⟨v, _, h2⟩ := r.slot i m q
    exact h2.there h
  · rw [r.emp i fun m e => q ⟨m, e⟩] at h; cases h
theorem Rel.oin (r : Rel K Z L T σ H st) {b : Addr} (h : Own L T b) : H b ≠ none := by
  rcases h with ⟨i, h⟩ | h
  · exact r.lin h
  · exact r.tin b h
theorem Rel.hin (r : Rel K Z L T σ H st) {b : Addr} (h : Hid Z L T b) : H b ≠ none := by
  rcases h with h | h
  · exact r.zin b h
  · exact r.oin h
/-- the heap grows -/
theorem Rel.grow (r : Rel K Z L T σ H st) (e : Same H H') : Rel K Z L T σ H' st where
  len := r.len
  slot := fun i m q => by
    obtain ⟨v, h1, h2⟩ := r.slot i m q
    refine ⟨v, h1, h2.up (fun b o w => ?_) fun b o _ w => e b o w⟩
    obtain ⟨n, w⟩ := hid_some.mp w
    exact hid_some.mpr ⟨n, e b o w⟩
  emp := r.emp
  dis := r.dis
  dt := r.dt
  dz := r.dz
  zin := fun b hb => by
    cases q : H b with
    | none => exact absurd q (r.zin b hb)
    | some o => rw [e b o q]; exact Option.some_ne_none _
  tin := fun b hb => by
    cases q : H b with
    | none => exact absurd q (r.tin b hb)
    | some o => rw [e b o q]; exact Option.some_ne_none _
  pn := r.pn
theorem Step.grow {W : Addr → Prop} (e : Same H H') : Step W H W H' := ⟨fun b o h _ => e b o h, fun _ h => .inl h⟩
/-- what is held in passing is let go -/
theorem Rel.drop (r : Rel K Z L T σ H st) : Rel K Z L [] σ H st where
  len := r.len
  slot := fun i m q => by
    obtain ⟨v, h1, h2⟩ := r.slot i m q
    refine ⟨v, h1, h2.up (fun b o w => ?_) fun b o _ w => w⟩
    obtain ⟨n, w⟩ := hid_some.mp w
    refine hid_some.mpr ⟨fun h => n ?_, w⟩
    rcases h with h | ⟨i, h⟩ | h
    · exact .inl h
    · exact .inr (.inl ⟨i, h⟩)
    · cases h
  emp := r.emp
  dis := r.dis
  dt := fun _ _ _ h => nomatch h
  dz := fun b h => r.dz b (by
    rcases h with h | h
    · exact .inl h
    · cases h)
  zin := r.zin
  tin := fun _ h => nomatch h
  pn := r.pn
theorem Step.drop {W : Addr → Prop} {L' : Nat → List Addr} {T' : List Addr} (s : Step W H (Own L' T') H') : Step W H (Own L' []) H' :=
  ⟨s.keep, fun b h => s.young b (by rcases h with h | h; exact .inl h; cases h)⟩
theorem see_drop : Same (hid H (Hid Z L T)) (hid H (Hid Z L [])) := fun b o e => by
  obtain ⟨n, e⟩ := hid_some.mp e
  refine hid_some.mpr ⟨fun h => n ?_, e⟩
  rcases h with h | h | h
  · exact .inl h
  · exact .inr (.inl h)
  · cases h
/-- what is held in passing goes to a name -/
theorem open_lt {st : Sx} {i : Nat} (h : open1 st i = true) : i < st.length := by
  unfold open1 at h
  by_cases hi : i < st.length
  · exact hi
  · rw [List.getElem?_eq_none (by omega)] at h; cases h
theorem open_free {st : Sx} {i : Nat} {m : M} (h : open1 st i = true) (e : st[i]? = some (some m)) : m.free = true := by
  unfold open1 at h
  rw [e] at h; exact h
theorem Rel.put {i : Nat} {v : V} {m : M} (r : Rel K Z L T σ H st) (ho : open1 st i = true) (h : RM K (hid H (Hid Z L T)) H v m T) :
    Rel K Z (upL L i T) [] (σ.set i (some v)) H (st.set i (some m)) := by
  have hi := open_lt ho
  have sub : ∀ b, Hid Z (upL L i T) [] b → Hid Z L T b := fun b h => by
    rcases h with h | ⟨j, h⟩ | h
    · exact .inl h
    · by_cases e : j = i
      · rw [upL_eq e] at h; exact .inr (.inr h)
      · rw [upL_ne e] at h; exact .inr (.inl ⟨j, h⟩)
    · cases h
  have see : Same (hid H (Hid Z L T)) (hid H (Hid Z (upL L i T) [])) := fun b o e => by
    obtain ⟨n, e⟩ := hid_some.mp e
    exact hid_some.mpr ⟨fun q => n (sub b q), e⟩
  refine ⟨by rw [List.length_set, List.length_set]; exact r.len, fun j m' q => ?_, fun j q => ?_, fun j k b h1 h2 => ?_, fun _ _ _ h => (nomatch h), fun b h1 => ?_, r.zin, fun _ h => (nomatch h), fun j w hw => ?_⟩
  · by_cases e : j = i
    · subst e
      rw [List.getElem?_set_self hi] at q
      cases q
      refine ⟨v, List.getElem?_set_self (by rw [r.len]; exact hi), ?_⟩
      rw [upL_eq rfl]
      exact h.up see fun _ _ _ w => w
    · rw [List.getElem?_set_ne (Ne.symm e)] at q
      obtain ⟨v', h1, h2⟩ := r.slot j m' q
      refine ⟨v', by rw [List.getElem?_set_ne (Ne.symm e)]; exact h1, ?_⟩
      rw [upL_ne e]
      exact h2.up see fun _ _ _ w => w
  · by_cases e : j = i
    · subst e
      exact absurd (List.getElem?_set_self hi) (q m)
    · rw [upL_ne e]
      exact r.emp j fun m' w => q m' (by rw [List.getElem?_set_ne (Ne.symm e)]; exact w)
  · by_cases e1 : j = i
    · by_cases e2 : k = i
      · rw [e1, e2]
      · rw [upL_eq e1] at h1; rw [upL_ne e2] at h2
        exact absurd h1 (r.dt k b h2)
    · by_cases e2 : k = i
      · rw [upL_ne e1] at h1; rw [upL_eq e2] at h2
        exact absurd h2 (r.dt j b h1)
      · rw [upL_ne e1] at h1; rw [upL_ne e2] at h2
        exact r.dis j k b h1 h2
  · refine r.dz b ?_
    rcases h1 with ⟨j, h⟩ | h
    · by_cases e : j = i
      · rw [upL_eq e] at h; exact .inr h
      · rw [upL_ne e] at h; exact .inl ⟨j, h⟩
    · cases h
  · obtain ⟨p1, m', p2, p3⟩ := r.pn j w hw
    have e : i ≠ j := fun e => by
      subst e
      rw [open_free ho p2] at p3; cases p3
    exact ⟨by rw [List.getElem?_set_ne e]; exact p1, m', by rw [List.getElem?_set_ne e]; exact p2, p3⟩
theorem Step.put {W : Addr → Prop} {L' : Nat → List Addr} {T' : List Addr} (s : Step W H (Own L' T') H') (i : Nat) : Step W H (Own (upL L' i T') []) H' :=
  ⟨s.keep, fun b h => s.young b (by
    rcases h with ⟨j, h⟩ | h
    · by_cases e : j = i
      · rw [upL_eq e] at h; exact .inr h
      · rw [upL_ne e] at h; exact .inl ⟨j, h⟩
    · cases h)⟩
/-- what a name holds is taken from it -/
theorem Rel.take {i : Nat} {m : M} (r : Rel K Z L [] σ H st) (hm : st[i]? = some (some m)) (hf : m.free = true) :
    ∃ v, σ[i]? = some (some v) ∧ Rel K Z (upL L i []) (L i) σ H (st.set i none) ∧ RM K (hid H (Hid Z (upL L i []) (L i))) H v m (L i) ∧ (∀ b, Own (upL L i []) (L i) b → Own L [] b) := by
  have own : ∀ b, Own (upL L i []) (L i) b → Own L [] b := fun b h => by
    rcases h with ⟨j, h⟩ | h
    · by_cases e : j = i
      · rw [upL_eq e] at h; cases h
      · rw [upL_ne e] at h; exact .inl ⟨j, h⟩
    · exact .inl ⟨i, h⟩
  have see : Same (hid H (Hid Z L [])) (hid H (Hid Z (upL L i []) (L i))) := fun b o e => by
    obtain ⟨n, e⟩ := hid_some.mp e
    refine hid_some.mpr ⟨fun q => n ?_, e⟩
    rcases q with q | q
    · exact .inl q
    · exact .inr (own b q)
  obtain ⟨v, h1, h2⟩ := r.slot i m hm
  refine ⟨v, h1, ?_, h2.up see fun _ _ _ w => w, own⟩
  refine ⟨by rw [List.length_set]; exact r.len, fun j m' q => ?_, fun j q => ?_, fun j k b h1 h2 => ?_, fun j b h1 h2 => ?_, fun b h => r.dz b (own b h), r.zin, fun b h => r.lin h, fun j w hw => ?_⟩
  · by_cases e : j = i
    · subst e
      rw [List.getElem?_set] at q
      simp at q
    · rw [List.getElem?_set_ne (Ne.symm e)] at q
      obtain ⟨v', g1, g2⟩ := r.slot j m' q
      refine ⟨v', g1, ?_⟩
      rw [upL_ne e]
      exact g2.up see fun _ _ _ w => w
  · by_cases e : j = i
    · rw [upL_eq e]
    · rw [upL_ne e]
      exact r.emp j fun m' w => q m' (by rw [List.getElem?_set_ne (Ne.symm e)]; exact w)
  · by_cases e1 : j = i
    · rw [upL_eq e1] at h1; cases h1
    · by_cases e2 : k = i
      · rw [upL_eq e2] at h2; cases h2
      · rw [upL_ne e1] at h1; rw [upL_ne e2] at h2; exact r.dis j k b h1 h2
  · by_cases e1 : j = i
    · rw [upL_eq e1] at h1; cases h1
    · rw [upL_ne e1] at h1
      exact e1 (r.dis j i b h1 h2)
  · obtain ⟨p1, m', p2, p3⟩ := r.pn j w hw
    have e : i ≠ j := fun e => by
      subst e
      rw [hm] at p2; cases p2
      rw [hf] at p3; cases p3
    exact ⟨p1, m', by rw [List.getElem?_set_ne e]; exact p2, p3⟩
/-- an object that a name holds is changed -/
theorem Rel.change {i : Nat} {m m' : M} {H' : Hp} {v : V} (r : Rel K Z L T σ H st) (hm : st[i]? = some (some m)) (hv : σ[i]? = some (some v)) (k : ∀ b o, b ∉ L i → H b = some o → H' b = some o)
    (h : RM K (hid H' (Hid Z L T)) H' v m' (L i)) (hf : m'.free = m.free) : Rel K Z L T σ H' (st.set i (some m')) := by
  have hi : i < st.length := (List.getElem?_eq_some_iff.mp hm).1
  have see : Same (hid H (Hid Z L T)) (hid H' (Hid Z L T)) := fun b o e => by
    obtain ⟨n, e⟩ := hid_some.mp e
    exact hid_some.mpr ⟨n, k b o (fun q => n (.inr (.inl ⟨i, q⟩))) e⟩
  have kk : ∀ b, b ∉ L i → H b ≠ none → H' b ≠ none := fun b n e => by
    cases q : H b with
    | none => exact absurd q e
    | some o => rw [k b o n q]; exact Option.some_ne_none _
  refine ⟨by rw [List.length_set]; exact r.len, fun j m2 q => ?_, fun j q => ?_, r.dis, r.dt, r.dz, fun b hb => kk b (fun q => r.dz b (.inl ⟨i, q⟩) hb) (r.zin b hb), fun b hb => kk b (fun q => r.dt i b q hb) (r.tin b hb), fun j w hw => ?_⟩
  · by_cases e : j = i
    · subst e
      rw [List.getElem?_set_self hi] at q
      cases q
      exact ⟨v, hv, h⟩
    · rw [List.getElem?_set_ne (Ne.symm e)] at q
      obtain ⟨v', g1, g2⟩ := r.slot j m2 q
      exact ⟨v', g1, g2.up see fun b o hb w => k b o (fun q => e (r.dis j i b hb q)) w⟩
  · by_cases e : j = i
    · subst e
      exact absurd (List.getElem?_set_self hi) (q m')
    · exact r.emp j fun m2 w => q m2 (by rw [List.getElem?_set_ne (Ne.symm e)]; exact w)
  · obtain ⟨p1, m2, p2, p3⟩ := r.pn j w hw
    by_cases e : i = j
    · subst e
      rw [hm] at p2; cases p2
      exact ⟨p1, m', List.getElem?_set_self hi, by rw [hf]; exact p3⟩
    · exact ⟨p1, m2, by rw [List.getElem?_set_ne e]; exact p2, p3⟩
theorem Step.change {i : Nat} {H' : Hp} (k : ∀ b o, b ∉ L i → H b = some o → H' b = some o) : Step (Own L T) H (Own L T) H' :=
  ⟨fun b o e n => k b o (fun q => n (.inl ⟨i, q⟩)) e, fun _ h => .inl h⟩
end
end Pv

namespace Pv
open PySem PySem.Spec PyProof.Rows L2
/-! what an expression hands on: data, or a name -/
inductive R where
  | val (d : PyData)
  | var (i : Nat)
abbrev FE := Sx → Option (R × Sx)
abbrev FO := Sx → Option (M × Sx)
abbrev FT := Sx → Option (Bool × Sx)
abbrev FA := Sx → Option (List R × Sx)
abbrev FP := Sx → Option (Option Int × Sx)
def M.dat : M → Option PyData
  | .sh d => some d
  | .ol _ ds => some (.list ds)
  | .od _ kvs => some (.dict kvs)
  | .src _ => none
def dat (st : Sx) : R → Option PyData
  | .val d => some d
  | .var i => match st[i]? with
    | some (some m) => m.dat
    | _ => none
def Rv (K : Frag) (Z : Zt) (L : Nat → List Addr) (σ : L2.St) (H : Hp) (v : V) : R → Prop
  | .val d => RD K (hid H (Hid Z L [])) v d
  | .var i => σ[i]? = some (some v)
def Rvs (K : Frag) (Z : Zt) (L : Nat → List Addr) (σ : L2.St) (H : Hp) : List V → List R → Prop
  | [], [] => True
  | v :: vs, r :: rs => Rv K Z L σ H v r ∧ Rvs K Z L σ H vs rs
  | _, _ => False
theorem Rv.later {K : Frag} {Z : Zt} {L L' : Nat → List Addr} {σ : L2.St} {H H' : Hp} {v : V} : ∀ {r : R}, Rv K Z L σ H v r → Step (Own L []) H (Own L' []) H' → Rv K Z L' σ H' v r
  | .val _, h, s => RD.up h s.see
  | .var _, h, _ => h
theorem Rvs.later {K : Frag} {Z : Zt} {L L' : Nat → List Addr} {σ : L2.St} {H H' : Hp} (s : Step (Own L []) H (Own L' []) H') : ∀ {vs : List V} {rs : List R}, Rvs K Z L σ H vs rs → Rvs K Z L' σ H' vs rs
  | [], [], _ => trivial
  | _ :: _, _ :: _, h => ⟨h.1.later s, Rvs.later s h.2⟩
  | [], _ :: _, h => h.elim
  | _ :: _, [], h => h.elim
/-- data at the top of which stands what may be owned -/
def RX (K : Frag) (Hs H : Hp) (v : V) : PyData → Prop
  | .list ds => ∃ a xs, v = .ref a ∧ Lp K H a xs ∧ RDs K Hs xs ds
  | .dict kvs => ∃ a, v = .ref a ∧ ((∃ ks, Rd H a (.dK ks) ∧ RDk K Hs ks kvs) ∨ (∃ o xs, H a = some (DN a o xs) ∧ kvs ≠ [] ∧ RDn K Hs xs kvs))
  | d => RD K Hs v d
theorem RX.of {K : Frag} {Hs H : Hp} {v : V} {d : PyData} (s : Same Hs H) (h : RD K Hs v d) : RX K Hs H v d := by
  cases d with
  | list ds => cases h with | lst a b => exact ⟨_, _, rfl, a.up s, b⟩
  | dict ds => cases h with
    | dctK a b => exact ⟨_, rfl, .inl ⟨_, sameRd s a, b⟩⟩
    | dctN a n b => exact ⟨_, rfl, .inr ⟨_, _, s _ _ a, n, b⟩⟩
  | _ => exact h
theorem RX.full {K : Frag} {Hs H : Hp} {v : V} {d : PyData} (s : Same Hs H) (h : RX K Hs H v d) : RD K H v d := by
  cases d with
  | list ds => obtain ⟨a, xs, rfl, h1, h2⟩ := h; exact .lst h1 (h2.up s)
  | dict ds =>
    obtain ⟨a, rfl, h⟩ := h
    rcases h with ⟨ks, h1, h2⟩ | ⟨o, ks, h1, hn, h2⟩
    · exact .dctK h1 (h2.up s)
    · exact .dctN h1 hn (h2.up s)
  | _ => exact RD.up h s
theorem RM.rx {K : Frag} {Hs H : Hp} {v : V} {m : M} {L : List Addr} {d : PyData} (s : Same Hs H) (h : RM K Hs H v m L) (e : m.dat = some d) : RX K Hs H v d := by
  cases m with
  | sh d' => cases e; exact RX.of s h.1
  | ol b ds => cases e; obtain ⟨p, vs, rfl, h1, h2, _⟩ := h; exact ⟨p, vs, rfl, .inl (.inl h1), h2⟩
  | od b kvs =>
    cases e
    obtain ⟨p, rfl, _, h⟩ := h
    rcases h with ⟨ks, h1, h2⟩ | ⟨o, ks, h1, hn, h2⟩
    · exact ⟨p, rfl, .inl ⟨ks, .inl h1, h2⟩⟩
    · exact ⟨p, rfl, .inr ⟨o, ks, h1, hn, h2⟩⟩
  | src s' => cases e
section
variable {K : Frag} {Z : Zt} {L L' : Nat → List Addr} {T : List Addr} {σ : L2.St} {H H' : Hp} {st st' : Sx} {v : V} {r : R} {d : PyData} {m : M}
theorem Rel.rx (I : Rel K Z L [] σ H st) (h : Rv K Z L σ H v r) (e : dat st r = some d) : RX K (hid H (Hid Z L [])) H v d := by
  cases r with
  | val d' => cases e; exact RX.of hid_sub h
  | var i =>
    cases q : st[i]? with
    | none => simp only [dat, q] at e; cases e
    | some o =>
      cases o with
      | none => simp only [dat, q] at e; cases e
      | some m =>
        simp only [dat, q] at e
        obtain ⟨v', h1, h2⟩ := I.slot i m q
        have ev : v' = v := by
          have h' : σ[i]? = some (some v) := h
          rw [h1] at h'; cases h'; rfl
        subst ev
        exact h2.rx hid_sub e
/-- what is held in passing is let go: it is data -/
theorem RM.shared (I : Rel K Z L T σ H st) (h : RM K (hid H (Hid Z L T)) H v m T) (e : m.dat = some d) : RD K (hid H (Hid Z L [])) v d := by
  have nh : ∀ p, p ∈ T → ¬ Hid Z L [] p := fun p hp q => by
    rcases q with q | ⟨j, q⟩ | q
    · exact I.dz p (.inr hp) q
    · exact I.dt j p q hp
    · cases q
  cases m with
  | sh d' => cases e; exact h.1.up see_drop
  | ol b ds =>
    cases e
    obtain ⟨p, vs, rfl, h1, h2, h3⟩ := h
    exact .lst (.inl (.inl (hid_some.mpr ⟨nh p (by rw [h3]; simp), h1⟩))) (h2.up see_drop)
  | od b kvs =>
    cases e
    obtain ⟨p, rfl, h3, h⟩ := h
    rcases h with ⟨ks, h1, h2⟩ | ⟨o, ks, h1, hn, h2⟩
    · exact .dctK (.inl (hid_some.mpr ⟨nh p (by rw [h3]; simp), h1⟩)) (h2.up see_drop)
    · exact .dctN (hid_some.mpr ⟨nh p (by rw [h3]; simp), h1⟩) hn (h2.up see_drop)
  | src s' => cases e
/-- a name's thing becomes data for good -/
def share (st : Sx) : R → Option (PyData × Sx)
  | .val d => some (d, st)
  | .var i => match st[i]? with
    | some (some (.sh d)) => some (d, st)
    | some (some (.ol false ds)) => some (.list ds, st.set i (some (.sh (.list ds))))
    | some (some (.od false kvs)) => some (.dict kvs, st.set i (some (.sh (.dict kvs))))
    | _ => none
theorem set_same {α : Type} : ∀ {l : List α} {i : Nat} {a : α}, l[i]? = some a → l.set i a = l
  | [], _, _, h => by simp at h
  | x :: l, 0, a, h => by simp at h; subst h; rfl
  | x :: l, i + 1, a, h => by rw [List.set_cons_succ, set_same (i := i) (by simpa using h)]
theorem Rel.share1 {i : Nat} (I : Rel K Z L [] σ H st) (hv : σ[i]? = some (some v)) (hm : st[i]? = some (some m)) (hf : m.free = true) (e : m.dat = some d) :
    ∃ L', Rel K Z L' [] σ H (st.set i (some (.sh d))) ∧ Step (Own L []) H (Own L' []) H ∧ RD K (hid H (Hid Z L' [])) v d := by
  obtain ⟨v', h1, I1, h2, own⟩ := I.take hm hf
  have ev : v' = v := by rw [h1] at hv; cases hv; rfl
  subst ev
  have rd := h2.shared I1 e
  have I2 := I1.drop
  have hi : open1 (st.set i none) i = true := by unfold open1; rw [List.getElem?_set_self (List.getElem?_eq_some_iff.mp hm).1]
  have I3 := I2.put (m := .sh d) hi ⟨rd, rfl⟩
  rw [set_same h1, List.set_set] at I3
  refine ⟨_, I3, ⟨fun _ _ q _ => q, fun b hb => ?_⟩, rd.up fun b o q => ?_⟩
  · rcases hb with ⟨j, hb⟩ | hb
    · by_cases e : j = i
      · rw [upL_eq e] at hb; cases hb
      · rw [upL_ne e, upL_ne e] at hb
        exact .inl (.inl ⟨j, hb⟩)
    · cases hb
  · obtain ⟨n, q⟩ := hid_some.mp q
    refine hid_some.mpr ⟨fun w => n ?_, q⟩
    rcases w with w | ⟨j, w⟩ | w
    · exact .inl w
    · by_cases e : j = i
      · rw [upL_eq e] at w; cases w
      · rw [upL_ne e] at w; exact .inr (.inl ⟨j, w⟩)
    · cases w
theorem Rel.share (I : Rel K Z L [] σ H st) (h : Rv K Z L σ H v r) (e : Pv.share st r = some (d, st')) :
    ∃ L', Rel K Z L' [] σ H st' ∧ Step (Own L []) H (Own L' []) H ∧ RD K (hid H (Hid Z L' [])) v d := by
  cases r with
  | val d' => cases e; exact ⟨L, I, .refl _ _, h⟩
  | var i =>
    have hv : σ[i]? = some (some v) := h
    unfold Pv.share at e
    cases q : st[i]? with
    | none => simp only [q] at e; cases e
    | some o =>
      cases o with
      | none => simp only [q] at e; cases e
      | some m =>
        simp only [q] at e
        cases m with
        | sh d' =>
          cases e
          obtain ⟨v', h1, h2⟩ := I.slot i _ q
          rw [h1] at hv; cases hv
          exact ⟨L, I, .refl _ _, h2.1⟩
        | ol b ds =>
          cases b with
          | true => cases e
          | false => cases e; exact I.share1 hv q rfl rfl
        | od b ds =>
          cases b with
          | true => cases e
          | false => cases e; exact I.share1 hv q rfl rfl
        | src _ => cases e
def shares (st : Sx) : List R → Option (List PyData × Sx)
  | [] => some ([], st)
  | r :: rs => (share st r).bind fun p => (shares p.2 rs).bind fun q => some (p.1 :: q.1, q.2)
theorem Rel.shares : ∀ {rs : List R} {vs : List V} {ds : List PyData} {L : Nat → List Addr} {st st' : Sx}, Rel K Z L [] σ H st → Rvs K Z L σ H vs rs → Pv.shares st rs = some (ds, st') →
    ∃ L', Rel K Z L' [] σ H st' ∧ Step (Own L []) H (Own L' []) H ∧ RDs K (hid H (Hid Z L' [])) vs ds
  | [], [], _, L, _, _, I, _, e => by cases e; exact ⟨L, I, .refl _ _, .nil⟩
  | [], _ :: _, _, _, _, _, _, h, _ => h.elim
  | _ :: _, [], _, _, _, _, _, h, _ => h.elim
  | r :: rs, v :: vs, ds, L, st, st', I, h, e => by
    obtain ⟨⟨d1, s1⟩, e1, e⟩ := Option.bind_eq_some_iff.mp e
    obtain ⟨⟨d2, s2⟩, e2, e⟩ := Option.bind_eq_some_iff.mp e
    cases e
    obtain ⟨L1, I1, S1, r1⟩ := I.share h.1 e1
    obtain ⟨L2, I2, S2, r2⟩ := Rel.shares I1 (h.2.later S1) e2
    exact ⟨L2, I2, S1.trans S2, .cons (r1.up S2.see) r2⟩
end
/-! the readings -/
def TEv (K : Frag) (f : FE) : TE := fun σ H Q => ∃ Z L st r st', Rel K Z L [] σ H st ∧ f st = some (r, st') ∧ ∀ v H' L', Rel K Z L' [] σ H' st' → Step (Own L []) H (Own L' []) H' → Rv K Z L' σ H' v r → Q v H'
def TOv (K : Frag) (f : FO) : TE := fun σ H Q => ∃ Z L st m st', Rel K Z L [] σ H st ∧ f st = some (m, st') ∧ ∀ v H' L' T, Rel K Z L' T σ H' st' → Step (Own L []) H (Own L' T) H' → RM K (hid H' (Hid Z L' T)) H' v m T → Q v H'
def TTv (K : Frag) (f : FT) : TT := fun σ H Q => ∃ Z L st b st', Rel K Z L [] σ H st ∧ f st = some (b, st') ∧ ∀ H' L', Rel K Z L' [] σ H' st' → Step (Own L []) H (Own L' []) H' → Q b H'
def TAv (K : Frag) (f : FA) : TA := fun σ H Q => ∃ Z L st rs st', Rel K Z L [] σ H st ∧ f st = some (rs, st') ∧ ∀ vs H' L', Rel K Z L' [] σ H' st' → Step (Own L []) H (Own L' []) H' → Rvs K Z L' σ H' vs rs → Q vs H'
def TPv (K : Frag) (f : FP) : TO := fun σ H Q => ∃ Z L st o st', Rel K Z L [] σ H st ∧ f st = some (o, st') ∧ ∀ H' L', Rel K Z L' [] σ H' st' → Step (Own L []) H (Own L' []) H' → Q o H'
theorem _root_.L2.PE.wk {X : Cx} {e : Expr} {t t' : TE} (h : PE X e t) (w : ∀ σ H Q, t' σ H Q → t σ H Q) : PE X e t' := ⟨fun pins s σ H Q I q => h.run pins s σ H Q I (w σ H Q q)⟩
theorem _root_.L2.PT.wk {X : Cx} {e : Expr} {t t' : TT} (h : PT X e t) (w : ∀ σ H Q, t' σ H Q → t σ H Q) : PT X e t' := ⟨fun pins s σ H Q I q => h.run pins s σ H Q I (w σ H Q q)⟩
theorem _root_.L2.PW.wk {X : Cx} {e : Expr} {t t' : TT} (h : PW X e t) (w : ∀ σ H Q, t' σ H Q → t σ H Q) : PW X e t' := ⟨fun wh pins s σ H Q I q => h.run wh pins s σ H Q I (w σ H Q q)⟩
theorem _root_.L2.PA.wk {X : Cx} {e : List Expr} {t t' : TA} (h : PA X e t) (w : ∀ σ H Q, t' σ H Q → t σ H Q) : PA X e t' := ⟨fun p pins s σ H Q I q => h.run p pins s σ H Q I (w σ H Q q)⟩
theorem _root_.L2.PO.wk {X : Cx} {e : Option Expr} {t t' : TO} (h : PO X e t) (w : ∀ σ H Q, t' σ H Q → t σ H Q) : PO X e t' := ⟨fun pins s σ H Q I q => h.run pins s σ H Q I (w σ H Q q)⟩
theorem _root_.L2.PS.wk {X : Cx} {e : Stmt} {t t' : TS} (h : PS X e t) (w : ∀ D σ H, t' D σ H → t D σ H) : PS X e t' := ⟨fun pins s σ H D I q => h.run pins s σ H D I (w D σ H q)⟩
theorem _root_.L2.PSs.wk {X : Cx} {e : List Stmt} {t t' : TS} (h : PSs X e t) (w : ∀ D σ H, t' D σ H → t D σ H) : PSs X e t' := ⟨fun pins s σ H D I q => h.run pins s σ H D I (w D σ H q)⟩
/-! names and constants -/
def eVar (i : Nat) : FE := fun st => match st[i]? with
  | some (some _) => some (.var i, st)
  | _ => none
def eCst (d : PyData) : FE := fun st => some (.val d, st)
section
variable {X : Cx}
theorem k_var (i : Nat) {x : Str} {pos : Pos} (hN : X.N[i]? = some x := by rfl) (hv : Vis X.env.scope x := by first | exact Or.inl rfl | exact Or.inr (Or.inl rfl) | exact Or.inr (Or.inr rfl)) (hd : (x == ("__debug__" : Str)) = false := by decide)
    (hcd : (x == ("__classdict__" : Str)) = false := by decide) : PE X (.Name x pos) (TEv X.K (eVar i)) :=
  (pe_var hN hv hd hcd).wk fun σ H Q ⟨Z, L, st, r, st', I, e, q⟩ => by
    unfold eVar at e
    cases h : st[i]? with
    | none => rw [h] at e; cases e
    | some o =>
      cases o with
      | none => rw [h] at e; cases e
      | some m =>
        rw [h] at e; cases e
        obtain ⟨v, h1, h2⟩ := I.slot i m h
        exact ⟨v, h1, q v H L I (.refl _ _) h1⟩
theorem k_cst {e : Expr} {v : V} {d : PyData} (h : PE X e (tC v)) (r : ∀ H, RD X.K H v d) : PE X e (TEv X.K (eCst d)) :=
  h.wk fun σ H Q ⟨Z, L, st, rr, st', I, e, q⟩ => by cases e; exact q v H L I (.refl _ _) (r _)
theorem k_int {i j pos} : PE X (.Constant (.int i) j pos) (TEv X.K (eCst (.int i))) := k_cst pe_int fun _ => .int i
theorem k_bl {i j pos} : PE X (.Constant (.bool i) j pos) (TEv X.K (eCst (.bool i))) := k_cst pe_bl fun _ => .bl i
theorem k_str {i j pos} : PE X (.Constant (.str i) j pos) (TEv X.K (eCst (.str i))) := k_cst pe_str fun _ => .str i
theorem k_non {j pos} : PE X (.Constant .none j pos) (TEv X.K (eCst .none)) := k_cst pe_non fun _ => .non
/-! what is fresh is let go; what is named becomes data -/
def eFr (f : FO) : FE := fun st => (f st).bind fun p => p.1.dat.bind fun d => some (.val d, p.2)
theorem k_fr {e : Expr} {f : FO} (h : PE X e (TOv X.K f)) : PE X e (TEv X.K (eFr f)) :=
  h.wk fun σ H Q ⟨Z, L, st, r, st', I, e, q⟩ => by
    obtain ⟨⟨m, s1⟩, e1, e⟩ := Option.bind_eq_some_iff.mp e
    obtain ⟨d, e2, e⟩ := Option.bind_eq_some_iff.mp e
    cases e
    exact ⟨Z, L, st, m, s1, I, e1, fun v H' L' T I' S' rm => q v H' L' I'.drop S'.drop (rm.shared I' e2)⟩
def oSh (f : FE) : FO := fun st => (f st).bind fun p => (share p.2 p.1).bind fun q => some (.sh q.1, q.2)
theorem k_sh {e : Expr} {f : FE} (h : PE X e (TEv X.K f)) : PE X e (TOv X.K (oSh f)) :=
  h.wk fun σ H Q ⟨Z, L, st, m, st', I, e, q⟩ => by
    obtain ⟨⟨r, s1⟩, e1, e⟩ := Option.bind_eq_some_iff.mp e
    obtain ⟨⟨d, s2⟩, e2, e⟩ := Option.bind_eq_some_iff.mp e
    cases e
    refine ⟨Z, L, st, r, s1, I, e1, fun v H' L' I' S' rv => ?_⟩
    obtain ⟨L2, I2, S2, rd⟩ := I'.share rv e2
    exact q v H' L2 [] I2 (S'.trans S2) ⟨rd, rfl⟩
/-- a name's own thing is taken from it -/
def oMv (i : Nat) : FO := fun st => match st[i]? with
  | some (some m) => if m.free then some (m, st.set i none) else none
  | _ => none
theorem k_mv (i : Nat) {x : Str} {pos : Pos} (hN : X.N[i]? = some x := by rfl) (hv : Vis X.env.scope x := by first | exact Or.inl rfl | exact Or.inr (Or.inl rfl) | exact Or.inr (Or.inr rfl)) (hd : (x == ("__debug__" : Str)) = false := by decide)
    (hcd : (x == ("__classdict__" : Str)) = false := by decide) : PE X (.Name x pos) (TOv X.K (oMv i)) :=
  (pe_var hN hv hd hcd).wk fun σ H Q ⟨Z, L, st, r, st', I, e, q⟩ => by
    unfold oMv at e
    cases h : st[i]? with
    | none => rw [h] at e; cases e
    | some o =>
      cases o with
      | none => rw [h] at e; cases e
      | some m =>
        simp only [h] at e
        split at e
        · cases e
          rename_i c
          obtain ⟨v, h1, I1, h2, own⟩ := I.take h c
          exact ⟨v, h1, q v H _ _ I1 ⟨fun _ _ e _ => e, fun b hb => .inl (own b hb)⟩ h2⟩
        · cases e
/-! operations on data -/
def e1 (g : PyData → Option PyData) (f : FE) : FE := fun st => (f st).bind fun p => (dat p.2 p.1).bind fun a => (g a).bind fun d => some (.val d, p.2)
def e2 (g : PyData → PyData → Option PyData) (fa fb : FE) : FE := fun st => (fa st).bind fun p => (fb p.2).bind fun q => (dat q.2 p.1).bind fun a => (dat q.2 q.1).bind fun b => (g a b).bind fun d => some (.val d, q.2)
def o1 (g : PyData → Option (List PyData)) (f : FE) : FO := fun st => (f st).bind fun p => (dat p.2 p.1).bind fun a => (g a).bind fun d => some (.ol false d, p.2)
def o2 (g : PyData → PyData → Option (List PyData)) (fa fb : FE) : FO := fun st => (fa st).bind fun p => (fb p.2).bind fun q => (dat q.2 p.1).bind fun a => (dat q.2 q.1).bind fun b => (g a b).bind fun d => some (.ol false d, q.2)
/-- what stands behind the last part -/
def EndV (K : Frag) (H : Hp) (Q : VK) (d : PyData) (P : (Addr → Prop) → Prop) : Prop := ∃ O : Addr → Prop, (∀ b, O b → H b ≠ none) ∧ P O ∧ ∀ v H', Same H H' → RD K (hid H' O) v d → Q v H'
def EndL (K : Frag) (H : Hp) (Q : VK) (ds : List PyData) (P : (Addr → Prop) → Prop) : Prop := ∃ O : Addr → Prop, (∀ b, O b → H b ≠ none) ∧ P O ∧ ∀ p vs, H p = none → RDs K (hid H O) vs ds → Q (.ref p) (upd H p (.lst vs))
def V1 (K : Frag) (r : V → Hp → VK → Prop) (g : PyData → Option PyData) : Prop := ∀ (H : Hp) (x : V) (a d : PyData) (Q : VK), g a = some d → EndV K H Q d (fun O => RX K (hid H O) H x a) → r x H Q
def V2 (K : Frag) (r : V → V → Hp → VK → Prop) (g : PyData → PyData → Option PyData) : Prop := ∀ (H : Hp) (x y : V) (a b d : PyData) (Q : VK), g a b = some d → EndV K H Q d (fun O => RX K (hid H O) H x a ∧ RX K (hid H O) H y b) → r x y H Q
def W1 (K : Frag) (r : V → Hp → VK → Prop) (g : PyData → Option (List PyData)) : Prop := ∀ (H : Hp) (x : V) (a : PyData) (d : List PyData) (Q : VK), g a = some d → EndL K H Q d (fun O => RX K (hid H O) H x a) → r x H Q
def W2 (K : Frag) (r : V → V → Hp → VK → Prop) (g : PyData → PyData → Option (List PyData)) : Prop := ∀ (H : Hp) (x y : V) (a b : PyData) (d : List PyData) (Q : VK), g a b = some d → EndL K H Q d (fun O => RX K (hid H O) H x a ∧ RX K (hid H O) H y b) → r x y H Q
theorem same_upd {H : Hp} {p : Addr} {o : HO} (h : H p = none) : Same H (upd H p o) := fun b x e => by
  rw [upd_ne (ne_of_none e h)]
  exact e
theorem hid_upd {H : Hp} {O : Addr → Prop} {p : Addr} {o : HO} (h : ∀ b, O b → H b ≠ none) (hp : H p = none) : hid (upd H p o) O p = some o := hid_some.mpr ⟨fun q => h p q hp, upd_same⟩
theorem hid_grow {H H' : Hp} {O : Addr → Prop} (s : Same H H') : Same (hid H O) (hid H' O) := fun b o e => by
  obtain ⟨n, e⟩ := hid_some.mp e
  exact hid_some.mpr ⟨n, s b o e⟩
section
variable {K : Frag} {Z : Zt} {L L' : Nat → List Addr} {T : List Addr} {σ : L2.St} {H H' : Hp} {st st' : Sx}
/-- a new list is held in passing -/
theorem Rel.fresh {p : Addr} {o : HO} (I : Rel K Z L [] σ H st) (hp : H p = none) : Rel K Z L [p] σ (upd H p o) st := by
  have np : ∀ b, Hid Z L [] b → b ≠ p := fun b h e => I.hin h (by rw [e]; exact hp)
  have sub : Same (hid H (Hid Z L [])) (hid (upd H p o) (Hid Z L [p])) := fun b x e => by
    obtain ⟨n, e⟩ := hid_some.mp e
    refine hid_some.mpr ⟨fun h => ?_, same_upd hp b x e⟩
    rcases h with h | h | h
    · exact n (.inl h)
    · exact n (.inr (.inl h))
    · rw [List.mem_singleton] at h; rw [h, hp] at e; cases e
  refine ⟨I.len, fun i m q => ?_, I.emp, I.dis, fun i b h1 h2 => ?_, fun b h => ?_, fun b h => ?_, fun b h => ?_, I.pn⟩
  · obtain ⟨v, h1, h2⟩ := I.slot i m q
    exact ⟨v, h1, h2.up sub fun b o _ e => same_upd hp b o e⟩
  · rw [List.mem_singleton] at h2
    exact np b (.inr (.inl ⟨i, h1⟩)) h2
  · rcases h with h | h
    · exact I.dz b (.inl h)
    · rw [List.mem_singleton] at h
      exact fun z => np b (.inl z) h
  · intro q
    rw [upd_ne (np b (.inl h))] at q
    exact I.zin b h q
  · rw [List.mem_singleton] at h
    rw [h, upd_same]; exact Option.some_ne_none _
theorem Step.fresh {p : Addr} {o : HO} (hp : H p = none) : Step (Own L []) H (Own L [p]) (upd H p o) :=
  ⟨fun b x e _ => same_upd hp b x e, fun b h => by
    rcases h with h | h
    · exact .inl (.inl h)
    · rw [List.mem_singleton] at h; rw [h]; exact .inr hp⟩
theorem endV {Q : VK} {d : PyData} {P : (Addr → Prop) → Prop} (I : Rel K Z L [] σ H st) (p : P (Hid Z L [])) (q : ∀ v H' L', Rel K Z L' [] σ H' st → Step (Own L []) H (Own L' []) H' → Rv K Z L' σ H' v (.val d) → Q v H') : EndV K H Q d P :=
  ⟨Hid Z L [], fun b h => I.hin h, p, fun v H' s rd => q v H' L (I.grow s) (.grow s) rd⟩
theorem endL {Q : VK} {ds : List PyData} {P : (Addr → Prop) → Prop} (I : Rel K Z L [] σ H st) (p : P (Hid Z L [])) (q : ∀ v H' L' T, Rel K Z L' T σ H' st → Step (Own L []) H (Own L' T) H' → RM K (hid H' (Hid Z L' T)) H' v (.ol false ds) T → Q v H') : EndL K H Q ds P :=
  ⟨Hid Z L [], fun b h => I.hin h, p, fun a vs ha rd => q (.ref a) _ L [a] (I.fresh ha) (.fresh ha) ⟨a, vs, rfl, upd_same, (rd.up fun b o e => by
    obtain ⟨n, e⟩ := hid_some.mp e
    refine hid_some.mpr ⟨fun h => ?_, same_upd ha b o e⟩
    rcases h with h | h | h
    · exact n (.inl h)
    · exact n (.inr (.inl h))
    · rw [List.mem_singleton] at h; rw [h, ha] at e; cases e), rfl⟩⟩
end
theorem down1 {r : V → Hp → VK → Prop} {K : Frag} {g : PyData → Option PyData} {f : FE} (hr : V1 K r g) (σ : L2.St) (H : Hp) (Q : VK) (h : TEv K (e1 g f) σ H Q) : TEv K f σ H fun x H1 => r x H1 Q := by
  obtain ⟨Z, L, st, rr, st', I, e, q⟩ := h
  obtain ⟨⟨ra, s1⟩, e1, e⟩ := Option.bind_eq_some_iff.mp e
  obtain ⟨a, e2, e⟩ := Option.bind_eq_some_iff.mp e
  obtain ⟨d, e3, e⟩ := Option.bind_eq_some_iff.mp e
  cases e
  exact ⟨Z, L, st, ra, s1, I, e1, fun v H1 L1 I1 S1 rv => hr H1 v a d Q e3 (endV I1 (I1.rx rv e2) fun w H' L' I' S' rw' => q w H' L' I' (S1.trans S') rw')⟩
theorem down2 {r : V → V → Hp → VK → Prop} {K : Frag} {g : PyData → PyData → Option PyData} {fa fb : FE} (hr : V2 K r g) (σ : L2.St) (H : Hp) (Q : VK) (h : TEv K (e2 g fa fb) σ H Q) : TEv K fa σ H fun x H1 => TEv K fb σ H1 fun y H2 => r x y H2 Q := by
  obtain ⟨Z, L, st, rr, st', I, e, q⟩ := h
  obtain ⟨⟨ra, s1⟩, e1, e⟩ := Option.bind_eq_some_iff.mp e
  obtain ⟨⟨rb, s2⟩, e2, e⟩ := Option.bind_eq_some_iff.mp e
  obtain ⟨a, e3, e⟩ := Option.bind_eq_some_iff.mp e
  obtain ⟨b, e4, e⟩ := Option.bind_eq_some_iff.mp e
  obtain ⟨d, e5, e⟩ := Option.bind_eq_some_iff.mp e
  cases e
  exact ⟨Z, L, st, ra, s1, I, e1, fun v H1 L1 I1 S1 rv => ⟨Z, L1, s1, rb, s2, I1, e2, fun w H2 L2 I2 S2 rw' =>
    hr H2 v w a b d Q e5 (endV I2 ⟨I2.rx (rv.later S2) e3, I2.rx rw' e4⟩ fun u H' L' I' S' ru => q u H' L' I' (S1.trans (S2.trans S')) ru)⟩⟩
theorem downO1 {r : V → Hp → VK → Prop} {K : Frag} {g : PyData → Option (List PyData)} {f : FE} (hr : W1 K r g) (σ : L2.St) (H : Hp) (Q : VK) (h : TOv K (o1 g f) σ H Q) : TEv K f σ H fun x H1 => r x H1 Q := by
  obtain ⟨Z, L, st, rr, st', I, e, q⟩ := h
  obtain ⟨⟨ra, s1⟩, e1, e⟩ := Option.bind_eq_some_iff.mp e
  obtain ⟨a, e2, e⟩ := Option.bind_eq_some_iff.mp e
  obtain ⟨d, e3, e⟩ := Option.bind_eq_some_iff.mp e
  cases e
  exact ⟨Z, L, st, ra, s1, I, e1, fun v H1 L1 I1 S1 rv => hr H1 v a d Q e3 (endL I1 (I1.rx rv e2) fun w H' L' T I' S' rw' => q w H' L' T I' (S1.trans S') rw')⟩
theorem downO2 {r : V → V → Hp → VK → Prop} {K : Frag} {g : PyData → PyData → Option (List PyData)} {fa fb : FE} (hr : W2 K r g) (σ : L2.St) (H : Hp) (Q : VK) (h : TOv K (o2 g fa fb) σ H Q) : TEv K fa σ H fun x H1 => TEv K fb σ H1 fun y H2 => r x y H2 Q := by
  obtain ⟨Z, L, st, rr, st', I, e, q⟩ := h
  obtain ⟨⟨ra, s1⟩, e1, e⟩ := Option.bind_eq_some_iff.mp e
  obtain ⟨⟨rb, s2⟩, e2, e⟩ := Option.bind_eq_some_iff.mp e
  obtain ⟨a, e3, e⟩ := Option.bind_eq_some_iff.mp e
  obtain ⟨b, e4, e⟩ := Option.bind_eq_some_iff.mp e
  obtain ⟨d, e5, e⟩ := Option.bind_eq_some_iff.mp e
  cases e
  exact ⟨Z, L, st, ra, s1, I, e1, fun v H1 L1 I1 S1 rv => ⟨Z, L1, s1, rb, s2, I1, e2, fun w H2 L2 I2 S2 rw' =>
    hr H2 v w a b d Q e5 (endL I2 ⟨I2.rx (rv.later S2) e3, I2.rx rw' e4⟩ fun u H' L' T I' S' ru => q u H' L' T I' (S1.trans (S2.trans S')) ru)⟩⟩
/-! argument lists -/
def aNil : FA := fun st => some ([], st)
def aCons (f : FE) (g : FA) : FA := fun st => (f st).bind fun p => (g p.2).bind fun q => some (p.1 :: q.1, q.2)
theorem k_nil : PA X [] (TAv X.K aNil) := pa_nil.wk fun σ H Q ⟨Z, L, st, r, st', I, e, q⟩ => by cases e; exact q [] H L I (.refl _ _) trivial
theorem k_cons {e : Expr} {es : List Expr} {f : FE} {g : FA} (ha : PE X e (TEv X.K f)) (hr : PA X es (TAv X.K g)) (hs : starEach (e :: es) X.env = (false, eval e X.env) :: starEach es X.env := by rfl) : PA X (e :: es) (TAv X.K (aCons f g)) :=
  (pa_cons ha hr hs).wk fun σ H Q ⟨Z, L, st, r, st', I, e, q⟩ => by
    obtain ⟨⟨ra, s1⟩, e1, e⟩ := Option.bind_eq_some_iff.mp e
    obtain ⟨⟨rb, s2⟩, e2, e⟩ := Option.bind_eq_some_iff.mp e
    cases e
    exact ⟨Z, L, st, ra, s1, I, e1, fun v H1 L1 I1 S1 rv => ⟨Z, L1, s1, rb, s2, I1, e2, fun vs H2 L2 I2 S2 rvs => q (v :: vs) H2 L2 I2 (S1.trans S2) ⟨rv.later S2, rvs⟩⟩⟩
/-! the forms of operations -/
theorem k_bin {op : Operator} {a b : Expr} {fa fb : FE} {pos : Pos} {r : R2} {g : PyData → PyData → Option PyData} (ho : OpR X (binaryOp op) r) (hv : V2 X.K r g) (ha : PE X a (TEv X.K fa)) (hb : PE X b (TEv X.K fb)) : PE X (.BinOp a op b pos) (TEv X.K (e2 g fa fb)) :=
  (pe_op ho ha hb).wk fun σ H Q h => down2 hv σ H Q h
theorem k_binO {op : Operator} {a b : Expr} {fa fb : FE} {pos : Pos} {r : R2} {g : PyData → PyData → Option (List PyData)} (ho : OpR X (binaryOp op) r) (hv : W2 X.K r g) (ha : PE X a (TEv X.K fa)) (hb : PE X b (TEv X.K fb)) : PE X (.BinOp a op b pos) (TOv X.K (o2 g fa fb)) :=
  (pe_op ho ha hb).wk fun σ H Q h => downO2 hv σ H Q h
theorem k_cmp {op : CmpOp} {a b : Expr} {fa fb : FE} {pos : Pos} {r : R2} {g : PyData → PyData → Option PyData} (ho : OpR X (compareOp op) r) (hv : V2 X.K r g) (ha : PE X a (TEv X.K fa)) (hb : PE X b (TEv X.K fb)) (hm : behindInMarks op b = false := by rfl) : PE X (.Compare a [op] [b] pos) (TEv X.K (e2 g fa fb)) :=
  (pe_cmpR ho ha hb hm).wk fun σ H Q h => down2 hv σ H Q h
theorem k_un {op : UnaryOp} {a : Expr} {fa : FE} {pos : Pos} {r : V → Hp → VK → Prop} {g : PyData → Option PyData} (ho : UnR X (unaryOp op) r) (hv : V1 X.K r g) (ha : PE X a (TEv X.K fa)) : PE X (.UnaryOp op a pos) (TEv X.K (e1 g fa)) :=
  (pe_un ho ha).wk fun σ H Q h => down1 hv σ H Q h
theorem k_ix {a b : Expr} {fa fb : FE} {pos : Pos} {r : R2} {g : PyData → PyData → Option PyData} (ho : IxR X r) (hv : V2 X.K r g) (ha : PE X a (TEv X.K fa)) (hb : PE X b (TEv X.K fb)) (hs : PlainIx b := by exact fun _ _ => rfl) : PE X (.Subscript a b pos) (TEv X.K (e2 g fa fb)) :=
  (pe_ix ho ha hb hs).wk fun σ H Q h => down2 hv σ H Q h
section
variable {x : Str} {p pos : Pos} {a b : Expr} {fa fb : FE} {id T : String} {r : List V → Hp → VK → Prop}
theorem pa_one {t : TE} (ha : PE X a t) (hs : starEach [a] X.env = [(false, eval a X.env)] := by rfl) : PA X [a] (fun σ H Q => t σ H fun v H1 => Q [v] H1) := (pa_cons ha pa_nil hs).wk fun _ _ _ h => h
theorem pa_two {t u : TE} (ha : PE X a t) (hb : PE X b u) (hs : starEach [a, b] X.env = (false, eval a X.env) :: starEach [b] X.env := by rfl) (hs2 : starEach [b] X.env = [(false, eval b X.env)] := by rfl) :
    PA X [a, b] (fun σ H Q => t σ H fun v H1 => u σ H1 fun w H2 => Q [v, w] H2) := (pa_cons ha (pa_cons hb pa_nil hs2) hs).wk fun _ _ _ h => h
theorem k_callB1 {g : PyData → Option PyData} (hc : CallR X (.builtin id) r) (hv : V1 X.K (fun v => r [v]) g) (ha : PE X a (TEv X.K fa)) (hm : X.mg x = none) (hb : bootBuiltins x = some (.builtin id) := by decide +kernel) (hg : Gl X x := by rfl) (hn : x ≠ "__name__" := by decide) (hdb : (x == ("__debug__" : Str)) = false := by decide)
    (hs : starEach [a] X.env = [(false, eval a X.env)] := by rfl) : PE X (.Call (.Name x p) [a] [] pos) (TEv X.K (e1 g fa)) :=
  (pe_callB hc hg hm hb (pa_one ha hs) hn hdb hs rfl).wk fun σ H Q h => down1 hv σ H Q h
theorem k_callB2 {g : PyData → PyData → Option PyData} (hc : CallR X (.builtin id) r) (hv : V2 X.K (fun v w => r [v, w]) g) (ha : PE X a (TEv X.K fa)) (hb : PE X b (TEv X.K fb)) (hm : X.mg x = none) (hbo : bootBuiltins x = some (.builtin id) := by decide +kernel) (hg : Gl X x := by rfl) (hn : x ≠ "__name__" := by decide) (hdb : (x == ("__debug__" : Str)) = false := by decide)
    (hs : starEach [a, b] X.env = (false, eval a X.env) :: starEach [b] X.env := by rfl) (hs2 : starEach [b] X.env = [(false, eval b X.env)] := by rfl) : PE X (.Call (.Name x p) [a, b] [] pos) (TEv X.K (e2 g fa fb)) :=
  (pe_callB hc hg hm hbo (pa_two ha hb hs hs2) hn hdb hs (by rw [hs2]; rfl)).wk fun σ H Q h => down2 hv σ H Q h
theorem k_callBO1 {g : PyData → Option (List PyData)} (hc : CallR X (.builtin id) r) (hv : W1 X.K (fun v => r [v]) g) (ha : PE X a (TEv X.K fa)) (hm : X.mg x = none) (hb : bootBuiltins x = some (.builtin id) := by decide +kernel) (hg : Gl X x := by rfl) (hn : x ≠ "__name__" := by decide) (hdb : (x == ("__debug__" : Str)) = false := by decide)
    (hs : starEach [a] X.env = [(false, eval a X.env)] := by rfl) : PE X (.Call (.Name x p) [a] [] pos) (TOv X.K (o1 g fa)) :=
  (pe_callB hc hg hm hb (pa_one ha hs) hn hdb hs rfl).wk fun σ H Q h => downO1 hv σ H Q h
theorem k_callTy1 {g : PyData → Option PyData} (hc : CallR X (.type id) r) (hv : V1 X.K (fun v => r [v]) g) (ha : PE X a (TEv X.K fa)) (hm : X.mg x = none) (hb : bootBuiltins x = some (.type id) := by decide +kernel) (hg : Gl X x := by rfl) (hn : x ≠ "__name__" := by decide) (hdb : (x == ("__debug__" : Str)) = false := by decide)
    (hs : starEach [a] X.env = [(false, eval a X.env)] := by rfl) : PE X (.Call (.Name x p) [a] [] pos) (TEv X.K (e1 g fa)) :=
  (pe_callTy hc hg hm hb (pa_one ha hs) hn hdb hs rfl).wk fun σ H Q h => down1 hv σ H Q h
theorem k_callTyO1 {g : PyData → Option (List PyData)} (hc : CallR X (.type id) r) (hv : W1 X.K (fun v => r [v]) g) (ha : PE X a (TEv X.K fa)) (hm : X.mg x = none) (hb : bootBuiltins x = some (.type id) := by decide +kernel) (hg : Gl X x := by rfl) (hn : x ≠ "__name__" := by decide) (hdb : (x == ("__debug__" : Str)) = false := by decide)
    (hs : starEach [a] X.env = [(false, eval a X.env)] := by rfl) : PE X (.Call (.Name x p) [a] [] pos) (TOv X.K (o1 g fa)) :=
  (pe_callTy hc hg hm hb (pa_one ha hs) hn hdb hs rfl).wk fun σ H Q h => downO1 hv σ H Q h
end
/-! displays -/
def LIM : Nat := 16000000
theorem lim_line {n : Nat} (h : n ≤ LIM) : n ≤ sizeLine := Nat.le_trans h (by rw [sizeLine_eq]; decide)
theorem lim_lt {n : Nat} (h : n ≤ LIM) : n < sizeLine := Nat.lt_of_le_of_lt h (by rw [sizeLine_eq]; decide)
def eTup (f : FA) : FE := fun st => (f st).bind fun p => (shares p.2 p.1).bind fun q => if q.1.length ≤ LIM then some (.val (.tuple q.1), q.2) else none
/-- a new tuple is laid -/
theorem _root_.L2.Inv.tupF {X : Cx} {pins : List (Addr × Obj)} {σ : L2.St} {H : Hp} {s : Shared} {xs : List V} {its : List Value} {t' : Nat} (I : Inv X pins σ H s) (r : Vals xs its) (hz : xs.length ≤ sizeLine) :
    Inv X pins σ (upd H s.heap.objs.size (.frz { cls := .type "tuple", data := .seq its.toArray } (.tup xs))) { s with heap := s.heap.push { cls := .type "tuple", data := .seq its.toArray }, toks := t' } :=
  I.laid (fun _ _ q => Heap.get?_push_of_some _ q) (Nat.le_refl _) ⟨Heap.get?_push_size _ rfl, hz, its, r, IsTup.new _ _⟩
abbrev NewT (H : Hp) (Q : VK) (xs : List V) : Prop := ∀ (p : Addr) (o : Obj), o.dict = none → H p = none → Q (.ref p) (upd H p (.frz o (.tup xs)))
def tTupF (t : TA) : TE := fun σ H Q => t σ H fun xs H1 => xs.length ≤ sizeLine ∧ NewT H1 Q xs
theorem pe_tupF {es : List Expr} {k : Nat} {pos : Pos} {t : TA} (h : PA X es t) : PE X (.Tuple es k pos) (tTupF t) :=
  ⟨fun pins s σ H Q I hq => wpAny_Tuple_spliced (thn (h.run pos pins s σ H _ I hq) fun us s1 ⟨xs, H1, I1, r, z, q⟩ =>
    ⟨by rw [← r.length]; exact z, .ref s1.heap.objs.size, _, I1.tupF (t' := s1.toks) r z, rfl, q _ _ rfl (I1.hok.fresh (Nat.le_refl _))⟩)⟩
theorem newT {K : Frag} {H : Hp} {O : Addr → Prop} {Q : VK} {vs : List V} {ds : List PyData} (hO : ∀ b, O b → H b ≠ none) (rd : RDs K (hid H O) vs ds) (q : ∀ v H', Same H H' → RD K (hid H' O) v (.tuple ds) → Q v H') : NewT H Q vs := fun p o d hp => by
  have s := same_upd (o := .frz o (.tup vs)) hp
  exact q _ _ s (.tup (.inl ⟨o, d, hid_upd hO hp⟩) (rd.up (hid_grow s)))
theorem k_tup {es : List Expr} {k : Nat} {pos : Pos} {f : FA} (h : PA X es (TAv X.K f)) : PE X (.Tuple es k pos) (TEv X.K (eTup f)) :=
  (pe_tupF h).wk fun σ H Q ⟨Z, L, st, r, st', I, e, q⟩ => by
    obtain ⟨⟨rs, s1⟩, e1, e⟩ := Option.bind_eq_some_iff.mp e
    obtain ⟨⟨ds, s2⟩, e2, e⟩ := Option.bind_eq_some_iff.mp e
    dsimp only at e
    split at e
    · rename_i hl
      cases e
      refine ⟨Z, L, st, rs, s1, I, e1, fun vs H1 L1 I1 S1 rvs => ?_⟩
      obtain ⟨L2, I2, S2, rd⟩ := I1.shares rvs e2
      exact ⟨lim_line (by rw [rd.len]; exact hl), newT (fun b h => I2.hin h) rd fun v H' s rt => q v H' L2 (I2.grow s) (S1.trans (S2.trans (.grow s))) rt⟩
    · cases e
def oLst (f : FA) : FO := fun st => (f st).bind fun p => (shares p.2 p.1).bind fun q => if q.1.length ≤ LIM then some (.ol false q.1, q.2) else none
theorem k_lst {es : List Expr} {pos : Pos} {f : FA} (h : PA X es (TAv X.K f)) : PE X (.List es pos) (TOv X.K (oLst f)) :=
  (pe_lst h).wk fun σ H Q ⟨Z, L, st, r, st', I, e, q⟩ => by
    obtain ⟨⟨rs, s1⟩, e1, e⟩ := Option.bind_eq_some_iff.mp e
    obtain ⟨⟨ds, s2⟩, e2, e⟩ := Option.bind_eq_some_iff.mp e
    dsimp only at e
    split at e
    · rename_i hl
      cases e
      refine ⟨Z, L, st, rs, s1, I, e1, fun vs H1 L1 I1 S1 rvs => ?_⟩
      obtain ⟨L2, I2, S2, rd⟩ := I1.shares rvs e2
      refine ⟨lim_line (by rw [rd.len]; exact hl), ?_⟩
      intro p hp
      have z2 := (endL (P := fun O => RDs X.K (hid H1 O) vs ds) I2 rd fun w H' L' T I' S' rw' => q w H' L' T I' (S1.trans (S2.trans S')) rw')
      obtain ⟨O', hO', rd', z2⟩ := z2
      exact z2 p vs hp rd'
    · cases e
end
end Pv

namespace Pv
open PySem PySem.Spec PyProof.Rows L2
/-! ### data that may be compared: no dict, not deep -/
def okD : Nat → PyData → Bool
  | _, .none => true
  | _, .bool _ => true
  | _, .int _ => true
  | _, .str s => strOkB s
  | 0, .list _ => false
  | 0, .tuple _ => false
  | n + 1, .list xs => xs.all (okD n)
  | n + 1, .tuple xs => xs.all (okD n)
  | _, .dict _ => false
where strOkB (s : Str) : Bool := PyData.canLay0 (.str s)
theorem okD_all {n : Nat} (ih : ∀ d, okD n d = true → PyData.canLay0 d = true ∧ PyData.depth d ≤ n) : ∀ xs : List PyData, xs.all (okD n) = true → PyData.canLayAll0 xs = true ∧ PyData.depthAll xs ≤ n
  | [], _ => ⟨by simp only [PyData.canLayAll0], by simp [PyData.depthAll]⟩
  | x :: xs, h => by
    rw [List.all_cons, Bool.and_eq_true] at h
    obtain ⟨a1, a2⟩ := ih x h.1
    obtain ⟨b1, b2⟩ := okD_all ih xs h.2
    refine ⟨by simp only [PyData.canLayAll0, a1, b1, Bool.and_self], ?_⟩
    simp only [PyData.depthAll]
    omega
theorem okD_ok : ∀ (n : Nat) (d : PyData), okD n d = true → PyData.canLay0 d = true ∧ PyData.depth d ≤ n
  | n, .none, _ => ⟨by simp only [PyData.canLay0], by simp [PyData.depth]⟩
  | n, .bool _, _ => ⟨by simp only [PyData.canLay0], by simp [PyData.depth]⟩
  | n, .int _, _ => ⟨by simp only [PyData.canLay0], by simp [PyData.depth]⟩
  | n, .str s, h => ⟨by simpa only [okD, okD.strOkB] using h, by simp [PyData.depth]⟩
  | 0, .list xs, h => by simp [okD] at h
  | 0, .tuple xs, h => by simp [okD] at h
  | n + 1, .list xs, h => by
    have h' : xs.all (okD n) = true := by simpa only [okD] using h
    obtain ⟨a, b⟩ := okD_all (okD_ok n) xs h'
    exact ⟨by simpa only [PyData.canLay0] using a, by simp only [PyData.depth]; omega⟩
  | n + 1, .tuple xs, h => by
    have h' : xs.all (okD n) = true := by simpa only [okD] using h
    obtain ⟨a, b⟩ := okD_all (okD_ok n) xs h'
    exact ⟨by simpa only [PyData.canLay0] using a, by simp only [PyData.depth]; omega⟩
  | n, .dict _, h => by
    cases n <;> simp [okD] at h
abbrev okE (d : PyData) : Bool := okD 20 d
theorem okE_shaped {d : PyData} (h : okE d = true) : SeqAt.shaped d = true := by
  obtain ⟨a, b⟩ := okD_ok 20 d h
  unfold SeqAt.shaped
  rw [a, Bool.true_and]
  exact decide_eq_true (by omega)
mutual
theorem RD.dp {K : Frag} {H : Hp} : ∀ (d : PyData) (v : V), PyData.canLay0 d = true → RD K H v d → Dp K H v d
  | .none, _, _, h => by cases h; exact .non
  | .bool b, _, _, h => by cases h; exact .bl b
  | .int i, _, _, h => by cases h; exact .int i
  | .str x, _, _, h => by cases h; exact .str x
  | .list ds, _, c, h => by
    cases h with
    | lst hs ha => exact .lst hs.sq (RDs.dp ds _ (by simpa only [PyData.canLay0] using c) ha)
  | .tuple ds, _, c, h => by
    cases h with
    | tup hs ha => exact .tup hs.sq (RDs.dp ds _ (by simpa only [PyData.canLay0] using c) ha)
  | .dict ds, _, c, h => by simp [PyData.canLay0] at c
theorem RDs.dp {K : Frag} {H : Hp} : ∀ (ds : List PyData) (vs : List V), PyData.canLayAll0 ds = true → RDs K H vs ds → DpAll K H vs ds
  | [], _, _, h => by cases h; exact .nil
  | d :: ds, _, c, h => by
    cases h with
    | cons h1 h2 =>
      have c' : PyData.canLay0 d = true ∧ PyData.canLayAll0 ds = true := by simpa only [PyData.canLayAll0, Bool.and_eq_true] using c
      exact .cons (RD.dp d _ c'.1 h1) (RDs.dp ds _ c'.2 h2)
end
theorem RX.dp {K : Frag} {Hs H : Hp} {v : V} {d : PyData} (s : Same Hs H) (h : RX K Hs H v d) (c : okE d = true) : Dp K H v d := RD.dp d v (okD_ok _ _ c).1 (h.full s)
/-! ### ints, texts -/
def gAdd : PyData → PyData → Option PyData
  | .int i, .int j => some (.int (i + j))
  | .str x, .str y => if x.length + y.length ≤ LIM then some (.str (x ++ y)) else none
  | .tuple xs, .tuple ys => if xs.length + ys.length ≤ LIM then some (.tuple (xs ++ ys)) else none
  | .list xs, .list ys => if xs.length + ys.length ≤ LIM then some (.list (xs ++ ys)) else none
  | _, _ => none
def gSub : PyData → PyData → Option PyData
  | .int i, .int j => some (.int (i - j))
  | _, _ => none
def gMul : PyData → PyData → Option PyData
  | .int i, .int j => if (-(2 ^ 64) < i ∧ i < 2 ^ 64) ∨ (-(2 ^ 64) < j ∧ j < 2 ^ 64) then some (.int (i * j)) else none
  | _, _ => none
def gFdiv : PyData → PyData → Option PyData
  | .int i, .int j => if 0 < j ∧ j < 1073741824 then some (.int (i / j)) else none
  | _, _ => none
def gMod : PyData → PyData → Option PyData
  | .int i, .int j => if 0 < j then some (.int (i % j)) else none
  | _, _ => none
def gNeg : PyData → Option PyData
  | .int i => some (.int (-i))
  | _ => none
def gLt : PyData → PyData → Option PyData
  | .int i, .int j => some (.bool (decide (i < j)))
  | _, _ => none
def gLe : PyData → PyData → Option PyData
  | .int i, .int j => some (.bool (decide (i ≤ j)))
  | _, _ => none
def gGt : PyData → PyData → Option PyData
  | .int i, .int j => some (.bool (decide (j < i)))
  | _, _ => none
def gGe : PyData → PyData → Option PyData
  | .int i, .int j => some (.bool (decide (j ≤ i)))
  | _, _ => none
def gEq (a b : PyData) : Option PyData := if okE a = true ∧ okE b = true then some (.bool (PyData.eqv a b)) else none
def gNe (a b : PyData) : Option PyData := if okE a = true ∧ okE b = true then some (.bool (!PyData.eqv a b)) else none
def gIn (a : PyData) : PyData → Option PyData
  | .list ds => if okE a = true ∧ okE (.list ds) = true then some (.bool (ds.any fun z => PyData.eqv z a)) else none
  | .tuple ds => if okE a = true ∧ okE (.tuple ds) = true then some (.bool (ds.any fun z => PyData.eqv z a)) else none
  | _ => none
def gNotIn (a : PyData) : PyData → Option PyData
  | .list ds => if okE a = true ∧ okE (.list ds) = true then some (.bool (!ds.any fun z => PyData.eqv z a)) else none
  | .tuple ds => if okE a = true ∧ okE (.tuple ds) = true then some (.bool (!ds.any fun z => PyData.eqv z a)) else none
  | _ => none
def isN : PyData → Bool
  | .none => true
  | _ => false
def gIsN (a b : PyData) : Option PyData := if isN b = true then some (.bool (isN a)) else none
def gNotN (a b : PyData) : Option PyData := if isN b = true then some (.bool (!isN a)) else none
theorem RX.int {K : Frag} {Hs H : Hp} {v : V} {i : Int} (h : RX K Hs H v (.int i)) : v = .int i := by
  have h : RD K Hs v (.int i) := h
  cases h; rfl
theorem RX.str {K : Frag} {Hs H : Hp} {v : V} {i : Str} (h : RX K Hs H v (.str i)) : v = .str i := by
  have h : RD K Hs v (.str i) := h
  cases h; rfl
theorem RX.bl {K : Frag} {Hs H : Hp} {v : V} {i : Bool} (h : RX K Hs H v (.bool i)) : v = .bl i := by
  have h : RD K Hs v (.bool i) := h
  cases h; rfl
theorem RX.non {K : Frag} {Hs H : Hp} {v : V} (h : RX K Hs H v .none) : v = .non := by
  have h : RD K Hs v .none := h
  cases h; rfl
theorem RX.tup {K : Frag} {Hs H : Hp} {v : V} {ds : List PyData} (h : RX K Hs H v (.tuple ds)) : ∃ a xs, v = .ref a ∧ Tp K Hs a xs ∧ RDs K Hs xs ds := by
  have h : RD K Hs v (.tuple ds) := h
  cases h with | tup a b => exact ⟨_, _, rfl, a, b⟩
section
variable {K : Frag} {H : Hp} {Q : VK}
theorem endI {d : PyData} {v : V} {P : (Addr → Prop) → Prop} (h : EndV K H Q d P) (r : ∀ H', RD K H' v d) : Q v H := by
  obtain ⟨O, _, _, q⟩ := h
  exact q v H (fun _ _ e => e) (r _)
/-- two parts that are ints, and a value that stands by itself -/
theorem v2_ii {r : R2} {g : PyData → PyData → Option PyData} {F : Int → Int → V} (hr : ∀ (i j : Int) (H : Hp) (Q : VK), Q (F i j) H → r (.int i) (.int j) H Q)
    (hg : ∀ a b d, g a b = some d → ∃ i j, a = .int i ∧ b = .int j ∧ ∀ H, RD K H (F i j) d) : V2 K r g := fun H x y a b d Q e h => by
  obtain ⟨i, j, rfl, rfl, rd⟩ := hg a b d e
  have q := endI h rd
  obtain ⟨O, _, ⟨h1, h2⟩, _⟩ := h
  cases h1.int
  cases h2.int
  exact hr i j H Q q
theorem v2_sub : V2 K (rI0 fun i j => .int (i - j)) gSub := v2_ii (F := fun i j => .int (i - j)) (fun i j H Q q => ⟨i, j, rfl, rfl, q⟩) fun a b d e => by
  cases a <;> cases b <;> first | (cases e; exact ⟨_, _, rfl, rfl, fun _ => .int _⟩) | cases e
theorem v2_lt : V2 K (rI0 fun i j => .bl (decide (i < j))) gLt := v2_ii (F := fun i j => .bl (decide (i < j))) (fun i j H Q q => ⟨i, j, rfl, rfl, q⟩) fun a b d e => by
  cases a <;> cases b <;> first | (cases e; exact ⟨_, _, rfl, rfl, fun _ => .bl _⟩) | cases e
theorem v2_le : V2 K (rI0 fun i j => .bl (decide (i ≤ j))) gLe := v2_ii (F := fun i j => .bl (decide (i ≤ j))) (fun i j H Q q => ⟨i, j, rfl, rfl, q⟩) fun a b d e => by
  cases a <;> cases b <;> first | (cases e; exact ⟨_, _, rfl, rfl, fun _ => .bl _⟩) | cases e
theorem v2_gt : V2 K (rI0 fun i j => .bl (decide (j < i))) gGt := v2_ii (F := fun i j => .bl (decide (j < i))) (fun i j H Q q => ⟨i, j, rfl, rfl, q⟩) fun a b d e => by
  cases a <;> cases b <;> first | (cases e; exact ⟨_, _, rfl, rfl, fun _ => .bl _⟩) | cases e
theorem v2_ge : V2 K (rI0 fun i j => .bl (decide (j ≤ i))) gGe := v2_ii (F := fun i j => .bl (decide (j ≤ i))) (fun i j H Q q => ⟨i, j, rfl, rfl, q⟩) fun a b d e => by
  cases a <;> cases b <;> first | (cases e; exact ⟨_, _, rfl, rfl, fun _ => .bl _⟩) | cases e
theorem v2_mul : V2 K (rI CMul fun i j => .int (i * j)) gMul := fun H x y a b d Q e h => by
  cases a <;> cases b <;> first
    | (cases e; done)
    | (rename_i i j
       simp only [gMul] at e
       split at e
       · rename_i c
         cases e
         have q := endI h fun _ => RD.int (i * j)
         obtain ⟨O, _, ⟨h1, h2⟩, _⟩ := h
         cases h1.int
         cases h2.int
         exact ⟨i, j, rfl, rfl, c, q⟩
       · cases e)
theorem v2_fdiv : V2 K (rI CDiv fun i j => .int (i / j)) gFdiv := fun H x y a b d Q e h => by
  cases a <;> cases b <;> first
    | (cases e; done)
    | (rename_i i j
       simp only [gFdiv] at e
       split at e
       · rename_i c
         cases e
         have q := endI h fun _ => RD.int (i / j)
         obtain ⟨O, _, ⟨h1, h2⟩, _⟩ := h
         cases h1.int
         cases h2.int
         exact ⟨i, j, rfl, rfl, c, q⟩
       · cases e)
theorem v2_mod : V2 K (rI (fun _ j => 0 < j) fun i j => .int (i % j)) gMod := fun H x y a b d Q e h => by
  cases a <;> cases b <;> first
    | (cases e; done)
    | (rename_i i j
       simp only [gMod] at e
       split at e
       · rename_i c
         cases e
         have q := endI h fun _ => RD.int (i % j)
         obtain ⟨O, _, ⟨h1, h2⟩, _⟩ := h
         cases h1.int
         cases h2.int
         exact ⟨i, j, rfl, rfl, c, q⟩
       · cases e)
theorem v1_neg : V1 K (rU fun i => .int (-i)) gNeg := fun H x a d Q e h => by
  cases a <;> first
    | (cases e; done)
    | (rename_i i
       have e : some (PyData.int (-i)) = some d := e
       cases e
       have q := endI h fun _ => RD.int (-i)
       obtain ⟨O, _, h1, _⟩ := h
       cases h1.int
       exact ⟨i, rfl, q⟩)
theorem v2_eq : V2 K (rEqD K) gEq := fun H x y a b d Q e h => by
  unfold gEq at e
  split at e
  · rename_i c
    cases e
    have q := endI h fun _ => RD.bl (PyData.eqv a b)
    obtain ⟨O, _, ⟨h1, h2⟩, _⟩ := h
    exact ⟨a, b, h1.dp hid_sub c.1, h2.dp hid_sub c.2, okE_shaped c.1, okE_shaped c.2, q⟩
  · cases e
theorem v2_ne : V2 K (rNeD K) gNe := fun H x y a b d Q e h => by
  unfold gNe at e
  split at e
  · rename_i c
    cases e
    have q := endI h fun _ => RD.bl (!PyData.eqv a b)
    obtain ⟨O, _, ⟨h1, h2⟩, _⟩ := h
    exact ⟨a, b, h1.dp hid_sub c.1, h2.dp hid_sub c.2, okE_shaped c.1, okE_shaped c.2, q⟩
  · cases e
end
/-! ### + of anything -/
def rCatS (K : Frag) : R2 := fun x y H Q => ∃ l b xs zs, x = .ref l ∧ y = .ref b ∧ Lp K H l xs ∧ Lp K H b zs ∧ xs.length + zs.length ≤ sizeLine ∧ ∀ p, H p = none → Q (.ref p) (upd H p (.lst (xs ++ zs)))
section
variable {X : Cx}
theorem op_catS : OpR X (binaryOp .Add) (rCatS X.K) := by
  intro pins s σ H x y v u Q I rx ry h
  obtain ⟨l, b, xs, zs, rfl, rfl, hl, hb, hz, q⟩ := h
  cases rx; cases ry
  obtain ⟨z1, its, n, r, g⟩ := hl.obj I
  obtain ⟨z2, its2, n2, r2, k⟩ := hb.obj I
  have e1 := r.length
  have e2 := r2.length
  refine PySem.P.add_list g k ?_ (by rw [List.size_toArray, List.size_toArray]; omega)
  rw [show its.toArray ++ its2.toArray = (its ++ its2).toArray by simp]
  exact ⟨.ref _, _, I.lnew (t' := s.toks) (r.append r2) (by rw [List.length_append]; omega), rfl, q _ I.fresh⟩
def rCatF (K : Frag) : R2 := fun x y H Q => ∃ a b xs ys, x = .ref a ∧ y = .ref b ∧ SqT K H a xs ∧ SqT K H b ys ∧ xs.length + ys.length ≤ sizeLine ∧
  (xs = [] → Q (.ref b) H) ∧ (xs ≠ [] → ys = [] → Q (.ref a) H) ∧ (xs ≠ [] → ys ≠ [] → NewT H Q (xs ++ ys))
theorem op_catF : OpR X (binaryOp .Add) (rCatF X.K) := by
  intro pins s σ H x y v u Q I rx ry ⟨a, b, xs, ys, ex, ey, ha, hb, hz, q0, q1, q2⟩
  subst ex ey
  cases rx; cases ry
  obtain ⟨its, r1, p1, _⟩ := I.tuple ha
  obtain ⟨its2, r2, p2, _⟩ := I.tuple hb
  by_cases hx : xs = []
  · subst hx
    cases r1
    exact cat_tup0 p1 p2 ⟨.ref b, H, I, rfl, q0 rfl⟩
  · refine HT.cat_tup p1 p2 (fun z => hx (r1.nil_iff.mp z)) (fun z => ⟨.ref a, H, I, rfl, q1 hx (r2.nil_iff.mp z)⟩) (fun z => ?_) (by rw [← r1.length, ← r2.length]; exact hz)
    exact ⟨.ref _, _, I.tupF (t' := s.toks) (r1.append r2) (by rw [List.length_append]; exact hz), rfl, q2 hx (fun w => z (r2.nil_iff.mpr w)) _ _ rfl I.fresh⟩
def rAddAll (K : Frag) : R2 := fun x y H Q => (rI0 (fun i j => .int (i + j)) x y H Q ∨ (∃ i j, x = .str i ∧ y = .str j ∧ i.length + j.length ≤ sizeLine ∧ Q (.str (i ++ j)) H)) ∨ (rCatF K x y H Q ∨ rCatS K x y H Q)
theorem op_addAll : OpR X (binaryOp .Add) (rAddAll X.K) := (op_add.or op_add_str).or (op_catF.or op_catS)
end
theorem v2_add {K : Frag} : V2 K (rAddAll K) gAdd := fun H x y a b d Q e h => by
  cases a <;> cases b <;> first
    | (cases e; done)
    | skip
  · rename_i i j
    cases e
    have q := endI h fun _ => RD.int (i + j)
    obtain ⟨O, _, ⟨h1, h2⟩, _⟩ := h
    cases h1.int
    cases h2.int
    exact .inl (.inl ⟨i, j, rfl, rfl, q⟩)
  · rename_i i j
    simp only [gAdd] at e
    split at e
    · rename_i c
      cases e
      have q := endI h fun _ => RD.str (i ++ j)
      obtain ⟨O, _, ⟨h1, h2⟩, _⟩ := h
      cases h1.str
      cases h2.str
      exact .inl (.inr ⟨i, j, rfl, rfl, lim_line c, q⟩)
    · cases e
  · rename_i xs ys
    simp only [gAdd] at e
    split at e
    · rename_i c
      cases e
      obtain ⟨O, hO, ⟨h1, h2⟩, q⟩ := h
      obtain ⟨p, vs, rfl, g1, g2⟩ := h1
      obtain ⟨p2, ws, rfl, k1, k2⟩ := h2
      refine .inr (.inr ⟨p, p2, vs, ws, rfl, rfl, g1, k1, by rw [g2.len, k2.len]; exact lim_line c, fun t ht => ?_⟩)
      have s := same_upd (o := .lst (vs ++ ws)) ht
      exact q _ _ s (.lst (.inl (.inl (hid_upd hO ht))) ((g2.app k2).up (hid_grow s)))
    · cases e
  · rename_i xs ys
    simp only [gAdd] at e
    split at e
    · rename_i c
      cases e
      obtain ⟨O, hO, ⟨h1, h2⟩, q⟩ := h
      obtain ⟨p, vs, rfl, g1, g2⟩ := h1.tup
      obtain ⟨p2, ws, rfl, k1, k2⟩ := h2.tup
      refine .inr (.inl ⟨p, p2, vs, ws, rfl, rfl, sameSqT hid_sub g1.sq, sameSqT hid_sub k1.sq, by rw [g2.len, k2.len]; exact lim_line c, fun z => ?_, fun z1 z => ?_, fun _ _ => newT hO (g2.app k2) q⟩)
      · subst z
        cases g2
        exact q _ _ (fun _ _ e => e) (.tup k1 k2)
      · subst z
        cases k2
        rw [List.append_nil] at q
        exact q _ _ (fun _ _ e => e) (.tup g1 g2)
    · cases e
def gCat : PyData → PyData → Option (List PyData)
  | .list xs, .list ys => if xs.length + ys.length ≤ LIM then some (xs ++ ys) else none
  | _, _ => none
theorem w2_cat {K : Frag} : W2 K (rCatS K) gCat := fun H x y a b d Q e h => by
  cases a <;> cases b <;> first
    | (cases e; done)
    | (rename_i xs ys
       simp only [gCat] at e
       split at e
       · rename_i c
         cases e
         obtain ⟨O, hO, ⟨h1, h2⟩, q⟩ := h
         obtain ⟨p, vs, rfl, g1, g2⟩ := h1
         obtain ⟨p2, ws, rfl, k1, k2⟩ := h2
         exact ⟨p, p2, vs, ws, rfl, rfl, g1, k1, by rw [g2.len, k2.len]; exact lim_line c, fun t ht => q t _ ht (g2.app k2)⟩
       · cases e)
/-! ### in, is None -/
section
variable {X : Cx}
def rInT (K : Frag) : R2 := fun x y H Q => ∃ d ds, Dp K H x d ∧ Dp K H y (.tuple ds) ∧ SeqAt.shaped d = true ∧ SeqAt.shaped (.tuple ds) = true ∧ Q (.bl (ds.any fun z => PyData.eqv z d)) H
def rNotInT (K : Frag) : R2 := fun x y H Q => ∃ d ds, Dp K H x d ∧ Dp K H y (.tuple ds) ∧ SeqAt.shaped d = true ∧ SeqAt.shaped (.tuple ds) = true ∧ Q (.bl (!ds.any fun z => PyData.eqv z d)) H
theorem op_inT (hu : X.A.units + 65 < cLine) : OpR X (compareOp .In) (rInT X.K) := by
  intro pins s σ H x y v u Q I rx ry ⟨d, ds, hd, he, sd, se, q⟩
  obtain ⟨as, r1⟩ := Dp.reads I d x v hd rx
  obtain ⟨bs, r2⟩ := Dp.reads I _ y u he ry
  exact SeqAt.in_tuple_reads r2 r1 (SeqAt.canLay_of_shaped se) (SeqAt.canLay_of_shaped sd) (room_in_shaped sd hu) ⟨.bl _, H, I, rfl, q⟩
theorem op_notInT (hu : X.A.units + 65 < cLine) : OpR X (compareOp .NotIn) (rNotInT X.K) := by
  intro pins s σ H x y v u Q I rx ry ⟨d, ds, hd, he, sd, se, q⟩
  obtain ⟨as, r1⟩ := Dp.reads I d x v hd rx
  obtain ⟨bs, r2⟩ := Dp.reads I _ y u he ry
  exact SeqAt.notIn_tuple_reads r2 r1 (SeqAt.canLay_of_shaped se) (SeqAt.canLay_of_shaped sd) (room_in_shaped sd hu) ⟨.bl _, H, I, rfl, q⟩
def rInA (K : Frag) : R2 := fun x y H Q => rInD K x y H Q ∨ rInT K x y H Q
def rNotInA (K : Frag) : R2 := fun x y H Q => rNotInD K x y H Q ∨ rNotInT K x y H Q
theorem op_inA (hu : X.A.units + 65 < cLine) : OpR X (compareOp .In) (rInA X.K) := (op_inD hu).or (op_inT hu)
theorem op_notInA (hu : X.A.units + 65 < cLine) : OpR X (compareOp .NotIn) (rNotInA X.K) := (op_notInD hu).or (op_notInT hu)
end
theorem v2_in {K : Frag} : V2 K (rInA K) gIn := fun H x y a b d Q e h => by
  cases b <;> first
    | (cases e; done)
    | (rename_i ds
       simp only [gIn] at e
       split at e
       · rename_i c
         cases e
         have q := endI h fun _ => RD.bl (ds.any fun z => PyData.eqv z a)
         obtain ⟨O, _, ⟨h1, h2⟩, _⟩ := h
         first
           | exact .inl ⟨a, ds, h1.dp hid_sub c.1, h2.dp hid_sub c.2, okE_shaped c.1, okE_shaped c.2, q⟩
           | exact .inr ⟨a, ds, h1.dp hid_sub c.1, h2.dp hid_sub c.2, okE_shaped c.1, okE_shaped c.2, q⟩
       · cases e)
theorem v2_notIn {K : Frag} : V2 K (rNotInA K) gNotIn := fun H x y a b d Q e h => by
  cases b <;> first
    | (cases e; done)
    | (rename_i ds
       simp only [gNotIn] at e
       split at e
       · rename_i c
         cases e
         have q := endI h fun _ => RD.bl (!ds.any fun z => PyData.eqv z a)
         obtain ⟨O, _, ⟨h1, h2⟩, _⟩ := h
         first
           | exact .inl ⟨a, ds, h1.dp hid_sub c.1, h2.dp hid_sub c.2, okE_shaped c.1, okE_shaped c.2, q⟩
           | exact .inr ⟨a, ds, h1.dp hid_sub c.1, h2.dp hid_sub c.2, okE_shaped c.1, okE_shaped c.2, q⟩
       · cases e)
theorem RX.isN {K : Frag} {Hs H : Hp} {v : V} {d : PyData} (s : Same Hs H) (h : RX K Hs H v d) : decide (v = .non) = Pv.isN d := by
  have h := h.full s
  cases h <;> rfl
theorem v2_isN {K : Frag} : V2 K (fun x y H Q => y = .non ∧ Q (.bl (decide (x = .non))) H) gIsN := fun H x y a b d Q e h => by
  unfold gIsN at e
  split at e
  · rename_i c
    cases e
    have q := endI h fun _ => RD.bl (isN a)
    obtain ⟨O, _, ⟨h1, h2⟩, _⟩ := h
    refine ⟨?_, by rw [h1.isN hid_sub]; exact q⟩
    exact of_decide_eq_true ((h2.isN hid_sub).trans c)
  · cases e
theorem v2_notN {K : Frag} : V2 K (fun x y H Q => y = .non ∧ Q (.bl (!decide (x = .non))) H) gNotN := fun H x y a b d Q e h => by
  unfold gNotN at e
  split at e
  · rename_i c
    cases e
    have q := endI h fun _ => RD.bl (!isN a)
    obtain ⟨O, _, ⟨h1, h2⟩, _⟩ := h
    refine ⟨?_, by rw [h1.isN hid_sub]; exact q⟩
    exact of_decide_eq_true ((h2.isN hid_sub).trans c)
  · cases e
/-! ### xs[i], slices -/
def gIx : PyData → PyData → Option PyData
  | .list ds, .int i => atI ds i
  | .tuple ds, .int i => atI ds i
  | .str s, .int i => if s.length ≤ LIM then (atI s.cps.toList i).map fun c => .str ⟨#[c]⟩ else none
  | _, _ => none
theorem RDs.atI {K : Frag} {H : Hp} {vs : List V} {ds : List PyData} {i : Int} {d : PyData} (h : RDs K H vs ds) (e : L2.atI ds i = some d) : ∃ v, L2.atI vs i = some v ∧ RD K H v d := by
  unfold L2.atI at e ⊢
  rw [h.len]
  obtain ⟨j, e1, e2⟩ := Option.bind_eq_some_iff.mp e
  obtain ⟨v, h1, h2⟩ := h.get e2
  exact ⟨v, by rw [e1]; exact h1, h2⟩
theorem v2_ix {K : Frag} : V2 K (rIx K) gIx := fun H x y a b d Q e h => by
  cases a <;> cases b <;> first
    | (cases e; done)
    | skip
  · rename_i s i
    simp only [gIx] at e
    split at e
    · rename_i c
      obtain ⟨k, e1, e⟩ := Option.map_eq_some_iff.mp e
      subst e
      have q := endI h fun _ => RD.str ⟨#[k]⟩
      obtain ⟨O, _, ⟨h1, h2⟩, _⟩ := h
      cases h1.str
      cases h2.int
      exact .inr (.inr ⟨s, i, k, rfl, rfl, lim_line c, e1, q⟩)
    · cases e
  · rename_i ds i
    obtain ⟨O, hO, ⟨h1, h2⟩, q⟩ := h
    obtain ⟨p, vs, rfl, g1, g2⟩ := h1
    cases h2.int
    obtain ⟨v, e1, r⟩ := g2.atI e
    exact .inl ⟨p, vs, i, v, rfl, rfl, g1.sq, e1, q v H (fun _ _ e => e) r⟩
  · rename_i ds i
    obtain ⟨O, hO, ⟨h1, h2⟩, q⟩ := h
    obtain ⟨p, vs, rfl, g1, g2⟩ := h1.tup
    cases h2.int
    obtain ⟨v, e1, r⟩ := g2.atI e
    exact .inr (.inl ⟨p, vs, i, v, rfl, rfl, sameSqT hid_sub g1.sq, e1, q v H (fun _ _ e => e) r⟩)
/-- a piece of a list -/
def cut {α : Type} (xs : List α) (lo hi : Option Int) : List α := (xs.drop (HT.sIx xs.length 0 lo)).take (HT.sIx xs.length xs.length hi - HT.sIx xs.length 0 lo)
def gSl : PyData → Option Int → Option Int → Option PyData
  | .list ds, lo, hi => some (.list (cut ds lo hi))
  | .tuple ds, lo, hi => some (.tuple (cut ds lo hi))
  | _, _, _ => none
def gSlO : PyData → Option Int → Option Int → Option (List PyData)
  | .list ds, lo, hi => some (cut ds lo hi)
  | _, _, _ => none
def V3 (K : Frag) (r : V → Option Int → Option Int → Hp → VK → Prop) (g : PyData → Option Int → Option Int → Option PyData) : Prop := ∀ (H : Hp) (x : V) (a d : PyData) (lo hi : Option Int) (Q : VK), g a lo hi = some d → EndV K H Q d (fun O => RX K (hid H O) H x a) → r x lo hi H Q
def W3 (K : Frag) (r : V → Option Int → Option Int → Hp → VK → Prop) (g : PyData → Option Int → Option Int → Option (List PyData)) : Prop := ∀ (H : Hp) (x : V) (a : PyData) (d : List PyData) (lo hi : Option Int) (Q : VK), g a lo hi = some d → EndL K H Q d (fun O => RX K (hid H O) H x a) → r x lo hi H Q
theorem RDs.cut {K : Frag} {H : Hp} {vs : List V} {ds : List PyData} (h : RDs K H vs ds) (lo hi : Option Int) : RDs K H (cutV vs lo hi) (Pv.cut ds lo hi) := by
  unfold cutV Pv.cut
  rw [h.len]
  exact (h.drop _).take _
theorem cut_all {α : Type} {xs : List α} {lo hi : Option Int} (h : HT.sIx xs.length 0 lo = 0 ∧ HT.sIx xs.length xs.length hi = xs.length) : cut xs lo hi = xs := by
  unfold cut
  rw [h.1, h.2, Nat.sub_zero, List.drop_zero, List.take_length]
def rSlF (K : Frag) : V → Option Int → Option Int → Hp → VK → Prop := fun x lo hi H Q => ∃ a xs, x = .ref a ∧ SqT K H a xs ∧
  (HT.sIx xs.length 0 lo = 0 ∧ HT.sIx xs.length xs.length hi = xs.length → Q (.ref a) H) ∧ (¬ (HT.sIx xs.length 0 lo = 0 ∧ HT.sIx xs.length xs.length hi = xs.length) → NewT H Q (cutV xs lo hi))
theorem sl_tupF {X : Cx} : SlR X (rSlF X.K) := by
  intro pins s σ H x v vl vu lo hi sl Q I rx hs pl pu ⟨a, xs, ex, hx, q1, q2⟩
  subst ex
  cases rx
  obtain ⟨its, r, ht, hz⟩ := I.tuple hx
  have hlen : its.toArray.size = xs.length := by rw [List.size_toArray]; exact r.length.symm
  refine ⟨"tuple", _, PyProof.Rows.slot_tuple_getitem.lookup, ht.typeIs, ?_⟩
  by_cases hw : HT.sIx xs.length 0 lo = 0 ∧ HT.sIx xs.length xs.length hi = xs.length
  · exact getItem_tuple_whole ht hs pl pu (by rw [hlen]; exact hw) ⟨.ref a, H, I, rfl, q1 hw⟩
  · refine HT.getItem_tuple_cut ht hs pl pu (by rw [hlen]; exact hw) ?_ (by rw [hlen]; exact hz)
    rw [hlen]
    exact ⟨.ref _, _, I.tupF (xs := cutV xs lo hi) (t' := s.toks) ((r.drop (HT.sIx xs.length 0 lo)).take (HT.sIx xs.length xs.length hi - HT.sIx xs.length 0 lo)) (Nat.le_trans (cutV_length xs lo hi) hz), rfl, q2 hw _ _ rfl I.fresh⟩
def rSlAll (K : Frag) : V → Option Int → Option Int → Hp → VK → Prop := fun x lo hi H Q => rSlL K x lo hi H Q ∨ rSlF K x lo hi H Q
theorem sl_all {X : Cx} : SlR X (rSlAll X.K) := sl_list.or sl_tupF
theorem v3_sl {K : Frag} : V3 K (rSlAll K) gSl := fun H x a d lo hi Q e h => by
  cases a <;> first
    | (cases e; done)
    | skip
  · rename_i ds
    cases e
    obtain ⟨O, hO, h1, q⟩ := h
    obtain ⟨p, vs, rfl, g1, g2⟩ := h1
    refine .inl ⟨p, vs, rfl, g1.sq, fun t ht => ?_⟩
    have s := same_upd (o := .lst (cutV vs lo hi)) ht
    exact q _ _ s (.lst (.inl (.inl (hid_upd hO ht))) ((g2.cut lo hi).up (hid_grow s)))
  · rename_i ds
    cases e
    obtain ⟨O, hO, h1, q⟩ := h
    obtain ⟨p, vs, rfl, g1, g2⟩ := h1.tup
    refine .inr ⟨p, vs, rfl, sameSqT hid_sub g1.sq, fun z => ?_, fun _ => newT hO (g2.cut lo hi) q⟩
    rw [g2.len] at z
    rw [cut_all z] at q
    exact q _ _ (fun _ _ e => e) (.tup g1 g2)
theorem w3_sl {K : Frag} : W3 K (rSlL K) gSlO := fun H x a d lo hi Q e h => by
  cases a <;> first
    | (cases e; done)
    | skip
  rename_i ds
  cases e
  obtain ⟨O, hO, h1, q⟩ := h
  obtain ⟨p, vs, rfl, g1, g2⟩ := h1
  exact ⟨p, vs, rfl, g1.sq, fun t ht => q t _ ht (g2.cut lo hi)⟩
def fpNone : FP := fun st => some (none, st)
def fpSome (f : FE) : FP := fun st => (f st).bind fun p => (dat p.2 p.1).bind fun a => match a with
  | .int i => some (some i, p.2)
  | _ => none
def e3 (g : PyData → Option Int → Option Int → Option PyData) (f : FE) (fl fh : FP) : FE := fun st => (f st).bind fun p => (fl p.2).bind fun l => (fh l.2).bind fun h => (dat h.2 p.1).bind fun a => (g a l.1 h.1).bind fun d => some (.val d, h.2)
def o3 (g : PyData → Option Int → Option Int → Option (List PyData)) (f : FE) (fl fh : FP) : FO := fun st => (f st).bind fun p => (fl p.2).bind fun l => (fh l.2).bind fun h => (dat h.2 p.1).bind fun a => (g a l.1 h.1).bind fun d => some (.ol false d, h.2)
section
variable {X : Cx}
theorem k_pnone : PO X none (TPv X.K fpNone) := po_none.wk fun σ H Q ⟨Z, L, st, o, st', I, e, q⟩ => by cases e; exact q H L I (.refl _ _)
theorem k_psome {e : Expr} {f : FE} (h : PE X e (TEv X.K f)) : PO X (some e) (TPv X.K (fpSome f)) :=
  (po_some h).wk fun σ H Q ⟨Z, L, st, o, st', I, e, q⟩ => by
    obtain ⟨⟨r, s1⟩, e1, e⟩ := Option.bind_eq_some_iff.mp e
    obtain ⟨a, e2, e⟩ := Option.bind_eq_some_iff.mp e
    cases a <;> first | (cases e; done) | skip
    rename_i i
    cases e
    refine ⟨Z, L, st, r, s1, I, e1, fun v H1 L1 I1 S1 rv => ⟨i, (I1.rx rv e2).int, q H1 L1 I1 S1⟩⟩
theorem k_sl {e : Expr} {lo hi : Option Expr} {p2 pos : Pos} {f : FE} {fl fh : FP} {r : V → Option Int → Option Int → Hp → VK → Prop} {g : PyData → Option Int → Option Int → Option PyData} (hr : SlR X r) (hv : V3 X.K r g)
    (he : PE X e (TEv X.K f)) (hl : PO X lo (TPv X.K fl)) (hu : PO X hi (TPv X.K fh)) : PE X (.Subscript e (.Slice lo hi none p2) pos) (TEv X.K (e3 g f fl fh)) :=
  (pe_slice hr he hl hu).wk fun σ H Q ⟨Z, L, st, rr, st', I, e, q⟩ => by
    obtain ⟨⟨ra, s1⟩, e1, e⟩ := Option.bind_eq_some_iff.mp e
    obtain ⟨⟨ol, s2⟩, e2, e⟩ := Option.bind_eq_some_iff.mp e
    obtain ⟨⟨oh, s3⟩, e3, e⟩ := Option.bind_eq_some_iff.mp e
    obtain ⟨a, e4, e⟩ := Option.bind_eq_some_iff.mp e
    obtain ⟨d, e5, e⟩ := Option.bind_eq_some_iff.mp e
    cases e
    exact ⟨Z, L, st, ra, s1, I, e1, fun v H1 L1 I1 S1 rv => ⟨Z, L1, s1, ol, s2, I1, e2, fun H2 L2 I2 S2 => ⟨Z, L2, s2, oh, s3, I2, e3, fun H3 L3 I3 S3 =>
      hv H3 v a d ol oh Q e5 (endV I3 (I3.rx (rv.later (S2.trans S3)) e4) fun u H' L' I' S' ru => q u H' L' I' (S1.trans (S2.trans (S3.trans S'))) ru)⟩⟩⟩
theorem k_slO {e : Expr} {lo hi : Option Expr} {p2 pos : Pos} {f : FE} {fl fh : FP} {r : V → Option Int → Option Int → Hp → VK → Prop} {g : PyData → Option Int → Option Int → Option (List PyData)} (hr : SlR X r) (hv : W3 X.K r g)
    (he : PE X e (TEv X.K f)) (hl : PO X lo (TPv X.K fl)) (hu : PO X hi (TPv X.K fh)) : PE X (.Subscript e (.Slice lo hi none p2) pos) (TOv X.K (o3 g f fl fh)) :=
  (pe_slice hr he hl hu).wk fun σ H Q ⟨Z, L, st, rr, st', I, e, q⟩ => by
    obtain ⟨⟨ra, s1⟩, e1, e⟩ := Option.bind_eq_some_iff.mp e
    obtain ⟨⟨ol, s2⟩, e2, e⟩ := Option.bind_eq_some_iff.mp e
    obtain ⟨⟨oh, s3⟩, e3, e⟩ := Option.bind_eq_some_iff.mp e
    obtain ⟨a, e4, e⟩ := Option.bind_eq_some_iff.mp e
    obtain ⟨d, e5, e⟩ := Option.bind_eq_some_iff.mp e
    cases e
    exact ⟨Z, L, st, ra, s1, I, e1, fun v H1 L1 I1 S1 rv => ⟨Z, L1, s1, ol, s2, I1, e2, fun H2 L2 I2 S2 => ⟨Z, L2, s2, oh, s3, I2, e3, fun H3 L3 I3 S3 =>
      hv H3 v a d ol oh Q e5 (endL I3 (I3.rx (rv.later (S2.trans S3)) e4) fun u H' L' T I' S' ru => q u H' L' T I' (S1.trans (S2.trans (S3.trans S'))) ru)⟩⟩⟩
end
end Pv

namespace Pv
open PySem PySem.Spec PyProof.Rows L2
/-! ### tests -/
def truD : PyData → Option Bool
  | .none => some false
  | .bool b => some b
  | .int i => some (i != 0)
  | .str x => if x.length ≤ LIM then some ((x.length : Int) != 0) else none
  | .list ds => some (!ds.isEmpty)
  | .tuple ds => some (!ds.isEmpty)
  | .dict _ => none
def tBl (f : FE) : FT := fun st => (f st).bind fun p => (dat p.2 p.1).bind fun a => match a with
  | .bool b => some (b, p.2)
  | _ => none
def tTr (f : FE) : FT := fun st => (f st).bind fun p => (dat p.2 p.1).bind fun a => (truD a).bind fun b => some (b, p.2)
def tAn (f g : FT) : FT := fun st => (f st).bind fun p => if p.1 = true then g p.2 else some (false, p.2)
def tOr' (f g : FT) : FT := fun st => (f st).bind fun p => if p.1 = true then some (true, p.2) else g p.2
def tNo (f : FT) : FT := fun st => (f st).bind fun p => some (!p.1, p.2)
def eIf (t : FT) (f g : FE) : FE := fun st => (t st).bind fun p => if p.1 = true then f p.2 else g p.2
def oIf (t : FT) (f g : FO) : FO := fun st => (t st).bind fun p => if p.1 = true then f p.2 else g p.2
def eAn (f g : FE) : FE := fun st => (f st).bind fun p => (dat p.2 p.1).bind fun a => match a with
  | .bool b => if b = true then g p.2 else some (.val (.bool false), p.2)
  | _ => none
def eOr (f g : FE) : FE := fun st => (f st).bind fun p => (dat p.2 p.1).bind fun a => match a with
  | .bool b => if b = true then some (.val (.bool true), p.2) else g p.2
  | _ => none
def eNo (f : FE) : FE := fun st => (f st).bind fun p => (dat p.2 p.1).bind fun a => match a with
  | .bool b => some (.val (.bool (!b)), p.2)
  | _ => none
theorem RDs.isEmpty {K : Frag} {H : Hp} {vs : List V} {ds : List PyData} (h : RDs K H vs ds) : vs.isEmpty = ds.isEmpty := by
  cases h <;> rfl
theorem RX.tru {K : Frag} {Hs H : Hp} {v : V} {d : PyData} {b : Bool} (s : Same Hs H) (h : RX K Hs H v d) (e : truD d = some b) : TruV K v H b := by
  have h := h.full s
  cases h with
  | non => cases e; rfl
  | bl b => cases e; rfl
  | int i => cases e; rfl
  | str x =>
    simp only [truD] at e
    split at e
    · rename_i c; cases e; exact ⟨lim_line c, rfl⟩
    · cases e
  | lst a r => cases e; exact .inl ⟨_, a.sq, by rw [r.isEmpty]⟩
  | tup a r => cases e; exact .inr (.inl ⟨_, a.sq, by rw [r.isEmpty]⟩)
  | dctK a r => cases e
  | dctN a n r => cases e
section
variable {X : Cx}
theorem bl_at {K : Frag} {Z : Zt} {L : Nat → List Addr} {σ : L2.St} {H : Hp} {st : Sx} {v : V} {r : R} {b : Bool} (I : Rel K Z L [] σ H st) (h : Rv K Z L σ H v r) (e : dat st r = some (.bool b)) : v = .bl b := (I.rx h e).bl
theorem k_tbl {e : Expr} {f : FE} (h : PE X e (TEv X.K f)) (he : PT X e (tB (TEv X.K f))) : PT X e (TTv X.K (tBl f)) :=
  he.wk fun σ H Q ⟨Z, L, st, b, st', I, e, q⟩ => by
    obtain ⟨⟨r, s1⟩, e1, e⟩ := Option.bind_eq_some_iff.mp e
    obtain ⟨a, e2, e⟩ := Option.bind_eq_some_iff.mp e
    cases a <;> first | (cases e; done) | skip
    cases e
    exact ⟨Z, L, st, r, s1, I, e1, fun v H' L' I' S' rv => ⟨_, bl_at I' rv e2, q H' L' I' S'⟩⟩
theorem k_tcmp {op : CmpOp} {a b : Expr} {fa fb : FE} {pos : Pos} {r : R2} {g : PyData → PyData → Option PyData} (ho : OpR X (compareOp op) r) (hv : V2 X.K r g) (ha : PE X a (TEv X.K fa)) (hb : PE X b (TEv X.K fb)) (hm : behindInMarks op b = false := by rfl) : PT X (.Compare a [op] [b] pos) (TTv X.K (tBl (e2 g fa fb))) :=
  (pt_cmpR ho ha hb hm).wk fun σ H Q ⟨Z, L, st, b, st', I, e, q⟩ => by
    obtain ⟨⟨r, s1⟩, e1, e⟩ := Option.bind_eq_some_iff.mp e
    obtain ⟨a, e2, e⟩ := Option.bind_eq_some_iff.mp e
    cases a <;> first | (cases e; done) | skip
    cases e
    exact down2 hv σ H _ ⟨Z, L, st, r, s1, I, e1, fun v H' L' I' S' rv => ⟨_, bl_at I' rv e2, q H' L' I' S'⟩⟩
theorem k_ttr {e : Expr} {f : FE} (h : PE X e (TEv X.K f)) (he : ∀ whole, isTrue e X.env whole = (do let v ← whole; standAt e.pos; holding [v] (truthy v)) := by intro _; rfl) : PT X e (TTv X.K (tTr f)) :=
  (pt_truth h he).wk fun σ H Q ⟨Z, L, st, b, st', I, e, q⟩ => by
    obtain ⟨⟨r, s1⟩, e1, e⟩ := Option.bind_eq_some_iff.mp e
    obtain ⟨a, e2, e⟩ := Option.bind_eq_some_iff.mp e
    obtain ⟨b', e3, e⟩ := Option.bind_eq_some_iff.mp e
    cases e
    exact ⟨Z, L, st, r, s1, I, e1, fun v H' L' I' S' rv => ⟨_, (I'.rx rv e2).tru hid_sub e3, q H' L' I' S'⟩⟩
theorem k_tno {e : Expr} {pos : Pos} {f : FT} (h : PT X e (TTv X.K f)) : PT X (.UnaryOp .Not e pos) (TTv X.K (tNo f)) :=
  (pt_not h).wk fun σ H Q ⟨Z, L, st, b, st', I, e, q⟩ => by
    obtain ⟨⟨c, s1⟩, e1, e⟩ := Option.bind_eq_some_iff.mp e
    cases e
    exact ⟨Z, L, st, c, s1, I, e1, q⟩
theorem k_wan1 {a : Expr} {pos : Pos} {f : FT} (h : PT X a (TTv X.K f)) : PW X (.BoolOp .And [a] pos) (TTv X.K f) := pw_and1 h
theorem k_wor1 {a : Expr} {pos : Pos} {f : FT} (h : PT X a (TTv X.K f)) : PW X (.BoolOp .Or [a] pos) (TTv X.K f) := pw_or1 h
theorem k_wan {a b : Expr} {rest : List Expr} {pos : Pos} {f g : FT} (ha : PT X a (TTv X.K f)) (hb : PW X (.BoolOp .And (b :: rest) pos) (TTv X.K g)) : PW X (.BoolOp .And (a :: b :: rest) pos) (TTv X.K (tAn f g)) :=
  (pw_and ha hb).wk fun σ H Q ⟨Z, L, st, b, st', I, e, q⟩ => by
    obtain ⟨⟨c, s1⟩, e1, e⟩ := Option.bind_eq_some_iff.mp e
    refine ⟨Z, L, st, c, s1, I, e1, fun H' L' I' S' => ?_⟩
    cases c with
    | true => exact iteT ⟨Z, L', s1, b, st', I', e, fun H2 L2 I2 S2 => q H2 L2 I2 (S'.trans S2)⟩
    | false => cases e; exact iteF (q H' L' I' S')
theorem k_wor {a b : Expr} {rest : List Expr} {pos : Pos} {f g : FT} (ha : PT X a (TTv X.K f)) (hb : PW X (.BoolOp .Or (b :: rest) pos) (TTv X.K g)) : PW X (.BoolOp .Or (a :: b :: rest) pos) (TTv X.K (tOr' f g)) :=
  (pw_or ha hb).wk fun σ H Q ⟨Z, L, st, b, st', I, e, q⟩ => by
    obtain ⟨⟨c, s1⟩, e1, e⟩ := Option.bind_eq_some_iff.mp e
    refine ⟨Z, L, st, c, s1, I, e1, fun H' L' I' S' => ?_⟩
    cases c with
    | false => exact iteF ⟨Z, L', s1, b, st', I', e, fun H2 L2 I2 S2 => q H2 L2 I2 (S'.trans S2)⟩
    | true => cases e; exact iteT (q H' L' I' S')
theorem k_if {c a b : Expr} {pos : Pos} {t : FT} {f g : FE} (hc : PT X c (TTv X.K t)) (ha : PE X a (TEv X.K f)) (hb : PE X b (TEv X.K g)) : PE X (.IfExp c a b pos) (TEv X.K (eIf t f g)) :=
  (pe_ifExp hc ha hb).wk fun σ H Q ⟨Z, L, st, r, st', I, e, q⟩ => by
    obtain ⟨⟨c, s1⟩, e1, e⟩ := Option.bind_eq_some_iff.mp e
    refine ⟨Z, L, st, c, s1, I, e1, fun H' L' I' S' => ?_⟩
    cases c with
    | true => exact iteT ⟨Z, L', s1, r, st', I', e, fun v H2 L2 I2 S2 rv => q v H2 L2 I2 (S'.trans S2) rv⟩
    | false => exact iteF ⟨Z, L', s1, r, st', I', e, fun v H2 L2 I2 S2 rv => q v H2 L2 I2 (S'.trans S2) rv⟩
theorem k_ifO {c a b : Expr} {pos : Pos} {t : FT} {f g : FO} (hc : PT X c (TTv X.K t)) (ha : PE X a (TOv X.K f)) (hb : PE X b (TOv X.K g)) : PE X (.IfExp c a b pos) (TOv X.K (oIf t f g)) :=
  (pe_ifExp hc ha hb).wk fun σ H Q ⟨Z, L, st, r, st', I, e, q⟩ => by
    obtain ⟨⟨c, s1⟩, e1, e⟩ := Option.bind_eq_some_iff.mp e
    refine ⟨Z, L, st, c, s1, I, e1, fun H' L' I' S' => ?_⟩
    cases c with
    | true => exact iteT ⟨Z, L', s1, r, st', I', e, fun v H2 L2 T I2 S2 rv => q v H2 L2 T I2 (S'.trans S2) rv⟩
    | false => exact iteF ⟨Z, L', s1, r, st', I', e, fun v H2 L2 T I2 S2 rv => q v H2 L2 T I2 (S'.trans S2) rv⟩
theorem k_one {op : BoolOp} {a : Expr} {pos : Pos} {f : FE} (h : PE X a (TEv X.K f)) : PE X (.BoolOp op [a] pos) (TEv X.K f) := pe_one h
theorem k_an {a b : Expr} {rest : List Expr} {pos : Pos} {f g : FE} (ha : PE X a (TEv X.K f)) (hb : PE X (.BoolOp .And (b :: rest) pos) (TEv X.K g)) : PE X (.BoolOp .And (a :: b :: rest) pos) (TEv X.K (eAn f g)) :=
  (pe_and ha hb).wk fun σ H Q ⟨Z, L, st, b, st', I, e, q⟩ => by
    obtain ⟨⟨r, s1⟩, e1, e⟩ := Option.bind_eq_some_iff.mp e
    obtain ⟨a, e2, e⟩ := Option.bind_eq_some_iff.mp e
    cases a <;> first | (cases e; done) | skip
    rename_i c
    refine ⟨Z, L, st, r, s1, I, e1, fun v H' L' I' S' rv => ⟨c, bl_at I' rv e2, ?_⟩⟩
    cases c with
    | true => exact iteT ⟨Z, L', s1, _, st', I', e, fun v H2 L2 I2 S2 rv => q v H2 L2 I2 (S'.trans S2) rv⟩
    | false => cases e; exact iteF (q _ H' L' I' S' (.bl false))
theorem k_or {a b : Expr} {rest : List Expr} {pos : Pos} {f g : FE} (ha : PE X a (TEv X.K f)) (hb : PE X (.BoolOp .Or (b :: rest) pos) (TEv X.K g)) : PE X (.BoolOp .Or (a :: b :: rest) pos) (TEv X.K (eOr f g)) :=
  (pe_or ha hb).wk fun σ H Q ⟨Z, L, st, b, st', I, e, q⟩ => by
    obtain ⟨⟨r, s1⟩, e1, e⟩ := Option.bind_eq_some_iff.mp e
    obtain ⟨a, e2, e⟩ := Option.bind_eq_some_iff.mp e
    cases a <;> first | (cases e; done) | skip
    rename_i c
    refine ⟨Z, L, st, r, s1, I, e1, fun v H' L' I' S' rv => ⟨c, bl_at I' rv e2, ?_⟩⟩
    cases c with
    | false => exact iteF ⟨Z, L', s1, _, st', I', e, fun v H2 L2 I2 S2 rv => q v H2 L2 I2 (S'.trans S2) rv⟩
    | true => cases e; exact iteT (q _ H' L' I' S' (.bl true))
theorem k_no {a : Expr} {pos : Pos} {f : FE} (ha : PE X a (TEv X.K f)) : PE X (.UnaryOp .Not a pos) (TEv X.K (eNo f)) :=
  (pe_not ha).wk fun σ H Q ⟨Z, L, st, b, st', I, e, q⟩ => by
    obtain ⟨⟨r, s1⟩, e1, e⟩ := Option.bind_eq_some_iff.mp e
    obtain ⟨a, e2, e⟩ := Option.bind_eq_some_iff.mp e
    cases a <;> first | (cases e; done) | skip
    rename_i c
    cases e
    exact ⟨Z, L, st, r, s1, I, e1, fun v H' L' I' S' rv => ⟨c, bl_at I' rv e2, q _ H' L' I' S' (.bl _)⟩⟩
end
/-! ### statements -/
inductive Out where
  | next
  | brk
  | cont
  | ret (m : M)
abbrev FS := Sx → Option (Out × Sx)
def Fin (K : Frag) (Z : Zt) (D : Ends) (L : Nat → List Addr) (H : Hp) : Out → Sx → Prop
  | .next, st' => ∀ σ' H' L', Rel K Z L' [] σ' H' st' → Step (Own L []) H (Own L' []) H' → D.nx σ' H'
  | .brk, st' => ∀ σ' H' L', Rel K Z L' [] σ' H' st' → Step (Own L []) H (Own L' []) H' → D.bk σ' H'
  | .cont, st' => ∀ σ' H' L', Rel K Z L' [] σ' H' st' → Step (Own L []) H (Own L' []) H' → D.ct σ' H'
  | .ret m, st' => ∀ v σ' H' L' T, Rel K Z L' T σ' H' st' → Step (Own L []) H (Own L' T) H' → RM K (hid H' (Hid Z L' T)) H' v m T → D.rt v H'
def TSv (K : Frag) (f : FS) : TS := fun D σ H => ∃ Z L st o st', Rel K Z L [] σ H st ∧ f st = some (o, st') ∧ Fin K Z D L H o st'
theorem Fin.later {K : Frag} {Z : Zt} {D : Ends} {L L1 : Nat → List Addr} {H H1 : Hp} {o : Out} {st' : Sx} (f : Fin K Z D L H o st') (s : Step (Own L []) H (Own L1 []) H1) : Fin K Z D L1 H1 o st' := by
  cases o with
  | next => exact fun σ' H' L' I S => f σ' H' L' I (s.trans S)
  | brk => exact fun σ' H' L' I S => f σ' H' L' I (s.trans S)
  | cont => exact fun σ' H' L' I S => f σ' H' L' I (s.trans S)
  | ret m => exact fun v σ' H' L' T I S => f v σ' H' L' T I (s.trans S)
theorem Fin.imp {K : Frag} {Z : Zt} {D D' : Ends} {L : Nat → List Addr} {H : Hp} {o : Out} {st' : Sx} (f : Fin K Z D L H o st') (h1 : ∀ σ H, D.nx σ H → D'.nx σ H) (h2 : ∀ σ H, D.bk σ H → D'.bk σ H) (h3 : ∀ σ H, D.ct σ H → D'.ct σ H) (h4 : ∀ v H, D.rt v H → D'.rt v H) : Fin K Z D' L H o st' := by
  cases o with
  | next => exact fun σ' H' L' I S => h1 _ _ (f σ' H' L' I S)
  | brk => exact fun σ' H' L' I S => h2 _ _ (f σ' H' L' I S)
  | cont => exact fun σ' H' L' I S => h3 _ _ (f σ' H' L' I S)
  | ret m => exact fun v σ' H' L' T I S r => h4 _ _ (f v σ' H' L' T I S r)
def bNil : FS := fun st => some (.next, st)
def bCons (f g : FS) : FS := fun st => (f st).bind fun p => match p.1 with
  | .next => g p.2
  | _ => some p
def sPass : FS := fun st => some (.next, st)
def sBrk : FS := fun st => some (.brk, st)
def sCont : FS := fun st => some (.cont, st)
def sExpr (f : FE) : FS := fun st => (f st).bind fun p => some (.next, p.2)
def sRet (f : FO) : FS := fun st => (f st).bind fun p => some (.ret p.1, p.2)
def sRetN : FS := fun st => some (.ret (.sh .none), st)
def sIf (t : FT) (f g : FS) : FS := fun st => (t st).bind fun p => if p.1 = true then f p.2 else g p.2
def sNev : FS := fun _ => none
def sSet (i : Nat) (f : FO) : FS := fun st => (f st).bind fun p => if open1 p.2 i = true then some (.next, p.2.set i (some p.1)) else none
section
variable {X : Cx}
theorem k_bnil : PSs X [] (TSv X.K bNil) := pss_nil.wk fun D σ H ⟨Z, L, st, o, st', I, e, q⟩ => by cases e; exact q σ H L I (.refl _ _)
theorem k_bcons {s : Stmt} {rest : List Stmt} {f g : FS} (h1 : PS X s (TSv X.K f)) (h2 : PSs X rest (TSv X.K g)) : PSs X (s :: rest) (TSv X.K (bCons f g)) :=
  (pss_cons h1 h2).wk fun D σ H ⟨Z, L, st, o, st', I, e, q⟩ => by
    obtain ⟨⟨o1, s1⟩, e1, e⟩ := Option.bind_eq_some_iff.mp e
    refine ⟨Z, L, st, o1, s1, I, e1, ?_⟩
    cases o1 with
    | next => exact fun σ' H' L' I' S' => ⟨Z, L', s1, o, st', I', e, q.later S'⟩
    | brk => cases e; exact q
    | cont => cases e; exact q
    | ret m => cases e; exact q
theorem k_pass {pos : Pos} : PS X (.Pass pos) (TSv X.K sPass) := ps_pass.wk fun D σ H ⟨Z, L, st, o, st', I, e, q⟩ => by cases e; exact q σ H L I (.refl _ _)
theorem k_brk {pos : Pos} : PS X (.Break pos) (TSv X.K sBrk) := ps_break.wk fun D σ H ⟨Z, L, st, o, st', I, e, q⟩ => by cases e; exact q σ H L I (.refl _ _)
theorem k_cont {pos : Pos} : PS X (.Continue pos) (TSv X.K sCont) := ps_continue.wk fun D σ H ⟨Z, L, st, o, st', I, e, q⟩ => by cases e; exact q σ H L I (.refl _ _)
theorem k_never {s : Stmt} : PS X s (TSv X.K sNev) := ps_never.wk fun D σ H ⟨Z, L, st, o, st', I, e, q⟩ => by cases e
theorem k_expr {e : Expr} {pos : Pos} {f : FE} (h : PE X e (TEv X.K f)) (hs : swapsWith e none pos.line X.env = pure false := by rfl) : PS X (.Expr e pos) (TSv X.K (sExpr f)) :=
  (ps_expr h hs).wk fun D σ H ⟨Z, L, st, o, st', I, e, q⟩ => by
    obtain ⟨⟨r, s1⟩, e1, e⟩ := Option.bind_eq_some_iff.mp e
    cases e
    exact ⟨Z, L, st, r, s1, I, e1, fun v H' L' I' S' rv => q σ H' L' I' S'⟩
theorem k_ret {e : Expr} {pos : Pos} {f : FO} (h : PE X e (TOv X.K f)) : PS X (.Return (some e) pos) (TSv X.K (sRet f)) :=
  (ps_ret h).wk fun D σ H ⟨Z, L, st, o, st', I, e, q⟩ => by
    obtain ⟨⟨r, s1⟩, e1, e⟩ := Option.bind_eq_some_iff.mp e
    cases e
    exact ⟨Z, L, st, r, s1, I, e1, fun v H' L' T I' S' rv => q v σ H' L' T I' S' rv⟩
theorem k_retN {pos : Pos} : PS X (.Return none pos) (TSv X.K sRetN) := ps_retN.wk fun D σ H ⟨Z, L, st, o, st', I, e, q⟩ => by cases e; exact q _ σ H L [] I (.refl _ _) ⟨.non, rfl⟩
theorem k_sif {c : Expr} {a b : List Stmt} {pos : Pos} {t : FT} {f g : FS} (hc : PT X c (TTv X.K t)) (ha : PSs X a (TSv X.K f)) (hb : PSs X b (TSv X.K g)) : PS X (.If c a b pos) (TSv X.K (sIf t f g)) :=
  (ps_if hc ha hb).wk fun D σ H ⟨Z, L, st, o, st', I, e, q⟩ => by
    obtain ⟨⟨c, s1⟩, e1, e⟩ := Option.bind_eq_some_iff.mp e
    refine ⟨Z, L, st, c, s1, I, e1, fun H' L' I' S' => ?_⟩
    cases c with
    | true => exact iteT ⟨Z, L', s1, o, st', I', e, q.later S'⟩
    | false => exact iteF ⟨Z, L', s1, o, st', I', e, q.later S'⟩
theorem setOf {s : Stmt} {t : TE} {i : Nat} {f : FO} (h : PS X s (tAsg t (gName i))) (w : ∀ σ H Q, TOv X.K f σ H Q → t σ H Q) : PS X s (TSv X.K (sSet i f)) :=
  h.wk fun D σ H ⟨Z, L, st, o, st', I, e, q⟩ => by
    obtain ⟨⟨m, s1⟩, e1, e⟩ := Option.bind_eq_some_iff.mp e
    dsimp only at e
    split at e
    · rename_i c
      cases e
      exact w _ _ _ ⟨Z, L, st, m, s1, I, e1, fun v H' L' T I' S' rm => q _ H' _ (I'.put c rm) (S'.put i)⟩
    · cases e
theorem k_set {i : Nat} {x : Str} {e : Expr} {pos pos' : Pos} {f : FO} (hN : X.N.Nodup) (hx : Loc X.env.scope x) (he : PE X e (TOv X.K f)) (hi : X.N[i]? = some x := by rfl) (hs : swapsWith e (some (.Name x pos')) pos.line X.env = pure false := by rfl) (hf : X.fn x = true ∨ X.env.scope.names.lookup x = some .local := by first | exact .inl rfl | exact .inr rfl | assumption) :
    PS X (.Assign [.Name x pos'] e pos) (TSv X.K (sSet i f)) := setOf (ps_set hN hi hx he hs hf) fun _ _ _ h => h
end
/-! ### targets -/
abbrev FG := PyData → Sx → Option Sx
abbrev FGs := List PyData → Sx → Option Sx
def TGv (K : Frag) (h : FG) : TG := fun v σ H Q => ∃ Z L st d st', Rel K Z L [] σ H st ∧ RD K (hid H (Hid Z L [])) v d ∧ h d st = some st' ∧ ∀ σ' H' L', Rel K Z L' [] σ' H' st' → Step (Own L []) H (Own L' []) H' → Q σ' H'
def TGsv (K : Frag) (h : FGs) : TGs := fun vs σ H Q => ∃ Z L st ds st', Rel K Z L [] σ H st ∧ RDs K (hid H (Hid Z L [])) vs ds ∧ h ds st = some st' ∧ ∀ σ' H' L', Rel K Z L' [] σ' H' st' → Step (Own L []) H (Own L' []) H' → Q σ' H'
theorem _root_.L2.PG.wk {X : Cx} {e : Expr} {t t' : TG} (h : PG X e t) (w : ∀ v σ H Q, t' v σ H Q → t v σ H Q) : PG X e t' := ⟨fun pins s σ H v u Q I r q => h.run pins s σ H v u Q I r (w v σ H Q q)⟩
theorem _root_.L2.PGs.wk {X : Cx} {e : List Expr} {t t' : TGs} (h : PGs X e t) (w : ∀ v σ H Q, t' v σ H Q → t v σ H Q) : PGs X e t' := ⟨fun pins s σ H v u Q I r q => h.run pins s σ H v u Q I r (w v σ H Q q)⟩
def gNm (i : Nat) : FG := fun d st => if open1 st i = true then some (st.set i (some (.sh d))) else none
def gTNil : FGs := fun ds st => if ds.isEmpty = true then some st else none
def gTCons (f : FG) (g : FGs) : FGs := fun ds st => match ds with
  | d :: r => (f d st).bind fun s1 => g r s1
  | [] => none
def gTp (n : Nat) (g : FGs) : FG := fun d st => match d with
  | .tuple ds => if ds.length = n then g ds st else none
  | _ => none
/-- the name holds something -/
def has (st : Sx) (j : Nat) : Bool := match st[j]? with
  | some (some _) => true
  | _ => false
theorem Rel.has {K : Frag} {Z : Zt} {L : Nat → List Addr} {T : List Addr} {σ : L2.St} {H : Hp} {st : Sx} {j : Nat} (I : Rel K Z L T σ H st) (h : Pv.has st j = true) : ∃ v, σ[j]? = some (some v) := by
  unfold Pv.has at h
  cases q : st[j]? with
  | none => simp [q] at h
  | some o =>
    cases o with
    | none => simp [q] at h
    | some m => obtain ⟨v, h1, _⟩ := I.slot j m q; exact ⟨v, h1⟩
def gAt (j : Nat) (f : FE) : FG := fun d st => if Pv.has st j = true then (f st).bind fun p => (dat p.2 p.1).bind fun a => match a, p.2[j]? with
  | .int k, some (some (.ol b ds)) => (ixN ds.length k).bind fun n => some (p.2.set j (some (.ol b (ds.set n d))))
  | _, _ => none
  else none
def sAsg (f : FO) (h : FG) : FS := fun st => (f st).bind fun p => match p.1 with
  | .sh d => (h d p.2).bind fun s => some (.next, s)
  | _ => none
section
variable {X : Cx}
theorem k_gnm {i : Nat} {x : Str} {pos : Pos} (hN : X.N.Nodup) (hx : Loc X.env.scope x) (hi : X.N[i]? = some x := by rfl) (hf : X.fn x = true ∨ X.env.scope.names.lookup x = some .local := by first | exact .inl rfl | exact .inr rfl | assumption) : PG X (.Name x pos) (TGv X.K (gNm i)) :=
  (pg_name hN hi hx hf).wk fun v σ H Q ⟨Z, L, st, d, st', I, rd, e, q⟩ => by
    unfold gNm at e
    split at e
    · rename_i c
      cases e
      exact q _ H _ (I.put (m := .sh d) c ⟨rd, rfl⟩) ((Step.refl _ _).put i)
    · cases e
theorem k_gnil : PGs X [] (TGsv X.K gTNil) := pgs_nil.wk fun vs σ H Q ⟨Z, L, st, ds, st', I, rd, e, q⟩ => by
  unfold gTNil at e
  split at e
  · rename_i c
    cases e
    have : ds = [] := List.isEmpty_iff.mp c
    subst this
    cases rd
    exact ⟨rfl, q σ H L I (.refl _ _)⟩
  · cases e
theorem k_gcons {e : Expr} {es : List Expr} {f : FG} {g : FGs} (h1 : PG X e (TGv X.K f)) (h2 : PGs X es (TGsv X.K g)) (hs : (assignEach (e :: es) X.env).map (·.2) = assign e X.env :: (assignEach es X.env).map (·.2) := by rfl) : PGs X (e :: es) (TGsv X.K (gTCons f g)) :=
  (pgs_cons h1 h2 hs).wk fun vs σ H Q ⟨Z, L, st, ds, st', I, rd, e, q⟩ => by
    cases ds with
    | nil => cases e
    | cons d r =>
      obtain ⟨s1, e1, e⟩ := Option.bind_eq_some_iff.mp e
      cases rd with
      | cons rd rds =>
        exact ⟨_, _, rfl, Z, L, st, d, s1, I, rd, e1, fun σ' H' L' I' S' => ⟨Z, L', s1, r, st', I', rds.up S'.see, e, fun σ2 H2 L2 I2 S2 => q σ2 H2 L2 I2 (S'.trans S2)⟩⟩
theorem k_gtp {es : List Expr} {k n : Nat} {pos : Pos} {g : FGs} (hc : X.calm = true) (h : PGs X es (TGsv X.K g)) (hn : (assignEach es X.env).length = n := by rfl) (hst : (assignEach es X.env).findIdx? (·.1) = none := by rfl) : PG X (.Tuple es k pos) (TGv X.K (gTp n g)) :=
  (pg_tup hc h hn hst).wk fun v σ H Q ⟨Z, L, st, d, st', I, rd, e, q⟩ => by
    cases d <;> first | (cases e; done) | skip
    rename_i ds
    simp only [gTp] at e
    split at e
    · rename_i c
      cases rd with
      | tup a r => exact ⟨_, _, rfl, sameSqT hid_sub a.sq, by rw [r.len]; exact c, Z, L, st, ds, st', I, r, e, q⟩
    · cases e
theorem hid_keep {H : Hp} {O : Addr → Prop} {p : Addr} {o : HO} (h : O p) : Same (hid H O) (hid (upd H p o) O) := fun b x e => by
  obtain ⟨n, e⟩ := hid_some.mp e
  exact hid_some.mpr ⟨n, by rw [upd_ne (fun z => n (by rw [z]; exact h))]; exact e⟩
/-- a name's list is changed -/
theorem Rel.lst {K : Frag} {Z : Zt} {L : Nat → List Addr} {σ : L2.St} {H : Hp} {st : Sx} {j : Nat} {b : Bool} {ds ds' : List PyData} {v : V} (I : Rel K Z L [] σ H st) (hm : st[j]? = some (some (.ol b ds))) (hv : σ[j]? = some (some v)) :
    ∃ p vs, v = .ref p ∧ H p = some (.lst vs) ∧ RDs K (hid H (Hid Z L [])) vs ds ∧ ∀ vs', RDs K (hid H (Hid Z L [])) vs' ds' → Rel K Z L [] σ (upd H p (.lst vs')) (st.set j (some (.ol b ds'))) ∧ Step (Own L []) H (Own L []) (upd H p (.lst vs')) := by
  obtain ⟨v', h1, p, vs, h2, h3, h4, h5⟩ := I.slot j _ hm
  have ev : v' = v := by rw [h1] at hv; cases hv; rfl
  subst ev
  refine ⟨p, vs, h2, h3, h4, fun vs' r => ?_⟩
  have k : ∀ c o, c ∉ L j → H c = some o → (upd H p (.lst vs')) c = some o := fun c o n e => by
    rw [upd_ne (fun z => n (by rw [z, h5]; simp))]; exact e
  have hp : Hid Z L [] p := .inr (.inl ⟨j, by rw [h5]; simp⟩)
  exact ⟨I.change hm h1 k ⟨p, vs', h2, upd_same, r.up (hid_keep hp), h5⟩ rfl, Step.change k⟩
theorem k_gat {j : Nat} {x : Str} {pp pos : Pos} {i : Expr} {f : FE} (hi : PE X i (TEv X.K f)) (hN : X.N[j]? = some x := by rfl) (hv : Vis X.env.scope x := by first | exact Or.inl rfl | exact Or.inr (Or.inl rfl) | exact Or.inr (Or.inr rfl)) (hd : (x == ("__debug__" : Str)) = false := by decide) (hcd : (x == ("__classdict__" : Str)) = false := by decide)
    (ha : ∀ v, assign (.Subscript (.Name x pp) i pos) X.env v = (do
      let ov ← holding [v] (eval (.Name x pp) X.env)
      let iv ← holding [v, ov] (eval i X.env)
      standAt pos
      holding [v, ov, iv] (setItem ov iv v)
      release [v, ov, iv] []) := by intro _; rfl) : PG X (.Subscript (.Name x pp) i pos) (TGv X.K (gAt j f)) :=
  (pg_sub (pe_var hN hv hd hcd) hi set_list ha).wk fun v σ H Q ⟨Z, L, st, d, st', I, rd, e, q⟩ => by
    unfold gAt at e
    split at e
    · rename_i c
      obtain ⟨w, hw⟩ := I.has c
      obtain ⟨⟨r, s1⟩, e1, e⟩ := Option.bind_eq_some_iff.mp e
      obtain ⟨a, e2, e⟩ := Option.bind_eq_some_iff.mp e
      cases a <;> first | (cases e; done) | skip
      rename_i k
      cases hj : s1[j]? with
      | none => simp only [hj] at e; cases e
      | some o =>
        cases o with
        | none => simp only [hj] at e; cases e
        | some m =>
          cases m <;> simp only [hj] at e <;> first | (cases e; done) | skip
          rename_i b ds
          obtain ⟨n, e3, e⟩ := Option.bind_eq_some_iff.mp e
          cases e
          refine ⟨w, hw, Z, L, st, r, s1, I, e1, fun u H1 L1 I1 S1 ru => ?_⟩
          obtain ⟨p, vs, g1, g2, g3, g4⟩ := I1.lst (ds' := ds.set n d) hj hw
          obtain ⟨I2, S2⟩ := g4 (vs.set n v) (RDs.set (rd.up S1.see) n g3)
          exact ⟨p, vs, k, n, g1, (I1.rx ru e2).int, g2, by rw [g3.len]; exact e3, q σ _ L1 I2 (S1.trans S2)⟩
    · cases e
theorem asgOf {s : Stmt} {t : TE} {f : FO} {h : FG} (hs : PS X s (tAsg t (TGv X.K h))) (w : ∀ σ H Q, TOv X.K f σ H Q → t σ H Q) : PS X s (TSv X.K (sAsg f h)) :=
  hs.wk fun D σ H ⟨Z, L, st, o, st', I, e, q⟩ => by
    obtain ⟨⟨m, s1⟩, e1, e⟩ := Option.bind_eq_some_iff.mp e
    cases m <;> first | (cases e; done) | skip
    rename_i d
    obtain ⟨s2, e2, e⟩ := Option.bind_eq_some_iff.mp e
    cases e
    refine w _ _ _ ⟨Z, L, st, _, s1, I, e1, fun v H' L' T I' S' rm => ?_⟩
    obtain ⟨rd, rfl⟩ := rm
    exact ⟨Z, L', s1, d, _, I', rd, e2, fun σ2 H2 L2 I2 S2 => q σ2 H2 L2 I2 (S'.trans S2)⟩
theorem k_asg {tg e : Expr} {pos : Pos} {f : FE} {g : FG} (he : PE X e (TEv X.K f)) (hg : PG X tg (TGv X.K g)) (hs : swapsWithSole [tg] e pos.line X.env = pure false := by rfl) (hw : swappedStores [tg] e X.env = pure none := by rfl)
    (h1 : (assignEach [tg] X.env).map (·.2) = [assign tg X.env] := by rfl) : PS X (.Assign [tg] e pos) (TSv X.K (sAsg (oSh f) g)) :=
  asgOf (ps_asg (k_sh he) hg hs hw h1) fun _ _ _ h => h
/-! ### x op= e -/
def sAug (i : Nat) (g : PyData → PyData → Option PyData) (f : FE) : FS := fun st => if has st i = true then (f st).bind fun p => (dat p.2 (.var i)).bind fun a => (dat p.2 p.1).bind fun b => (g a b).bind fun d => if open1 p.2 i = true then some (.next, p.2.set i (some (.sh d))) else none
  else none
theorem k_aug {i : Nat} {x : Str} {e : Expr} {op : Operator} {pos pos' : Pos} {f : FE} {r : R2} {g : PyData → PyData → Option PyData} (hN : X.N.Nodup) (hx : Loc X.env.scope x) (ho : OpR X (inplaceOp op) r) (hv : V2 X.K r g) (he : PE X e (TEv X.K f)) (hi : X.N[i]? = some x := by rfl) (hf : X.fn x = true ∨ X.env.scope.names.lookup x = some .local := by first | exact .inl rfl | exact .inr rfl | assumption) :
    PS X (.AugAssign (.Name x pos') op e pos) (TSv X.K (sAug i g f)) :=
  (ps_aug hN hi hx he (show PIp X op r from fun pins s σ H x y v u Q I r1 r2 h => ho pins s σ H x y v u Q I r1 r2 h) hf).wk fun D σ H ⟨Z, L, st, o, st', I, e, q⟩ => by
    unfold sAug at e
    split at e
    · rename_i c
      obtain ⟨w, hw⟩ := I.has c
      obtain ⟨⟨r, s1⟩, e1, e⟩ := Option.bind_eq_some_iff.mp e
      obtain ⟨a, e2, e⟩ := Option.bind_eq_some_iff.mp e
      obtain ⟨b, e3, e⟩ := Option.bind_eq_some_iff.mp e
      obtain ⟨d, e4, e⟩ := Option.bind_eq_some_iff.mp e
      dsimp only at e
      split at e
      · rename_i c2
        cases e
        refine ⟨w, hw, Z, L, st, r, s1, I, e1, fun u H1 L1 I1 S1 ru => ?_⟩
        refine hv H1 w u a b d _ e4 (endV I1 ⟨I1.rx (r := .var i) hw e2, I1.rx ru e3⟩ fun v H' L' I' S' rv => ?_)
        exact q _ H' _ (I'.put (m := .sh d) c2 ⟨rv, rfl⟩) ((S1.trans S').put i)
      · cases e
    · cases e
end
end Pv

namespace Pv
open PySem PySem.Spec PyProof.Rows L2
/-! ### what is walked -/
abbrev FI := Sx → Option (List PyData × Sx)
def Yl (K : Frag) (J : It) (ds : List PyData) (S0 : Hp) : Prop := ∀ (S H : Hp), Same S0 S → Same S H →
  (∀ i, i < ds.length → J.go i H) ∧ (∀ i, i = ds.length → J.stop i H) ∧
  ∀ (i : Nat) (x : V) (H' : Hp) (d : PyData), ds[i]? = some d → J.yld i H x H' → Same H H' ∧ ∀ S', Same S S' → (∀ b o, H b = none → H' b = some o → S' b = some o) → RD K S' x d
def TIv (K : Frag) (f : FI) : TI := fun σ H R => ∃ Z L st ds st', Rel K Z L [] σ H st ∧ f st = some (ds, st') ∧ ∀ J H' L', Rel K Z L' [] σ H' st' → Step (Own L []) H (Own L' []) H' → Yl K J ds (hid H' (Hid Z L' [])) → R J H'
theorem _root_.L2.PI.wk {X : Cx} {tg e : Expr} {t t' : TI} (h : PI X tg e t) (w : ∀ σ H R, t' σ H R → t σ H R) : PI X tg e t' := ⟨fun pins s σ H R I q => h.run pins s σ H R I (w σ H R q)⟩
theorem yl_list {K : Frag} {S0 : Hp} {a : Addr} {xs : List V} {ds : List PyData} (h : Lp K S0 a xs) (r : RDs K S0 xs ds) : Yl K (Itl K a) ds S0 := fun S H s1 s2 => by
  have hq : SqL K H a xs := ((h.up s1).up s2).sq
  refine ⟨fun i hi => ?_, fun i hi => ⟨xs, hq, by rw [r.len]; exact Nat.le_of_eq hi.symm⟩, fun i x H' d hd ⟨e, y⟩ => ?_⟩
  · have hi' : i < xs.length := by rw [r.len]; exact hi
    exact ⟨xs, xs[i], hq, List.getElem?_eq_getElem hi'⟩
  · subst e
    obtain ⟨v, h1, h2⟩ := r.get hd
    have e2 := y xs hq
    rw [h1] at e2; cases e2
    exact ⟨fun _ _ e => e, fun S' s3 _ => h2.up (s1.trans s3)⟩
theorem yl_tup {K : Frag} {S0 : Hp} {a : Addr} {xs : List V} {ds : List PyData} (h : SqT K S0 a xs) (r : RDs K S0 xs ds) : Yl K (Itt K a) ds S0 := fun S H s1 s2 => by
  have hq : SqT K H a xs := sameSqT s2 (sameSqT s1 h)
  refine ⟨fun i hi => ?_, fun i hi => ⟨xs, hq, by rw [r.len]; exact Nat.le_of_eq hi.symm⟩, fun i x H' d hd ⟨e, y⟩ => ?_⟩
  · have hi' : i < xs.length := by rw [r.len]; exact hi
    exact ⟨xs, xs[i], hq, List.getElem?_eq_getElem hi'⟩
  · subst e
    obtain ⟨v, h1, h2⟩ := r.get hd
    have e2 := y xs hq
    rw [h1] at e2; cases e2
    exact ⟨fun _ _ e => e, fun S' s3 _ => h2.up (s1.trans s3)⟩
def rgD (lo : Int) (n : Nat) : List PyData := (List.range n).map fun i => .int (lo + (i : Nat))
theorem rgD_get {lo : Int} {n i : Nat} {d : PyData} (h : (rgD lo n)[i]? = some d) : d = .int (lo + (i : Nat)) := by
  unfold rgD at h
  rw [List.getElem?_map] at h
  by_cases hi : i < n
  · rw [List.getElem?_range hi] at h; cases h; rfl
  · rw [List.getElem?_eq_none (by rw [List.length_range]; omega)] at h; cases h
theorem rgD_len (lo : Int) (n : Nat) : (rgD lo n).length = n := by unfold rgD; rw [List.length_map, List.length_range]
theorem yl_range {K : Frag} {S0 : Hp} (lo : Int) (n : Nat) : Yl K (Itr lo n) (rgD lo n) S0 := fun S H s1 s2 => by
  refine ⟨fun i hi => by rw [rgD_len] at hi; exact hi, fun i hi => by rw [rgD_len] at hi; exact Nat.le_of_eq hi.symm, fun i x H' d hd ⟨e, y⟩ => ?_⟩
  subst e y
  rw [rgD_get hd]
  exact ⟨fun _ _ e => e, fun _ _ _ => .int _⟩
def iSeq (f : FE) : FI := fun st => (f st).bind fun p => (share p.2 p.1).bind fun q => match q.1 with
  | .list ds => some (ds, q.2)
  | .tuple ds => some (ds, q.2)
  | _ => none
def iRg1 (f : FE) : FI := fun st => (f st).bind fun p => (dat p.2 p.1).bind fun a => match a with
  | .int n => if -(2 ^ 62) ≤ n ∧ n < 2 ^ 62 then some (rgD 0 n.toNat, p.2) else none
  | _ => none
def iRg2 (f g : FE) : FI := fun st => (f st).bind fun p => (g p.2).bind fun q => (dat q.2 p.1).bind fun a => (dat q.2 q.1).bind fun b => match a, b with
  | .int m, .int n => if -(2 ^ 62) ≤ m ∧ m < 2 ^ 62 ∧ -(2 ^ 62) ≤ n ∧ n < 2 ^ 62 then some (rgD m (n - m).toNat, q.2) else none
  | _, _ => none
section
variable {X : Cx} {tg : Expr}
def iAny (K : Frag) (te : TE) : TI := fun σ H R => te σ H fun x H1 => (∃ a xs, x = .ref a ∧ SqL K H1 a xs ∧ R (Itl K a) H1) ∨ (∃ a xs, x = .ref a ∧ SqT K H1 a xs ∧ R (Itt K a) H1)
theorem pi_any {l : Expr} {tl : TE} (hl : PE X l tl) : PI X tg l (iAny X.K tl) := by
  refine ⟨fun pins s σ H R I h => thn (hl.run pins s σ H _ I h) fun v s1 ⟨x, H1, I1, r1, q1⟩ => ?_⟩
  rcases q1 with ⟨a, xs, e, hq, q⟩ | ⟨a, xs, e, hq, q⟩
  · subst e
    cases r1
    obtain ⟨its, rv, p, _⟩ := I1.list hq
    refine wpAny_pyIter_list p.isList ⟨s1.heap.objs.size, [s1.heap.objs.size], _, _, H1, rfl, I1.kept (t' := s1.toks) (fun b o e => Heap.get?_push_of_some _ e), turn_list a _, ⟨_, Heap.get?_push_size _ rfl, rfl, rfl⟩, fun b hb => ?_, q⟩
    rw [List.mem_singleton] at hb
    subst hb
    exact I1.fpOk (Nat.le_refl _) I1.fresh
  · subst e
    cases r1
    obtain ⟨its, rv, p, _⟩ := I1.tuple hq
    refine wpAny_pyIter_tuple (show s1.heap.IsTuple a its.toArray from p) ⟨s1.heap.objs.size, [s1.heap.objs.size], _, _, H1, rfl, I1.kept (t' := s1.toks) (fun b o e => Heap.get?_push_of_some _ e), turn_tuple a _, ⟨_, Heap.get?_push_size _ rfl, rfl, rfl⟩, fun b hb => ?_, q⟩
    rw [List.mem_singleton] at hb
    subst hb
    exact I1.fpOk (Nat.le_refl _) I1.fresh
theorem k_iseq {l : Expr} {f : FE} (h : PE X l (TEv X.K f)) : PI X tg l (TIv X.K (iSeq f)) :=
  (pi_any h).wk fun σ H R ⟨Z, L, st, ds, st', I, e, q⟩ => by
    obtain ⟨⟨r, s1⟩, e1, e⟩ := Option.bind_eq_some_iff.mp e
    obtain ⟨⟨d, s2⟩, e2, e⟩ := Option.bind_eq_some_iff.mp e
    refine ⟨Z, L, st, r, s1, I, e1, fun v H1 L1 I1 S1 rv => ?_⟩
    obtain ⟨L2, I2, S2, rd⟩ := I1.share rv e2
    cases d <;> first | (cases e; done) | skip
    · cases e
      cases rd with
      | lst a b => exact .inl ⟨_, _, rfl, (a.up hid_sub).sq, q _ H1 L2 I2 (S1.trans S2) (yl_list a b)⟩
    · cases e
      cases rd with
      | tup a b => exact .inr ⟨_, _, rfl, sameSqT hid_sub a.sq, q _ H1 L2 I2 (S1.trans S2) (yl_tup a.sq b)⟩
theorem k_irg1 {a : Expr} {f : FE} {p pos : Pos} (h : PE X a (TEv X.K f)) (hm : X.mg "range" = none) (hg : Gl X "range" := by rfl) (hs : starEach [a] X.env = [(false, eval a X.env)] := by rfl) : PI X tg (.Call (.Name "range" p) [a] [] pos) (TIv X.K (iRg1 f)) :=
  (pi_range1 hg hm (pa_one h hs) hs).wk fun σ H R ⟨Z, L, st, ds, st', I, e, q⟩ => by
    obtain ⟨⟨r, s1⟩, e1, e⟩ := Option.bind_eq_some_iff.mp e
    obtain ⟨a, e2, e⟩ := Option.bind_eq_some_iff.mp e
    cases a <;> first | (cases e; done) | skip
    rename_i n
    dsimp only at e
    split at e
    · rename_i c
      cases e
      refine ⟨Z, L, st, r, _, I, e1, fun v H1 L1 I1 S1 rv => ⟨n, ?_, c.1, c.2, q _ H1 L1 I1 S1 (yl_range 0 _)⟩⟩
      rw [(I1.rx rv e2).int]
    · cases e
theorem k_irg2 {a b : Expr} {f g : FE} {p pos : Pos} (h : PE X a (TEv X.K f)) (h2 : PE X b (TEv X.K g)) (hm : X.mg "range" = none) (hg : Gl X "range" := by rfl) (hs : starEach [a, b] X.env = [(false, eval a X.env), (false, eval b X.env)] := by rfl) (hs2 : starEach [b] X.env = [(false, eval b X.env)] := by rfl) : PI X tg (.Call (.Name "range" p) [a, b] [] pos) (TIv X.K (iRg2 f g)) :=
  (pi_range2 hg hm (pa_two h h2 (by rw [hs, hs2]) hs2) hs hs2).wk fun σ H R ⟨Z, L, st, ds, st', I, e, q⟩ => by
    obtain ⟨⟨r, s1⟩, e1, e⟩ := Option.bind_eq_some_iff.mp e
    obtain ⟨⟨r2, s2⟩, e2, e⟩ := Option.bind_eq_some_iff.mp e
    obtain ⟨a, e3, ea⟩ := Option.bind_eq_some_iff.mp e
    clear e
    obtain ⟨b, e4, e⟩ := Option.bind_eq_some_iff.mp ea
    clear ea
    cases a <;> cases b <;> first | (cases e; done) | skip
    rename_i m n
    dsimp only at e
    split at e
    · rename_i c
      cases e
      refine ⟨Z, L, st, r, s1, I, e1, fun v H1 L1 I1 S1 rv => ⟨Z, L1, s1, r2, _, I1, e2, fun w H2 L2 I2 S2 rw' => ⟨m, n, ?_, c, q _ H2 L2 I2 (S1.trans S2) (yl_range m _)⟩⟩⟩
      rw [(I2.rx (rv.later S2) e3).int, (I2.rx rw' e4).int]
    · cases e
end
/-! ### for, while -/
def runFor (h : FG) (body : FS) : List PyData → Sx → Option (Out × Sx)
  | [], st => some (.next, st)
  | d :: ds, st => (h d st).bind fun s1 => (body s1).bind fun p => match p.1 with
    | .next => runFor h body ds p.2
    | .cont => runFor h body ds p.2
    | .brk => some (.next, p.2)
    | .ret m => some (.ret m, p.2)
def sFor (fi : FI) (h : FG) (body : FS) : FS := fun st => (fi st).bind fun p => runFor h body p.1 p.2
def runWhile (t : FT) (body : FS) : Nat → Sx → Option (Out × Sx)
  | 0, _ => none
  | n + 1, st => (t st).bind fun p => if p.1 = true then (body p.2).bind fun q => match q.1 with
    | .next => runWhile t body n q.2
    | .cont => runWhile t body n q.2
    | .brk => some (.next, q.2)
    | .ret m => some (.ret m, q.2)
    else some (.next, p.2)
def WF : Nat := 1000000
def sWhile (t : FT) (body : FS) : FS := runWhile t body WF
section
variable {X : Cx}
theorem k_for {tg iter : Expr} {body : List Stmt} {pos : Pos} {fi : FI} {h : FG} {f : FS} (hp : PassesOwn (model X.prog X.w) X.A X.env X.xe) (hc : X.calm = true) (hi : PI X tg iter (TIv X.K fi)) (hg : PG X tg (TGv X.K h)) (hb : PSs X body (TSv X.K f))
    (hs : ∀ x, foldedSetIterable iter X.env x = pure x := by intro _; rfl) : PS X (.For tg iter body [] pos) (TSv X.K (sFor fi h f)) :=
  (ps_for hp hc hi hg hb hs).wk fun D σ H ⟨Z, L, st, o, st', I, e, q⟩ => by
    obtain ⟨⟨ds, s1⟩, e1, e⟩ := Option.bind_eq_some_iff.mp e
    refine ⟨Z, L, st, ds, s1, I, e1, fun J H1 L1 I1 S1 Y => ?_⟩
    refine ⟨fun i m σ' H' => m = ds.length - i ∧ i ≤ ds.length ∧ ∃ L' s', Rel X.K Z L' [] σ' H' s' ∧ Step (Own L1 []) H1 (Own L' []) H' ∧ runFor h f (ds.drop i) s' = some (o, st'), ⟨ds.length, by simp, Nat.zero_le _, L1, s1, I1, .refl _ _, e⟩, ?_⟩
    rintro i m σ' H' ⟨rfl, hi, L', s', I', S', e'⟩
    obtain ⟨y1, y2, y3⟩ := Y _ H' S'.see hid_sub
    by_cases hlt : i < ds.length
    · have hd : ds[i]? = some ds[i] := List.getElem?_eq_getElem hlt
      rw [List.drop_eq_getElem_cons hlt] at e'
      obtain ⟨s2, e2, e'⟩ := Option.bind_eq_some_iff.mp e'
      obtain ⟨⟨ob, s3⟩, e3, e'⟩ := Option.bind_eq_some_iff.mp e'
      refine .inr ⟨y1 i hlt, fun σ2 H2 => ∃ L2 s2, Rel X.K Z L2 [] σ2 H2 s2 ∧ Step (Own L1 []) H1 (Own L2 []) H2 ∧ runFor h f (ds.drop (i + 1)) s2 = some (o, st'), fun σ2 H2 ⟨L2, t2, I2, S2, r2⟩ => ⟨_, by omega, rfl, hlt, L2, t2, I2, S2, r2⟩, fun x H3 hy => ?_⟩
      obtain ⟨g1, g2⟩ := y3 i x H3 _ hd hy
      have rd := g2 (hid H3 (Hid Z L' [])) (hid_grow g1) fun b o hb ho => hid_some.mpr ⟨fun z => I'.hin z hb, ho⟩
      refine ⟨Z, L', s', ds[i], s2, I'.grow g1, rd, e2, fun σ4 H4 L4 I4 S4 => ⟨Z, L4, s2, ob, s3, I4, e3, ?_⟩⟩
      have SS : Step (Own L1 []) H1 (Own L4 []) H4 := S'.trans ((Step.grow g1).trans S4)
      cases ob with
      | next => exact fun σ5 H5 L5 I5 S5 => ⟨L5, s3, I5, SS.trans S5, e'⟩
      | cont => exact fun σ5 H5 L5 I5 S5 => ⟨L5, s3, I5, SS.trans S5, e'⟩
      | brk => cases e'; exact fun σ5 H5 L5 I5 S5 => q σ5 H5 L5 I5 (S1.trans (SS.trans S5))
      | ret m => cases e'; exact fun v σ5 H5 L5 T I5 S5 rm => q v σ5 H5 L5 T I5 (S1.trans (SS.trans S5)) rm
    · have ei : i = ds.length := by omega
      subst ei
      rw [List.drop_length] at e'
      cases e'
      exact .inl ⟨y2 _ rfl, q σ' H' L' I' (S1.trans S')⟩
theorem k_while {c : Expr} {body : List Stmt} {pos : Pos} {t : FT} {f : FS} (hp : PassesOwn (model X.prog X.w) X.A X.env X.xe) (hc : PT X c (TTv X.K t)) (hb : PSs X body (TSv X.K f)) : PS X (.While c body [] pos) (TSv X.K (sWhile t f)) :=
  (ps_while hp hc hb).wk fun D σ H ⟨Z, L, st, o, st', I, e, q⟩ => by
    refine ⟨fun m σ' H' => ∃ L' s', Rel X.K Z L' [] σ' H' s' ∧ Step (Own L []) H (Own L' []) H' ∧ runWhile t f m s' = some (o, st'), ⟨WF, L, st, I, .refl _ _, e⟩, ?_⟩
    rintro m σ' H' ⟨L', s', I', S', e'⟩
    cases m with
    | zero => cases e'
    | succ m =>
      obtain ⟨⟨b, s1⟩, e1, e'⟩ := Option.bind_eq_some_iff.mp e'
      refine ⟨Z, L', s', b, s1, I', e1, fun H1 L1 I1 S1 => ?_⟩
      cases b with
      | false => cases e'; exact iteF (q σ' H1 L1 I1 (S'.trans S1))
      | true =>
        obtain ⟨⟨ob, s3⟩, e3, e'⟩ := Option.bind_eq_some_iff.mp e'
        refine iteT ⟨fun σ2 H2 => ∃ L2 s2, Rel X.K Z L2 [] σ2 H2 s2 ∧ Step (Own L []) H (Own L2 []) H2 ∧ runWhile t f m s2 = some (o, st'), fun σ2 H2 h2 => ⟨m, Nat.lt_succ_self _, h2⟩, Z, L1, s1, ob, s3, I1, e3, ?_⟩
        have SS := S'.trans S1
        cases ob with
        | next => exact fun σ5 H5 L5 I5 S5 => ⟨L5, s3, I5, SS.trans S5, e'⟩
        | cont => exact fun σ5 H5 L5 I5 S5 => ⟨L5, s3, I5, SS.trans S5, e'⟩
        | brk => cases e'; exact fun σ5 H5 L5 I5 S5 => q σ5 H5 L5 I5 (SS.trans S5)
        | ret m => cases e'; exact fun v σ5 H5 L5 T I5 S5 rm => q v σ5 H5 L5 T I5 (SS.trans S5) rm
end
/-! ### comprehensions -/
def wipeS (st : Sx) : List Nat → Sx
  | [] => st
  | v :: vs => (wipeS st vs).set v none
def noOwn (st : Sx) (v : Nat) : Bool := match st[v]? with
  | some (some (.sh _)) => true
  | some none => true
  | _ => false
def back (st : Sx) (s : Sx) : List Nat → Sx
  | [] => s
  | v :: vs => (back st s vs).set v ((st[v]?).getD none)
theorem wipeS_len (st : Sx) : ∀ vs, (wipeS st vs).length = st.length
  | [] => rfl
  | v :: vs => by unfold wipeS; rw [List.length_set, wipeS_len st vs]
theorem back_len (st s : Sx) : ∀ vs, (back st s vs).length = s.length
  | [] => rfl
  | v :: vs => by unfold back; rw [List.length_set, back_len st s vs]
theorem wipeS_in (st : Sx) : ∀ {vs : List Nat} {i : Nat}, i ∈ vs → i < st.length → (wipeS st vs)[i]? = some none
  | v :: vs, i, h, hi => by
    unfold wipeS
    by_cases e : v = i
    · subst e; exact List.getElem?_set_self (by rw [wipeS_len]; exact hi)
    · rw [List.getElem?_set_ne e]
      rcases List.mem_cons.mp h with z | z
      · exact absurd z.symm e
      · exact wipeS_in st z hi
theorem wipeS_out (st : Sx) : ∀ {vs : List Nat} {i : Nat}, i ∉ vs → (wipeS st vs)[i]? = st[i]?
  | [], i, _ => rfl
  | v :: vs, i, h => by
    unfold wipeS
    rw [List.getElem?_set_ne (fun e => h (by rw [e]; exact List.mem_cons_self))]
    exact wipeS_out st fun z => h (List.mem_cons_of_mem _ z)
theorem wipe_in (σ : L2.St) : ∀ {vs : List Nat} {i : Nat}, i ∈ vs → i < σ.length → (wipe σ vs)[i]? = some none
  | v :: vs, i, h, hi => by
    unfold wipe
    by_cases e : v = i
    · subst e; exact List.getElem?_set_self (by rw [wipe_length]; exact hi)
    · rw [List.getElem?_set_ne e]
      rcases List.mem_cons.mp h with z | z
      · exact absurd z.symm e
      · exact wipe_in σ z hi
theorem wipe_out (σ : L2.St) : ∀ {vs : List Nat} {i : Nat}, i ∉ vs → (wipe σ vs)[i]? = σ[i]?
  | [], i, _ => rfl
  | v :: vs, i, h => by
    unfold wipe
    rw [List.getElem?_set_ne (fun e => h (by rw [e]; exact List.mem_cons_self))]
    exact wipe_out σ fun z => h (List.mem_cons_of_mem _ z)
theorem back_in (st s : Sx) : ∀ {vs : List Nat} {i : Nat}, i ∈ vs → i < st.length → st.length = s.length → (back st s vs)[i]? = st[i]?
  | v :: vs, i, h, hi, hl => by
    unfold back
    by_cases e : v = i
    · subst e
      rw [List.getElem?_set_self (by rw [back_len, ← hl]; exact hi), List.getElem?_eq_getElem hi]
      rfl
    · rw [List.getElem?_set_ne e]
      rcases List.mem_cons.mp h with z | z
      · exact absurd z.symm e
      · exact back_in st s z hi hl
theorem back_out (st s : Sx) : ∀ {vs : List Nat} {i : Nat}, i ∉ vs → (back st s vs)[i]? = s[i]?
  | [], i, _ => rfl
  | v :: vs, i, h => by
    unfold back
    rw [List.getElem?_set_ne (fun e => h (by rw [e]; exact List.mem_cons_self))]
    exact back_out st s fun z => h (List.mem_cons_of_mem _ z)
theorem wipe_ext {σ τ : L2.St} {vs : List Nat} (hl : σ.length = τ.length) (h : ∀ i, i ∉ vs → σ[i]? = τ[i]?) : wipe σ vs = wipe τ vs := by
  refine List.ext_getElem? fun i => ?_
  by_cases hi : i ∈ vs
  · by_cases hlt : i < σ.length
    · rw [wipe_in σ hi hlt, wipe_in τ hi (by omega)]
    · rw [List.getElem?_eq_none (by rw [wipe_length]; omega), List.getElem?_eq_none (by rw [wipe_length]; omega)]
  · rw [wipe_out σ hi, wipe_out τ hi, h i hi]
section
variable {K : Frag} {Z : Zt} {L L' : Nat → List Addr} {T : List Addr} {σ : L2.St} {H H' : Hp} {st s : Sx} {vs : List Nat}
theorem Rel.sh_nil {i : Nat} {d : PyData} (I : Rel K Z L T σ H st) (h : st[i]? = some (some (.sh d))) : L i = [] := by
  obtain ⟨_, _, h2⟩ := I.slot i _ h
  exact h2.2
theorem pin_out {i : Nat} {m : M} (h : vs.all (noOwn st) = true) (p2 : st[i]? = some (some m)) (p3 : m.free = false) : i ∉ vs := fun hi => by
  have q := List.all_eq_true.mp h i hi
  unfold noOwn at q
  rw [p2] at q
  cases m <;> first | (cases q; done) | (cases p3; done)
theorem Rel.wipe (I : Rel K Z L T σ H st) (h : vs.all (noOwn st) = true) : Rel K Z L T (L2.wipe σ vs) H (wipeS st vs) := by
  have hn : ∀ i, i ∈ vs → L i = [] := fun i hi => by
    have q := List.all_eq_true.mp h i hi
    unfold noOwn at q
    cases e : st[i]? with
    | none => simp [e] at q
    | some o =>
      cases o with
      | none => exact I.emp i fun m z => by rw [e] at z; cases z
      | some m =>
        cases m <;> simp [e] at q
        exact I.sh_nil e
  refine ⟨by rw [wipe_length, wipeS_len]; exact I.len, fun i m q => ?_, fun i q => ?_, I.dis, I.dt, I.dz, I.zin, I.tin, fun i w hw => ?_⟩
  · by_cases hi : i ∈ vs
    · have hlt : i < st.length := by
        have := (List.getElem?_eq_some_iff.mp q).1
        rw [wipeS_len] at this; exact this
      rw [wipeS_in st hi hlt] at q; cases q
    · rw [wipeS_out st hi] at q
      obtain ⟨v, h1, h2⟩ := I.slot i m q
      exact ⟨v, by rw [wipe_out σ hi]; exact h1, h2⟩
  · by_cases hi : i ∈ vs
    · exact hn i hi
    · exact I.emp i fun m z => q m (by rw [wipeS_out st hi]; exact z)
  · obtain ⟨p1, m, p2, p3⟩ := I.pn i w hw
    have hi := pin_out h p2 p3
    exact ⟨by rw [wipe_out σ hi]; exact p1, m, by rw [wipeS_out st hi]; exact p2, p3⟩
theorem Rel.back (I : Rel K Z L [] σ H st) (h : vs.all (noOwn st) = true) (I' : Rel K Z L' T (L2.wipe σ vs) H' s) (S : Step (Own L []) H (Own L' T) H') (hs : ∀ i, i ∈ vs → ∀ m, s[i]? ≠ some (some m)) : Rel K Z L' T σ H' (Pv.back st s vs) := by
  have hl : st.length = s.length := by rw [← I'.len, wipe_length, I.len]
  refine ⟨by rw [back_len, I.len]; exact hl, fun i m q => ?_, fun i q => ?_, I'.dis, I'.dt, I'.dz, I'.zin, I'.tin, fun i w hw => ?_⟩
  · by_cases hi : i ∈ vs
    · have hlt : i < st.length := by
        have := (List.getElem?_eq_some_iff.mp q).1
        rw [back_len, ← hl] at this; exact this
      rw [back_in st s hi hlt hl] at q
      have qq := List.all_eq_true.mp h i hi
      unfold noOwn at qq
      rw [q] at qq
      cases m <;> first | (cases qq; done) | skip
      obtain ⟨v, h1, h2⟩ := I.slot i _ q
      exact ⟨v, h1, RD.up h2.1 S.see, I'.emp i (hs i hi)⟩
    · rw [back_out st s hi] at q
      obtain ⟨v, h1, h2⟩ := I'.slot i m q
      exact ⟨v, by rw [← wipe_out σ hi]; exact h1, h2⟩
  · by_cases hi : i ∈ vs
    · exact I'.emp i (hs i hi)
    · exact I'.emp i fun m z => q m (by rw [back_out st s hi]; exact z)
  · obtain ⟨p1, m, p2, p3⟩ := I.pn i w hw
    obtain ⟨_, m', p4, p5⟩ := I'.pn i w hw
    have hi := pin_out h p2 p3
    exact ⟨p1, m', by rw [back_out st s hi]; exact p4, p5⟩
end
def TGc (K : Frag) (vs : List Nat) (h : FG) : TG := fun v σ H Q => ∃ Z L st d st', Rel K Z L [] σ H st ∧ RD K (hid H (Hid Z L [])) v d ∧ h d st = some st' ∧ ∀ σ', Rel K Z L [] σ' H st' → wipe σ' vs = wipe σ vs → Q σ' H
def TGsc (K : Frag) (vs : List Nat) (h : FGs) : TGs := fun v σ H Q => ∃ Z L st d st', Rel K Z L [] σ H st ∧ RDs K (hid H (Hid Z L [])) v d ∧ h d st = some st' ∧ ∀ σ', Rel K Z L [] σ' H st' → wipe σ' vs = wipe σ vs → Q σ' H
/-- a comprehension's own name -/
def gC (i : Nat) : FG := fun d st => if noOwn st i = true then some (st.set i (some (.sh d))) else none
section
variable {X : Cx} {vs : List Nat}
theorem Rel.putC {K : Frag} {Z : Zt} {L : Nat → List Addr} {σ : L2.St} {H : Hp} {st : Sx} {i : Nat} {v : V} {d : PyData} (I : Rel K Z L [] σ H st) (c : noOwn st i = true) (rd : RD K (hid H (Hid Z L [])) v d) : Rel K Z L [] (σ.set i (some v)) H (st.set i (some (.sh d))) := by
  have hi : i < st.length := by
    unfold noOwn at c
    by_cases hi : i < st.length
    · exact hi
    · rw [List.getElem?_eq_none (by omega)] at c; cases c
  have hn : L i = [] := by
    have z := I.wipe (vs := [i]) (by simp [c])
    refine z.emp i fun m q => ?_
    rw [wipeS_in st (by simp) hi] at q; cases q
  have ho : open1 st i = true := by
    unfold noOwn at c
    unfold open1
    cases e : st[i]? with
    | none => rw [e] at c; cases c
    | some o =>
      cases o with
      | none => rfl
      | some m => rw [e] at c; cases m <;> first | rfl | cases c
  have I2 := I.put (m := .sh d) ho ⟨rd, rfl⟩
  have e : upL L i [] = L := by
    funext j
    by_cases h : j = i
    · rw [upL_eq h, h, hn]
    · rw [upL_ne h]
  rw [e] at I2
  exact I2
theorem k_gc {i : Nat} {x : Str} {pos : Pos} (hN : X.N.Nodup) (hx : Loc X.env.scope x) (hv : i ∈ vs) (hi : X.N[i]? = some x := by rfl) (hf : X.fn x = true ∨ X.env.scope.names.lookup x = some .local := by first | exact .inl rfl | exact .inr rfl | assumption) : PG X (.Name x pos) (TGc X.K vs (gC i)) :=
  (pg_name hN hi hx hf).wk fun v σ H Q ⟨Z, L, st, d, st', I, rd, e, q⟩ => by
    unfold gC at e
    split at e
    · rename_i c
      cases e
      exact q _ (I.putC c rd) (wipe_ext (by rw [List.length_set]) fun j hj => List.getElem?_set_ne fun z => hj (by rw [← z]; exact hv))
    · cases e
theorem k_gcnil : PGs X [] (TGsc X.K vs gTNil) := pgs_nil.wk fun v σ H Q ⟨Z, L, st, ds, st', I, rd, e, q⟩ => by
  unfold gTNil at e
  split at e
  · rename_i c
    cases e
    have : ds = [] := List.isEmpty_iff.mp c
    subst this
    cases rd
    exact ⟨rfl, q σ I rfl⟩
  · cases e
theorem k_gccons {e : Expr} {es : List Expr} {f : FG} {g : FGs} (h1 : PG X e (TGc X.K vs f)) (h2 : PGs X es (TGsc X.K vs g)) (hs : (assignEach (e :: es) X.env).map (·.2) = assign e X.env :: (assignEach es X.env).map (·.2) := by rfl) : PGs X (e :: es) (TGsc X.K vs (gTCons f g)) :=
  (pgs_cons h1 h2 hs).wk fun v σ H Q ⟨Z, L, st, ds, st', I, rd, e, q⟩ => by
    cases ds with
    | nil => cases e
    | cons d r =>
      obtain ⟨s1, e1, e⟩ := Option.bind_eq_some_iff.mp e
      cases rd with
      | cons rd rds => exact ⟨_, _, rfl, Z, L, st, d, s1, I, rd, e1, fun σ' I' w => ⟨Z, L, s1, r, st', I', rds, e, fun σ2 I2 w2 => q σ2 I2 (w2.trans w)⟩⟩
theorem k_gctp {es : List Expr} {k n : Nat} {pos : Pos} {g : FGs} (hc : X.calm = true) (h : PGs X es (TGsc X.K vs g)) (hn : (assignEach es X.env).length = n := by rfl) (hst : (assignEach es X.env).findIdx? (·.1) = none := by rfl) : PG X (.Tuple es k pos) (TGc X.K vs (gTp n g)) :=
  (pg_tup hc h hn hst).wk fun v σ H Q ⟨Z, L, st, d, st', I, rd, e, q⟩ => by
    cases d <;> first | (cases e; done) | skip
    rename_i ds
    simp only [gTp] at e
    split at e
    · rename_i c
      cases rd with
      | tup a r => exact ⟨_, _, rfl, sameSqT hid_sub a.sq, by rw [r.len]; exact c, Z, L, st, ds, st', I, r, e, q⟩
    · cases e
def tYe : FT := fun st => some (true, st)
theorem k_tsnil : PTs X [] (TTv X.K tYe) := ⟨fun pins s σ H Q I ⟨Z, L, st, b, st', r, e, q⟩ => by cases e; exact pts_nil.run pins s σ H Q I (q H L r (.refl _ _))⟩
theorem k_tsone {c : Expr} {t : FT} (h : PT X c (TTv X.K t)) : PTs X [c] (TTv X.K t) := pts_one h
end
def runComp (vs : List Nat) (h : FG) (t : FT) (el : FE) : List PyData → Sx → Option (List PyData × Sx)
  | [], st => some ([], st)
  | d :: ds, st => (h d st).bind fun s1 => (t s1).bind fun p =>
    if p.1 = true then (el p.2).bind fun q => (share q.2 q.1).bind fun y => if vs.all (noOwn y.2) = true then (runComp vs h t el ds (wipeS y.2 vs)).bind fun r => some (y.1 :: r.1, r.2) else none
    else if vs.all (noOwn p.2) = true then runComp vs h t el ds (wipeS p.2 vs) else none
def oComp (vs : List Nat) (fi : FI) (h : FG) (t : FT) (el : FE) : FO := fun st => (fi st).bind fun p => if p.1.length ≤ LIM ∧ vs.all (noOwn p.2) = true then (runComp vs h t el p.1 (wipeS p.2 vs)).bind fun r => some (.ol false r.1, back p.2 r.2 vs) else none
theorem wipeS_none {st : Sx} {vs : List Nat} : ∀ i, i ∈ vs → ∀ m, (wipeS st vs)[i]? ≠ some (some m) := fun i hi m e => by
  have hlt : i < st.length := by
    have := (List.getElem?_eq_some_iff.mp e).1
    rw [wipeS_len] at this; exact this
  rw [wipeS_in st hi hlt] at e; cases e
def Zt.plus (Z : Zt) (D : Addr) : Zt := ⟨fun b => Z.h b ∨ b = D, Z.pin⟩
theorem hid_one {Z : Zt} {L : Nat → List Addr} {D : Addr} : Hid (Z.plus D) L [] = Hid Z L [D] := funext fun b => propext (by
    unfold Hid Own
    constructor
    · rintro ((h | h) | h | h)
      · exact .inl h
      · exact .inr (.inr (by rw [h]; simp))
      · exact .inr (.inl h)
      · cases h
    · rintro (h | h | h)
      · exact .inl (.inl h)
      · exact .inr (.inl h)
      · exact .inl (.inr (by simpa using h)))
/-- one thing more is hidden -/
theorem Rel.hide {K : Frag} {Z : Zt} {L : Nat → List Addr} {σ : L2.St} {H : Hp} {st : Sx} {D : Addr} {o : HO} (I : Rel K Z L [] σ H st) (hD : H D = none) : Rel K (Z.plus D) L [] σ (upd H D o) st := by
  have nD : ∀ b, Hid Z L [] b → b ≠ D := fun b h e => I.hin h (by rw [e]; exact hD)
  have s := same_upd (o := o) hD
  have see : Same (hid H (Hid Z L [])) (hid (upd H D o) (Hid (Z.plus D) L [])) := fun b x e => by
    obtain ⟨n, e⟩ := hid_some.mp e
    refine hid_some.mpr ⟨fun h => ?_, s b x e⟩
    rcases h with (h | h) | h
    · exact n (.inl h)
    · rw [h, hD] at e; cases e
    · exact n (.inr h)
  refine ⟨I.len, fun i m q => ?_, I.emp, I.dis, I.dt, fun b h z => ?_, fun b h => ?_, fun _ h => (nomatch h), I.pn⟩
  · obtain ⟨v, h1, h2⟩ := I.slot i m q
    exact ⟨v, h1, h2.up see fun b o _ e => s b o e⟩
  · rcases z with z | z
    · exact I.dz b h z
    · exact nD b (.inr h) z
  · rcases h with h | h
    · rw [upd_ne (nD b (.inl h))]; exact I.zin b h
    · rw [h, upd_same]; exact Option.some_ne_none _
/-- what was hidden, changed -/
theorem Rel.rehide {K : Frag} {Z : Zt} {L : Nat → List Addr} {σ : L2.St} {H : Hp} {st : Sx} {D : Addr} {o : HO} (I : Rel K Z L [] σ H st) (hD : Z.h D) : Rel K Z L [] σ (upd H D o) st := by
  have see : Same (hid H (Hid Z L [])) (hid (upd H D o) (Hid Z L [])) := hid_keep (.inl hD)
  have nL : ∀ i b, b ∈ L i → b ≠ D := fun i b h e => I.dz b (.inl ⟨i, h⟩) (by rw [e]; exact hD)
  refine ⟨I.len, fun i m q => ?_, I.emp, I.dis, I.dt, I.dz, fun b h => ?_, fun _ h => (nomatch h), I.pn⟩
  · obtain ⟨v, h1, h2⟩ := I.slot i m q
    exact ⟨v, h1, h2.up see fun b o hb e => by rw [upd_ne (nL i b hb)]; exact e⟩
  · by_cases e : b = D
    · rw [e, upd_same]; exact Option.some_ne_none _
    · rw [upd_ne e]; exact I.zin b h
/-- what was hidden is held in passing -/
theorem Rel.unhide {K : Frag} {Z : Zt} {L : Nat → List Addr} {σ : L2.St} {H : Hp} {st : Sx} {D : Addr} (I : Rel K (Z.plus D) L [] σ H st) (hZ : ¬ Z.h D) : Rel K Z L [D] σ H st := by
  have ee : Hid (Z.plus D) L [] = Hid Z L [D] := hid_one
  refine ⟨I.len, fun i m q => ?_, I.emp, I.dis, fun i b h1 h2 => ?_, fun b h z => ?_, fun b h => I.zin b (.inl h), fun b h => ?_, I.pn⟩
  · obtain ⟨v, h1, h2⟩ := I.slot i m q
    exact ⟨v, h1, by rw [← ee]; exact h2⟩
  · rw [List.mem_singleton] at h2
    exact I.dz b (.inl ⟨i, h1⟩) (.inr h2)
  · rcases h with h | h
    · exact I.dz b (.inl h) (.inl z)
    · rw [List.mem_singleton] at h
      exact hZ (by rw [← h]; exact z)
  · rw [List.mem_singleton] at h
    exact I.zin b (.inr h)
theorem Step.upd {W W' : Addr → Prop} {H H' : Hp} {D : Addr} {o : HO} (s : Step W H W' H') (hD : H D = none) : Step W H W' (L2.upd H' D o) :=
  ⟨fun b x e n => by rw [upd_ne (ne_of_none e hD)]; exact s.keep b x e n, s.young⟩
theorem lc_down {K : Frag} {vs : List Nat} {fi : FI} {h : FG} {t : FT} {el : FE} (σ : L2.St) (H : Hp) (Q : VK) (hh : TOv K (oComp vs fi h t el) σ H Q) : tLc (TIv K fi) (TGc K vs h) (TTv K t) (TEv K el) vs σ H Q := by
  obtain ⟨Z, L, st, m, st', I, e, q⟩ := hh
  obtain ⟨⟨ds, s1⟩, e1, e⟩ := Option.bind_eq_some_iff.mp e
  dsimp only at e
  split at e
  · rename_i c
    obtain ⟨⟨rs, s2⟩, e2, e⟩ := Option.bind_eq_some_iff.mp e
    cases e
    refine ⟨Z, L, st, ds, s1, I, e1, fun J H1 L1 I1 S1 Y D hD => ?_⟩
    have nZ : ¬ Z.h D := fun z => I1.zin D z hD
    -- the state of the turns
    refine ⟨fun i m H' => m = ds.length - i ∧ i ≤ ds.length ∧ ∃ L' s' av ad rest, Rel K (Z.plus D) L' [] (wipe σ vs) H' s' ∧ Step (Own L1 []) H1 (Own L' []) H' ∧ Same (hid H1 (Hid Z L1 [])) (hid H' (Hid (Z.plus D) L' [])) ∧ H' D = some (.lst av) ∧ RDs K (hid H' (Hid (Z.plus D) L' [])) av ad ∧ ad.length ≤ i ∧
      (∀ i, i ∈ vs → ∀ m, s'[i]? ≠ some (some m)) ∧ runComp vs h t el (ds.drop i) s' = some (rest, s2) ∧ ad ++ rest = rs, ⟨ds.length, by simp, Nat.zero_le _, L1, wipeS s1 vs, [], [], rs, (I1.wipe c.2).hide hD, (Step.refl _ _).upd hD, ?_, upd_same, .nil, Nat.le_refl _, wipeS_none, e2, rfl⟩, ?_⟩
    · intro b x eb
      obtain ⟨n, eb⟩ := hid_some.mp eb
      refine hid_some.mpr ⟨fun z => ?_, same_upd hD b x eb⟩
      rcases z with (z | z) | z
      · exact n (.inl z)
      · rw [z, hD] at eb; cases eb
      · exact n (.inr z)
    rintro i m H' ⟨rfl, hi, L', s', av, ad, rest, I', S', see, hD', rd, hl, hs, er, ea⟩
    obtain ⟨y1, y2, y3⟩ := Y _ H' see hid_sub
    by_cases hlt : i < ds.length
    · have hd : ds[i]? = some ds[i] := List.getElem?_eq_getElem hlt
      rw [List.drop_eq_getElem_cons hlt] at er
      obtain ⟨s3, e3, er⟩ := Option.bind_eq_some_iff.mp er
      obtain ⟨⟨b, s4⟩, e4, er⟩ := Option.bind_eq_some_iff.mp er
      refine .inr ⟨y1 i hlt, fun H' => ∃ L' s' av ad rest, Rel K (Z.plus D) L' [] (wipe σ vs) H' s' ∧ Step (Own L1 []) H1 (Own L' []) H' ∧ Same (hid H1 (Hid Z L1 [])) (hid H' (Hid (Z.plus D) L' [])) ∧ H' D = some (.lst av) ∧ RDs K (hid H' (Hid (Z.plus D) L' [])) av ad ∧ ad.length ≤ i + 1 ∧
        (∀ i, i ∈ vs → ∀ m, s'[i]? ≠ some (some m)) ∧ runComp vs h t el (ds.drop (i + 1)) s' = some (rest, s2) ∧ ad ++ rest = rs, fun H2 h2 => ⟨_, by omega, rfl, hlt, h2⟩, fun x H3 hy => ?_⟩
      obtain ⟨g1, g2⟩ := y3 i x H3 _ hd hy
      have rdx := g2 (hid H3 (Hid (Z.plus D) L' [])) (hid_grow g1) fun b o hb ho => hid_some.mpr ⟨fun z => I'.hin z hb, ho⟩
      refine ⟨_, L', s', ds[i], s3, I'.grow g1, rdx, e3, fun σ4 I4 w4 => ⟨w4.trans (wipe_ext (wipe_length _ _) fun j hj => wipe_out σ hj), _, L', s3, b, s4, I4, e4, fun H5 L5 I5 S5 => ?_⟩⟩
      have ww : wipe σ4 vs = wipe σ vs := w4.trans (wipe_ext (wipe_length _ _) fun j hj => wipe_out σ hj)
      have hD3 : H3 D = some (.lst av) := g1 _ _ hD'
      have nO : ∀ {L : Nat → List Addr} {σ : L2.St} {H : Hp} {st : Sx}, Rel K (Z.plus D) L [] σ H st → ¬ Own L [] D := fun I z => I.dz D z (.inr rfl)
      have SA : Step (Own L1 []) H1 (Own L5 []) H5 := S'.trans ((Step.grow g1).trans S5)
      have see5 : Same (hid H' (Hid (Z.plus D) L' [])) (hid H5 (Hid (Z.plus D) L5 [])) := ((Step.grow g1).trans S5).see
      have hD5 : H5 D = some (.lst av) := S5.keep D _ hD3 (nO I4)
      cases b with
      | false =>
        simp only [Bool.false_eq_true, if_false] at er ⊢
        split at er
        · rename_i c2
          have I6 := I5.wipe c2
          rw [ww] at I6
          exact ⟨L5, wipeS s4 vs, av, ad, rest, I6, SA, see.trans see5, hD5, rd.up see5, Nat.le_succ_of_le hl, wipeS_none, er, ea⟩
        · cases er
      | true =>
        simp only [if_true] at er ⊢
        obtain ⟨⟨r6, s6⟩, e6, er⟩ := Option.bind_eq_some_iff.mp er
        obtain ⟨⟨y, s7⟩, e7, er⟩ := Option.bind_eq_some_iff.mp er
        dsimp only at er
        split at er
        · rename_i c2
          obtain ⟨⟨rr, s8⟩, e8, er⟩ := Option.bind_eq_some_iff.mp er
          cases er
          refine ⟨_, L5, s4, r6, s6, I5, e6, fun u H6 L6 I6 S6 ru => ?_⟩
          obtain ⟨L7, I7, S7, rdy⟩ := I6.share ru e7
          have see7 := (S6.trans S7).see (Z := Z.plus D)
          have hD6 : H6 D = some (.lst av) := S6.keep D _ hD5 (nO I5)
          refine ⟨av, hD6, lim_lt (by rw [rd.len]; have := c.1; omega), ?_⟩
          have I8 := (I7.rehide (D := D) (o := .lst (av ++ [u])) (.inr rfl)).wipe c2
          rw [ww] at I8
          have hk : Same (hid H6 (Hid (Z.plus D) L7 [])) (hid (upd H6 D (.lst (av ++ [u]))) (Hid (Z.plus D) L7 [])) := hid_keep (.inl (.inr rfl))
          exact ⟨L7, wipeS s7 vs, av ++ [u], ad ++ [y], rr, I8, (SA.trans (S6.trans S7)).upd hD, ((see.trans see5).trans see7).trans hk, upd_same, ((rd.up (see5.trans see7)).app (.one rdy)).up hk, by rw [List.length_append, List.length_singleton]; omega, wipeS_none, e8, by rw [List.append_assoc]; exact ea⟩
        · cases er
    · have ei : i = ds.length := by omega
      subst ei
      rw [List.drop_length] at er
      cases er
      rw [List.append_nil] at ea
      subst ea
      have SD : Step (Own L1 []) H1 (Own L' [D]) H' := ⟨S'.keep, fun b h => by
        rcases h with h | h
        · exact S'.young b (.inl h)
        · rw [List.mem_singleton] at h; rw [h]; exact .inr hD⟩
      refine .inl ⟨y2 _ rfl, q (.ref D) H' L' [D] (I1.back c.2 (I'.unhide nZ) SD hs) (S1.trans SD) ⟨D, av, rfl, hD', by rw [← hid_one]; exact rd, rfl⟩⟩
  · cases e
end Pv

namespace Pv
open PySem PySem.Spec PyProof.Rows L2
section
variable {X : Cx}
/-! ### comprehensions as expressions -/
theorem k_lc {elt tg iter : Expr} {ifs : List Expr} {scope : Scope} {own : List (Str × Nat)} {pos : Pos} {fi : FI} {h : FG} {t : FT} {el : FE} (hc : X.calm = true) (hN : X.N.Nodup) (ok : blkC X.N X.env.scope scope own = true) (hi : PI X tg iter (TIv X.K fi))
    (hg : ∀ (s : Shared) (H : Hp) (C : Addr) (cl : List (Str × Addr)) (fp : List Addr), PG (X.blk s H scope (compEnvC scope cl C X.env) fp) tg (TGc X.K (own.map (·.2)) h))
    (ht : ∀ (s : Shared) (H : Hp) (C : Addr) (cl : List (Str × Addr)) (fp : List Addr), PTs (X.blk s H scope (compEnvC scope cl C X.env) fp) ifs (TTv X.K t))
    (he : ∀ (s : Shared) (H : Hp) (C : Addr) (cl : List (Str × Addr)) (fp : List Addr), PE (X.blk s H scope (compEnvC scope cl C X.env) fp) elt (TEv X.K el))
    (hs : ∀ x, foldedSetIterable iter X.env x = pure x := by intro _; rfl) : PE X (.ListComp elt [⟨tg, iter, ifs, 0⟩] scope pos) (TOv X.K (oComp (own.map (·.2)) fi h t el)) :=
  (pe_lc hc hN hi (blkOk_by ok) hg ht he hs).wk fun σ H Q q => lc_down σ H Q q
theorem k_setLc {i : Nat} {y : Str} {py : Pos} {elt tg iter : Expr} {ifs : List Expr} {scope : Scope} {own : List (Str × Nat)} {pos spos : Pos} {fi : FI} {h : FG} {t : FT} {el : FE} (hc : X.calm = true) (hN : X.N.Nodup) (hyl : X.env.scope.names.lookup y = some .local)
    (hsw : swapsWith (.ListComp elt [⟨tg, iter, ifs, 0⟩] scope pos) (some (.Name y py)) spos.line X.env = pure true) (ok : blkC X.N X.env.scope scope own = true) (hi : PI X tg iter (TIv X.K fi))
    (hg : ∀ (s : Shared) (H : Hp) (C : Addr) (cl : List (Str × Addr)) (fp : List Addr), PG (X.blk s H scope (compEnvC scope cl C X.env) fp) tg (TGc X.K (own.map (·.2)) h))
    (ht : ∀ (s : Shared) (H : Hp) (C : Addr) (cl : List (Str × Addr)) (fp : List Addr), PTs (X.blk s H scope (compEnvC scope cl C X.env) fp) ifs (TTv X.K t))
    (he : ∀ (s : Shared) (H : Hp) (C : Addr) (cl : List (Str × Addr)) (fp : List Addr), PE (X.blk s H scope (compEnvC scope cl C X.env) fp) elt (TEv X.K el))
    (hy : X.N[i]? = some y := by rfl) (hs : ∀ x, foldedSetIterable iter X.env x = pure x := by intro _; rfl) : PS X (.Assign [.Name y py] (.ListComp elt [⟨tg, iter, ifs, 0⟩] scope pos) spos) (TSv X.K (sSet i (oComp (own.map (·.2)) fi h t el))) :=
  setOf (ps_setLc hc hN hy hyl hsw hi (blkOk_by ok) hg ht he hs) fun σ H Q q => lc_down σ H Q q
end
/-! ### methods that change a name's list -/
def eLm0 (j : Nat) (g : List PyData → Option (PyData × List PyData)) : FE := fun st => match st[j]? with
  | some (some (.ol b ds)) => (g ds).bind fun r => some (.val r.1, st.set j (some (.ol b r.2)))
  | _ => none
def eLm1 (j : Nat) (g : List PyData → PyData → Option (PyData × List PyData)) (f : FE) : FE := fun st => match st[j]? with
  | some (some (.ol _ _)) => (f st).bind fun p => (share p.2 p.1).bind fun q => match q.2[j]? with
    | some (some (.ol b ds)) => (g ds q.1).bind fun r => some (.val r.1, q.2.set j (some (.ol b r.2)))
    | _ => none
  | _ => none
/-- a list's method: what it gives back, what the list is then -/
def L0 (K : Frag) (r : V → List V → Hp → VK → Prop) (g : List PyData → Option (PyData × List PyData)) : Prop := ∀ (H Hs : Hp) (p : Addr) (vs : List V) (ds ds' : List PyData) (d : PyData) (Q : VK), H p = some (.lst vs) → Same Hs H → RDs K Hs vs ds → g ds = some (d, ds') → (∀ v vs', RD K Hs v d → RDs K Hs vs' ds' → Q v (upd H p (.lst vs'))) → r (.ref p) [] H Q
def L1' (K : Frag) (r : V → List V → Hp → VK → Prop) (g : List PyData → PyData → Option (PyData × List PyData)) : Prop := ∀ (H Hs : Hp) (p : Addr) (vs : List V) (y : V) (ds ds' : List PyData) (e d : PyData) (Q : VK), H p = some (.lst vs) → Same Hs H → RDs K Hs vs ds → RD K Hs y e → g ds e = some (d, ds') → (∀ v vs', RD K Hs v d → RDs K Hs vs' ds' → Q v (upd H p (.lst vs'))) → r (.ref p) [y] H Q
def gAppend (ds : List PyData) (d : PyData) : Option (PyData × List PyData) := if ds.length < LIM then some (.none, ds ++ [d]) else none
def gPop (ds : List PyData) : Option (PyData × List PyData) := (ds[ds.length - 1]?).bind fun d => some (d, ds.dropLast)
def gPopAt (ds : List PyData) : PyData → Option (PyData × List PyData)
  | .int i => if -(2 ^ 63) ≤ i ∧ i < 2 ^ 63 then (seqIndex? i ds.length).bind fun k => (ds[k]?).bind fun d => some (d, ds.eraseIdx k) else none
  | _ => none
def gExtend (ds : List PyData) : PyData → Option (PyData × List PyData)
  | .list es => if ds.length + es.length ≤ LIM then some (.none, ds ++ es) else none
  | _ => none
theorem l1_append {K : Frag} : L1' K rAppend gAppend := fun H Hs p vs y ds ds' e d Q hp s r ry eg q => by
  unfold gAppend at eg
  split at eg
  · rename_i c
    cases eg
    exact ⟨p, vs, y, rfl, rfl, hp, by rw [r.len]; exact lim_lt (Nat.le_of_lt c), q .non _ .non (r.app (.one ry))⟩
  · cases eg
theorem RDs.dropLast {K : Frag} {H : Hp} : ∀ {vs : List V} {ds : List PyData}, RDs K H vs ds → RDs K H vs.dropLast ds.dropLast
  | _, _, .nil => .nil
  | _, _, .cons r .nil => .nil
  | _, _, .cons r (.cons r2 t) => .cons r (RDs.dropLast (.cons r2 t))
theorem l0_pop {K : Frag} : L0 K rPop gPop := fun H Hs p vs ds ds' d Q hp s r eg q => by
  obtain ⟨d', e1, eg⟩ := Option.bind_eq_some_iff.mp eg
  cases eg
  obtain ⟨v, h1, h2⟩ := r.get e1
  exact ⟨p, vs, v, rfl, rfl, hp, by rw [r.len]; exact h1, q v _ h2 r.dropLast⟩
theorem l1_popAt {K : Frag} : L1' K rPopAt gPopAt := fun H Hs p vs y ds ds' e d Q hp s r ry eg q => by
  cases e <;> first | (cases eg; done) | skip
  rename_i i
  cases ry
  simp only [gPopAt] at eg
  split at eg
  · rename_i c
    obtain ⟨k, e1, eg⟩ := Option.bind_eq_some_iff.mp eg
    obtain ⟨d', e2, eg⟩ := Option.bind_eq_some_iff.mp eg
    cases eg
    obtain ⟨v, h1, h2⟩ := r.get e2
    exact ⟨p, vs, i, k, v, rfl, rfl, hp, c.1, c.2, by rw [r.len]; exact e1, h1, q v _ h2 (r.erase k)⟩
  · cases eg
section
variable {X : Cx}
def rExtS (K : Frag) : V → List V → Hp → VK → Prop := fun x vs H Q => ∃ l b xs zs, x = .ref l ∧ vs = [.ref b] ∧ H l = some (.lst xs) ∧ Lp K H b zs ∧ xs.length + zs.length ≤ sizeLine ∧ Q .non (upd H l (.lst (xs ++ zs)))
theorem mt_extS : MtM X "list.extend" (rExtS X.K) := by
  intro pins s σ H x vs v us Q I rx rv h
  obtain ⟨l, b, xs, zs, rfl, rfl, hH, hB, hz, q⟩ := h
  cases rx
  obtain ⟨u, rfl, ru⟩ := rv.one
  cases ru
  obtain ⟨z, its, n, r, hl, e⟩ := I.lstM hH
  obtain ⟨z2, its2, n2, r2, e2⟩ := hB.obj I
  have hl2 := r2.length
  have sz : its.toArray.size + its2.toArray.size ≤ sizeLine := by rw [List.size_toArray, List.size_toArray]; omega
  refine call_meets PySem.F.slot_list_extend ⟨_, e, rfl⟩ PySem.F.entry_list_extend (PySem.F.args_list_extend_2 _ _)
    (AutoSeq1.list_extend_list_list_0 l its.toArray n b its2.toArray n2 (by rw [notLongL sz, Bool.and_false]; exact Bool.false_ne_true) (by rw [List.size_toArray]; omega) (by omega)) ⟨e, e2, ?_⟩
  exact ⟨.non, _, I.lset (its' := its ++ its2) hH e (by simp) (r.append r2) (by rw [List.length_append]; omega), rfl, q⟩
theorem l1_extend {K : Frag} : L1' K (rExtS K) gExtend := fun H Hs p vs y ds ds' e d Q hp s r ry eg q => by
  cases e <;> first | (cases eg; done) | skip
  rename_i es
  cases ry with
  | lst a b =>
    simp only [gExtend] at eg
    split at eg
    · rename_i c
      cases eg
      exact ⟨p, _, vs, _, rfl, rfl, hp, a.up s, by rw [r.len, b.len]; exact lim_line c, q .non _ .non (r.app b)⟩
    · cases eg
variable {j : Nat} {x name : Str} {pp apos cpos : Pos} {a : Expr} {f : FE} {id : String} {r : V → List V → Hp → VK → Prop}
theorem k_lm0 {g : List PyData → Option (PyData × List PyData)} (slot : Slot "list" name id) (hty : typeOf (.builtin id) = pure (.type "method_descriptor")) (hm : MtR X id r) (hv : L0 X.K r g) (hN : X.N[j]? = some x := by rfl) (hvis : Vis X.env.scope x := by first | exact Or.inl rfl | exact Or.inr (Or.inl rfl) | exact Or.inr (Or.inr rfl)) (hd : (x == ("__debug__" : Str)) = false := by decide) (hcd : (x == ("__classdict__" : Str)) = false := by decide)
    (hbase : attributeBase (.Name x pp) name X.env (eval (.Name x pp) X.env) = eval (.Name x pp) X.env := by rfl) (hline : (apos.endLine == cpos.line) = true := by rfl) : PE X (.Call (.Attribute (.Name x pp) name apos) [] [] cpos) (TEv X.K (eLm0 j g)) :=
  (pe_bm0 PySem.F.plainAttrs_list slot hty hm (pe_var hN hvis hd hcd) hbase hline).wk fun σ H Q ⟨Z, L, st, rr, st', I, e, q⟩ => by
    unfold eLm0 at e
    cases hj : st[j]? with
    | none => simp only [hj] at e; cases e
    | some o =>
      cases o with
      | none => simp only [hj] at e; cases e
      | some m =>
        cases m <;> simp only [hj] at e <;> first | (cases e; done) | skip
        rename_i b ds
        obtain ⟨⟨d, ds'⟩, e1, e⟩ := Option.bind_eq_some_iff.mp e
        cases e
        obtain ⟨w, hw, _⟩ := I.slot j _ hj
        obtain ⟨p, vs, g1, g2, g3, g4⟩ := I.lst (ds' := ds') hj hw
        subst g1
        have hp : Hid Z L [] p := by
          obtain ⟨_, h1, p', _, h2, _, _, h3⟩ := I.slot j _ hj
          rw [hw] at h1; cases h1; cases h2
          exact .inr (.inl ⟨j, by rw [h3]; simp⟩)
        refine ⟨_, hw, .inl ⟨rfl, _, .inl (.inl g2)⟩, hv H _ p vs ds ds' d Q g2 hid_sub g3 e1 fun v vs' rv rvs => ?_⟩
        obtain ⟨I2, S2⟩ := g4 vs' rvs
        exact q v _ L I2 S2 (RD.up rv (hid_keep hp))
theorem k_lm1 {g : List PyData → PyData → Option (PyData × List PyData)} (slot : Slot "list" name id) (hty : typeOf (.builtin id) = pure (.type "method_descriptor")) (hm : MtR X id r) (hv : L1' X.K r g) (ha : PE X a (TEv X.K f)) (hN : X.N[j]? = some x := by rfl) (hvis : Vis X.env.scope x := by first | exact Or.inl rfl | exact Or.inr (Or.inl rfl) | exact Or.inr (Or.inr rfl)) (hd : (x == ("__debug__" : Str)) = false := by decide) (hcd : (x == ("__classdict__" : Str)) = false := by decide)
    (hbase : attributeBase (.Name x pp) name X.env (eval (.Name x pp) X.env) = eval (.Name x pp) X.env := by rfl)
    (hfew : ((backTo cpos (starEach [a] X.env)).all (fun x => !x.1) && (backToKw cpos (keywordEach [] X.env)).all (fun x => x.1.isSome)
      && decide ([a].length + ([] : List Keyword).length + (if ([] : List Keyword).isEmpty then 0 else 1) < 30)) = true := by rfl)
    (hline : (apos.endLine == cpos.line) = true := by rfl) (hs : starEach [a] X.env = [(false, eval a X.env)] := by rfl) : PE X (.Call (.Attribute (.Name x pp) name apos) [a] [] cpos) (TEv X.K (eLm1 j g f)) :=
  (pe_bm PySem.F.plainAttrs_list slot hty hm (pe_var hN hvis hd hcd) (pa_one ha hs) hbase hfew hline hs rfl).wk fun σ H Q ⟨Z, L, st, rr, st', I, e, q⟩ => by
    unfold eLm1 at e
    cases h0 : st[j]? with
    | none => simp only [h0] at e; cases e
    | some o =>
      cases o with
      | none => simp only [h0] at e; cases e
      | some m =>
        cases m <;> simp only [h0] at e <;> first | (cases e; done) | skip
        obtain ⟨⟨ra, s1⟩, e1, e⟩ := Option.bind_eq_some_iff.mp e
        obtain ⟨⟨da, s2⟩, e2, e⟩ := Option.bind_eq_some_iff.mp e
        obtain ⟨w, hw, p0, vs0, hp0, hp1, _, _⟩ := I.slot j _ h0
        cases hj : s2[j]? with
        | none => simp only [hj] at e; cases e
        | some o =>
          cases o with
          | none => simp only [hj] at e; cases e
          | some m =>
            cases m <;> simp only [hj] at e <;> first | (cases e; done) | skip
            rename_i b ds
            obtain ⟨⟨d, ds'⟩, e3, e⟩ := Option.bind_eq_some_iff.mp e
            cases e
            subst hp0
            refine ⟨_, hw, .inl ⟨rfl, _, .inl (.inl hp1)⟩, Z, L, st, ra, s1, I, e1, fun u H1 L1 I1 S1 ru => ?_⟩
            obtain ⟨L2, I2, S2, rd⟩ := I1.share ru e2
            obtain ⟨p, vs, g1, g2, g3, g4⟩ := I2.lst (ds' := ds') hj hw
            cases g1
            have hp : Hid Z L2 [] p0 := by
              obtain ⟨_, h1, p', _, h2, _, _, h3⟩ := I2.slot j _ hj
              rw [hw] at h1; cases h1; cases h2
              exact .inr (.inl ⟨j, by rw [h3]; simp⟩)
            refine hv H1 _ p0 vs u ds ds' da d Q g2 hid_sub g3 rd e3 fun v vs' rv rvs => ?_
            obtain ⟨I3, S3⟩ := g4 vs' rvs
            exact q v _ L2 I3 (S1.trans (S2.trans S3)) (RD.up rv (hid_keep hp))
end
/-! ### defs -/
def allSh : List PyData → List M
  | [] => []
  | d :: ds => .sh d :: allSh ds
theorem allSh_map (ds : List PyData) : allSh ds = ds.map M.sh := by
  induction ds with
  | nil => rfl
  | cons d ds ih => unfold allSh; rw [ih]; rfl
abbrev Sem' := List M → Option (M × List M)
def spF (K : Frag) (sem : Sem') : Sp := fun vs H Q _ => ∃ (Z : Zt) (L : Nat → List Addr) (ms : List M) (r : M) (ms' : List M), Rel K Z L [] (vs.map some) H (ms.map some) ∧ (∀ (i : Nat) (m : M), ms[i]? = some m → m.free = false → ∀ v, vs[i]? = some v → Z.pin i = some v) ∧ sem ms = some (r, ms') ∧
  ∀ v H' L' T, Rel K Z L' T (vs.map some) H' (ms'.map some) → Step (Own L []) H (Own L' T) H' → RM K (hid H' (Hid Z L' T)) H' v r T → Q v H'
/-- the def named x of the module keeps the promise -/
def Has (P : Program) (w : World) (K : Frag) (mg : Str → Option Value) (base : Heap) (k : Nat) (x : Str) (ps : List Str) (sem : Sem') : Prop :=
  ∃ f fd, mg x = some (.ref f) ∧ PySem.W.keepIn K (.ref f) = true ∧ Binds K fd ps [] ∧ FnOk P w K mg base CX0 k f fd ps (spF K sem)
/-- .. called with data -/
def oCall (sem : Sem') (f : FA) : FO := fun st => (f st).bind fun p => (shares p.2 p.1).bind fun q => (sem (q.1.map M.sh)).bind fun r => some (r.1, q.2)
/-- behind a call -/
theorem Rel.called {K : Frag} {Z : Zt} {L : Nat → List Addr} {T : List Addr} {σ : L2.St} {H H' : Hp} {st : Sx} (I : Rel K Z L [] σ H st) (s : Same H H') (hT : ∀ b ∈ T, H b = none ∧ H' b ≠ none) : Rel K Z L T σ H' st := by
  have I1 := I.grow s
  refine ⟨I.len, fun i m q => ?_, I.emp, I.dis, fun i b h1 h2 => I.lin h1 (hT b h2).1, fun b h z => ?_, I1.zin, fun b h => (hT b h).2, I.pn⟩
  · obtain ⟨v, h1, h2⟩ := I.slot i m q
    refine ⟨v, h1, h2.up (fun b o e => ?_) fun b o _ e => s b o e⟩
    obtain ⟨n, e⟩ := hid_some.mp e
    refine hid_some.mpr ⟨fun h => ?_, s b o e⟩
    rcases h with h | h | h
    · exact n (.inl h)
    · exact n (.inr (.inl h))
    · rw [(hT b h).1] at e; cases e
  · rcases h with h | h
    · exact I.dz b (.inl h) z
    · exact I.zin b z (hT b h).1
theorem call_down {K : Frag} {sem : Sem'} {f : FA} {E : XK} (σ : L2.St) (H : Hp) (Q : VK) (h : TOv K (oCall sem f) σ H Q) : tCall (spF K sem) [] E (TAv K f) σ H Q := by
  obtain ⟨Z, L, st, m, st', I, e, q⟩ := h
  obtain ⟨⟨rs, s1⟩, e1, e⟩ := Option.bind_eq_some_iff.mp e
  obtain ⟨⟨ds, s2⟩, e2, e⟩ := Option.bind_eq_some_iff.mp e
  obtain ⟨⟨r, ms'⟩, e3, e⟩ := Option.bind_eq_some_iff.mp e
  cases e
  refine ⟨Z, L, st, rs, s1, I, e1, fun vs H1 L1 I1 S1 rvs => ?_⟩
  show spF K sem (vs ++ []) H1 Q E
  rw [List.append_nil]
  obtain ⟨L2, I2, S2, rd⟩ := I1.shares rvs e2
  have eqh : Hid ⟨Hid Z L2 [], fun _ => none⟩ (fun _ => []) [] = Hid Z L2 [] := funext fun b => propext ⟨fun h => (by
    rcases h with h | ⟨_, h⟩ | h
    · exact h
    · cases h
    · cases h), fun h => .inl h⟩
  refine ⟨⟨Hid Z L2 [], fun _ => none⟩, fun _ => [], ds.map M.sh, r, ms', ⟨by rw [List.length_map, List.length_map, List.length_map, rd.len], fun i m' qi => ?_, fun _ _ => rfl, fun _ _ _ h => (nomatch h), fun _ _ h => (nomatch h), fun b h => ?_, fun b h => I2.hin h, fun _ h => (nomatch h), fun _ _ h => (nomatch h)⟩, fun i m' qi hf => ?_, e3, fun v H' L' T I' S' rm => ?_⟩
  · rw [eqh]
    rw [List.map_map, List.getElem?_map] at qi
    obtain ⟨d, hd, qd⟩ := Option.map_eq_some_iff.mp qi
    cases qd
    obtain ⟨u, h1, h2⟩ := rd.get hd
    exact ⟨u, by rw [List.getElem?_map, h1]; rfl, h2, rfl⟩
  · rcases h with ⟨_, h⟩ | h
    · cases h
    · cases h
  · rw [List.getElem?_map] at qi
    obtain ⟨d, hd, qd⟩ := Option.map_eq_some_iff.mp qi
    cases qd
    cases hf
  · have s : Same H1 H' := fun b o e => S'.keep b o e fun h => by
      rcases h with ⟨_, h⟩ | h
      · cases h
      · cases h
    have hT : ∀ b ∈ T, H1 b = none ∧ H' b ≠ none := fun b h => ⟨(S'.young b (.inr h)).elim (fun z => by
      rcases z with ⟨_, z⟩ | z
      · cases z
      · cases z) id, I'.tin b h⟩
    refine q v H' L2 T (I2.called s hT) (S1.trans (S2.trans ⟨fun b o e _ => s b o e, fun b h => ?_⟩)) (rm.up (fun b o e => ?_) fun _ _ _ e => e)
    · rcases h with h | h
      · exact .inl (.inl h)
      · exact .inr (hT b h).1
    · obtain ⟨n, e⟩ := hid_some.mp e
      refine hid_some.mpr ⟨fun h => n ?_, e⟩
      rcases h with h | h | h
      · exact .inl (.inl h)
      · exact .inl (.inr (.inl h))
      · exact .inr (.inr h)
def lend : M → Option M
  | .src s => some (.src s)
  | .ol _ ds => some (.ol true ds)
  | .od _ kvs => some (.od true kvs)
  | .sh _ => none
def unlend : M → M → Option M
  | .src _, .src s => some (.src s)
  | .ol b _, .ol _ ds => some (.ol b ds)
  | .od b _, .od _ kvs => some (.od b kvs)
  | _, _ => none
theorem RM.lend {K : Frag} {Hs H : Hp} {v : V} {m m' : M} {L : List Addr} (e : Pv.lend m = some m') (h : RM K Hs H v m L) : RM K Hs H v m' L := by
  cases m <;> cases e <;> exact h
theorem RM.unlend {K : Frag} {Hs H : Hp} {v : V} {m m1 m2 : M} {L : List Addr} (e : Pv.unlend m m1 = some m2) (h : RM K Hs H v m1 L) : RM K Hs H v m2 L := by
  cases m <;> cases m1 <;> cases e <;> exact h
theorem unlend_free {m m1 m2 : M} (e : unlend m m1 = some m2) : m2.free = m.free := by
  cases m <;> cases m1 <;> cases e <;> rfl
theorem lend_free {m m' : M} (e : lend m = some m') : m'.free = false := by
  cases m <;> cases e <;> rfl
/-- a call whose first argument, a name's own thing, is lent -/
def oCallS (sem : Sem') (i : Nat) (f : FA) : FO := fun st => if has st i = true then (f st).bind fun p => (shares p.2 p.1).bind fun q => match q.2[i]? with
  | some (some m) => (lend m).bind fun ml => (sem (ml :: q.1.map M.sh)).bind fun r => match r.2 with
    | ml' :: _ => (unlend m ml').bind fun m3 => some (r.1, q.2.set i (some m3))
    | [] => none
  | _ => none
  else none
theorem callS_down {K : Frag} {sem : Sem'} {i : Nat} {f : FA} {E : XK} (σ : L2.St) (H : Hp) (Q : VK) (h : TOv K (oCallS sem i f) σ H Q) : tCall (spF K sem) [] E (tCons (tVar i) (TAv K f)) σ H Q := by
  obtain ⟨Z, L, st, m, st', I, e, q⟩ := h
  unfold oCallS at e
  split at e
  case isFalse => cases e
  rename_i c
  obtain ⟨w, hw⟩ := I.has c
  obtain ⟨⟨rs, s1⟩, e1, ea⟩ := Option.bind_eq_some_iff.mp e
  clear e
  obtain ⟨⟨ds, s2⟩, e2, e⟩ := Option.bind_eq_some_iff.mp ea
  clear ea
  cases hj : s2[i]? with
  | none => simp only [hj] at e; cases e
  | some o =>
    cases o with
    | none => simp only [hj] at e; cases e
    | some m0 =>
      simp only [hj] at e
      obtain ⟨ml, e3, ea⟩ := Option.bind_eq_some_iff.mp e
      clear e
      obtain ⟨⟨r, ms'⟩, e4, e⟩ := Option.bind_eq_some_iff.mp ea
      clear ea
      cases ms' with
      | nil => cases e
      | cons ml' mr =>
        obtain ⟨m3, e5, e⟩ := Option.bind_eq_some_iff.mp e
        cases e
        refine ⟨w, hw, Z, L, st, rs, s1, I, e1, fun vs H1 L1 I1 S1 rvs => ?_⟩
        show spF K sem ((w :: vs) ++ []) H1 Q E
        rw [List.append_nil]
        obtain ⟨L2, I2, S2, rd⟩ := I1.shares rvs e2
        obtain ⟨w', hw', rm0⟩ := I2.slot i m0 hj
        have ew : w' = w := by rw [hw] at hw'; cases hw'; rfl
        subst ew
        -- the callee's view
        let Zc : Zt := ⟨fun b => Z.h b ∨ ∃ k, k ≠ i ∧ b ∈ L2 k, fun k => if k = 0 then some w' else none⟩
        let Lc : Nat → List Addr := fun k => if k = 0 then L2 i else []
        have Lc0 : Lc 0 = L2 i := if_pos rfl
        have LcS : ∀ k, Lc (k + 1) = [] := fun k => if_neg (Nat.succ_ne_zero k)
        have ownc : ∀ b, Own Lc [] b ↔ b ∈ L2 i := fun b => ⟨fun h => (by
          rcases h with ⟨k, h⟩ | h
          · cases k with
            | zero => rw [Lc0] at h; exact h
            | succ k => rw [LcS] at h; cases h
          · cases h), fun h => .inl ⟨0, by rw [Lc0]; exact h⟩⟩
        have eqh : Hid Zc Lc [] = Hid Z L2 [] := funext fun b => propext ⟨fun h => (by
          rcases h with (h | ⟨k, _, h⟩) | h
          · exact .inl h
          · exact .inr (.inl ⟨k, h⟩)
          · exact .inr (.inl ⟨i, (ownc b).mp h⟩)), fun h => by
          rcases h with h | ⟨k, h⟩ | h
          · exact .inl (.inl h)
          · by_cases ek : k = i
            · subst ek; exact .inr ((ownc b).mpr h)
            · exact .inl (.inr ⟨k, ek, h⟩)
          · cases h⟩
        refine ⟨Zc, Lc, ml :: ds.map M.sh, r, ml' :: mr, ⟨by simp [rd.len], fun k m' qk => ?_, fun k hk => ?_, fun k l b h1 h2 => ?_, fun _ _ _ h => (nomatch h), fun b h z => ?_, fun b h => ?_, fun _ h => (nomatch h), fun k v hv => ?_⟩, fun k m' qk hf v hv => ?_, e4, fun v H' L' T I' S' rm => ?_⟩
        · rw [eqh]
          cases k with
          | zero =>
            have z : some (some ml) = some (some m') := qk
            cases z
            exact ⟨w', rfl, by rw [Lc0]; exact rm0.lend e3⟩
          | succ k =>
            have qk : ((ds.map M.sh).map some)[k]? = some (some m') := qk
            rw [List.map_map, List.getElem?_map] at qk
            obtain ⟨d, hd, qd⟩ := Option.map_eq_some_iff.mp qk
            cases qd
            obtain ⟨u, h1, h2⟩ := rd.get hd
            exact ⟨u, by show (vs.map some)[k]? = _; rw [List.getElem?_map, h1]; rfl, h2, LcS k⟩
        · cases k with
          | zero => exact absurd rfl (hk ml)
          | succ k => exact LcS k
        · cases k with
          | zero =>
            cases l with
            | zero => rfl
            | succ l => rw [LcS] at h2; cases h2
          | succ k => rw [LcS] at h1; cases h1
        · have hb := (ownc b).mp h
          rcases z with z | ⟨k, nk, z⟩
          · exact I2.dz b (.inl ⟨i, hb⟩) z
          · exact nk (I2.dis k i b z hb)
        · rcases h with h | ⟨k, _, h⟩
          · exact I2.zin b h
          · exact I2.lin h
        · by_cases ek : k = 0
          · subst ek
            have hv : some w' = some v := hv
            cases hv
            exact ⟨rfl, ml, rfl, lend_free e3⟩
          · have hv : (if k = 0 then some w' else none) = some v := hv
            rw [if_neg ek] at hv; cases hv
        · cases k with
          | zero =>
            have hv : some w' = some v := hv
            show (if (0 : Nat) = 0 then some w' else none) = some v
            rw [if_pos rfl]; exact hv
          | succ k =>
            have qk : (ds.map M.sh)[k]? = some m' := qk
            rw [List.getElem?_map] at qk
            obtain ⟨d, hd, qd⟩ := Option.map_eq_some_iff.mp qk
            cases qd
            cases hf
        · -- back in the caller
          obtain ⟨w2, hw2, rm2⟩ := I'.slot 0 ml' rfl
          have hw2 : some (some w') = some (some w2) := hw2
          cases hw2
          have keep : ∀ b o, b ∉ L2 i → H1 b = some o → H' b = some o := fun b o n e => S'.keep b o e fun h => n ((ownc b).mp h)
          have newT : ∀ b, b ∈ T → b ∉ L2 i → H1 b = none := fun b h n => (S'.young b (.inr h)).elim (fun z => absurd ((ownc b).mp z) n) id
          have newL : ∀ b, b ∈ L' 0 → b ∉ L2 i → H1 b = none := fun b h n => (S'.young b (.inl ⟨0, h⟩)).elim (fun z => absurd ((ownc b).mp z) n) id
          have nz : ∀ b, b ∈ L' 0 ∨ b ∈ T → ¬ (Z.h b ∨ ∃ k, k ≠ i ∧ b ∈ L2 k) := fun b h => I'.dz b (by
            rcases h with h | h
            · exact .inl ⟨0, h⟩
            · exact .inr h)
          -- the callee's hidden ones, seen from the caller
          have sub : ∀ b, Hid Z (upL L2 i (L' 0)) T b → Hid Zc L' T b := fun b h => by
            rcases h with h | ⟨k, h⟩ | h
            · exact .inl (.inl h)
            · by_cases ek : k = i
              · rw [upL_eq ek] at h; exact .inr (.inl ⟨0, h⟩)
              · rw [upL_ne ek] at h; exact .inl (.inr ⟨k, ek, h⟩)
            · exact .inr (.inr h)
          have seeC : Same (hid H' (Hid Zc L' T)) (hid H' (Hid Z (upL L2 i (L' 0)) T)) := fun b o e => by
            obtain ⟨n, e⟩ := hid_some.mp e
            exact hid_some.mpr ⟨fun h => n (sub b h), e⟩
          have see1 : Same (hid H1 (Hid Z L2 [])) (hid H' (Hid Z (upL L2 i (L' 0)) T)) := fun b o e => by
            obtain ⟨n, e⟩ := hid_some.mp e
            have ni : b ∉ L2 i := fun z => n (.inr (.inl ⟨i, z⟩))
            refine hid_some.mpr ⟨fun h => ?_, keep b o ni e⟩
            rcases h with h | ⟨k, h⟩ | h
            · exact n (.inl h)
            · by_cases ek : k = i
              · rw [upL_eq ek] at h; rw [newL b h ni] at e; cases e
              · rw [upL_ne ek] at h; exact n (.inr (.inl ⟨k, h⟩))
            · rw [newT b h ni] at e; cases e
          have kk : ∀ b, b ∉ L2 i → H1 b ≠ none → H' b ≠ none := fun b n e => by
            cases qq : H1 b with
            | none => exact absurd qq e
            | some o => rw [keep b o n qq]; exact Option.some_ne_none _
          have hi : i < s2.length := (List.getElem?_eq_some_iff.mp hj).1
          have REL : Rel K Z (upL L2 i (L' 0)) T σ H' (s2.set i (some m3)) := by
            refine ⟨by rw [List.length_set]; exact I2.len, fun k m' qk => ?_, fun k qk => ?_, fun k l b h1 h2 => ?_, fun k b h1 h2 => ?_, fun b h z => ?_, fun b h => kk b (fun z => I2.dz b (.inl ⟨i, z⟩) h) (I2.zin b h), I'.tin, fun k v hv => ?_⟩
            · by_cases ek : k = i
              · subst ek
                rw [List.getElem?_set_self hi] at qk
                cases qk
                exact ⟨w', hw, by rw [upL_eq rfl]; exact (rm2.unlend e5).up seeC fun _ _ _ e => e⟩
              · rw [List.getElem?_set_ne (Ne.symm ek)] at qk
                obtain ⟨u, h1, h2⟩ := I2.slot k m' qk
                exact ⟨u, h1, by rw [upL_ne ek]; exact h2.up see1 fun b o hb e => keep b o (fun z => ek (I2.dis k i b hb z)) e⟩
            · by_cases ek : k = i
              · subst ek; exact absurd (List.getElem?_set_self hi) (qk m3)
              · rw [upL_ne ek]
                exact I2.emp k fun m' z => qk m' (by rw [List.getElem?_set_ne (Ne.symm ek)]; exact z)
            · by_cases ek : k = i
              · by_cases el : l = i
                · rw [ek, el]
                · rw [upL_eq ek] at h1; rw [upL_ne el] at h2
                  exact absurd (.inr ⟨l, el, h2⟩) (nz b (.inl h1))
              · by_cases el : l = i
                · rw [upL_ne ek] at h1; rw [upL_eq el] at h2
                  exact absurd (.inr ⟨k, ek, h1⟩) (nz b (.inl h2))
                · rw [upL_ne ek] at h1; rw [upL_ne el] at h2
                  exact I2.dis k l b h1 h2
            · by_cases ek : k = i
              · rw [upL_eq ek] at h1; exact I'.dt 0 b h1 h2
              · rw [upL_ne ek] at h1; exact nz b (.inr h2) (.inr ⟨k, ek, h1⟩)
            · rcases h with ⟨k, h⟩ | h
              · by_cases ek : k = i
                · rw [upL_eq ek] at h; exact nz b (.inl h) (.inl z)
                · rw [upL_ne ek] at h; exact I2.dz b (.inl ⟨k, h⟩) z
              · exact nz b (.inr h) (.inl z)
            · obtain ⟨p1, m', p2, p3⟩ := I2.pn k v hv
              by_cases ek : k = i
              · subst ek
                rw [hj] at p2; cases p2
                exact ⟨p1, m3, List.getElem?_set_self hi, by rw [unlend_free e5]; exact p3⟩
              · exact ⟨p1, m', by rw [List.getElem?_set_ne (Ne.symm ek)]; exact p2, p3⟩
          refine q v H' _ T REL (S1.trans (S2.trans ⟨fun b o e n => keep b o (fun z => n (.inl ⟨i, z⟩)) e, fun b h => ?_⟩)) (rm.up seeC fun _ _ _ e => e)
          rcases h with ⟨k, h⟩ | h
          · by_cases ek : k = i
            · rw [upL_eq ek] at h
              by_cases n : b ∈ L2 i
              · exact .inl (.inl ⟨i, n⟩)
              · exact .inr (newL b h n)
            · rw [upL_ne ek] at h; exact .inl (.inl ⟨k, h⟩)
          · by_cases n : b ∈ L2 i
            · exact .inl (.inl ⟨i, n⟩)
            · exact .inr (newT b h n)
section
variable {X : Cx} {k : Nat} {x : Str} {ps : List Str} {sem : Sem'} {p pos : Pos} {e : Expr} {es : List Expr} {f : FA}
theorem k_call (h : Has X.prog X.w X.K X.mg X.base k x ps sem) (hr : Room k X.A) (ha : PA X (e :: es) (TAv X.K f)) (hg : Gl X x := by rfl) (hdb : (x == ("__debug__" : Str)) = false := by decide) (he : starEach (e :: es) X.env = (false, eval e X.env) :: starEach es X.env := by rfl) (hpl : (backTo pos (starEach es X.env)).any (·.1) = false := by rfl) :
    PE X (.Call (.Name x p) (e :: es) [] pos) (TOv X.K (oCall sem f)) := by
  obtain ⟨g, fd, h1, h2, h3, h4⟩ := h
  exact (pe_call h4 hr hg h1 h2 h3 .nil pass0 ha hdb he hpl).wk fun σ H Q q => call_down σ H Q q
theorem k_callS {i : Nat} {y : Str} {py : Pos} (h : Has X.prog X.w X.K X.mg X.base k x ps sem) (hr : Room k X.A) (ha : PA X es (TAv X.K f)) (hN : X.N[i]? = some y := by rfl) (hv : Vis X.env.scope y := by first | exact Or.inl rfl | exact Or.inr (Or.inl rfl) | exact Or.inr (Or.inr rfl)) (hd : (y == ("__debug__" : Str)) = false := by decide) (hcd : (y == ("__classdict__" : Str)) = false := by decide)
    (hg : Gl X x := by rfl) (hdb : (x == ("__debug__" : Str)) = false := by decide) (he : starEach (.Name y py :: es) X.env = (false, eval (.Name y py) X.env) :: starEach es X.env := by rfl) (hpl : (backTo pos (starEach es X.env)).any (·.1) = false := by rfl) :
    PE X (.Call (.Name x p) (.Name y py :: es) [] pos) (TOv X.K (oCallS sem i f)) := by
  obtain ⟨g, fd, h1, h2, h3, h4⟩ := h
  exact (pe_call h4 hr hg h1 h2 h3 .nil pass0 (pa_cons (pe_var hN hv hd hcd) ha he) hdb he hpl).wk fun σ H Q q => callS_down σ H Q q
end
/-! ### a def's body -/
def backs : List M → Sx → Option (List M)
  | [], _ => some []
  | .sh d :: r, _ :: st => (backs r st).map (.sh d :: ·)
  | .src _ :: r, some (.src s) :: st => (backs r st).map (.src s :: ·)
  | .ol true _ :: r, some (.ol true ds) :: st => (backs r st).map (.ol true ds :: ·)
  | .od true _ :: r, some (.od true kvs) :: st => (backs r st).map (.od true kvs :: ·)
  | _, _ => none
def runDef (np nl : Nat) (body : FS) : Sem' := fun ms => if ms.length = np then (body (ms.map some ++ List.replicate (nl - ms.length) none)).bind fun p => match p.1 with
    | .ret m => (backs ms p.2).map fun ms' => (m, ms')
    | .next => (backs ms p.2).map fun ms' => (.sh .none, ms')
    | _ => none
  else none
theorem backs_len : ∀ {ms : List M} {st : Sx} {ms' : List M}, backs ms st = some ms' → ms'.length = ms.length
  | [], _, _, e => by cases e; rfl
  | m :: r, st, ms', e => by
    cases m with
    | sh d =>
      cases st with
      | nil => cases e
      | cons o st =>
        obtain ⟨ms2, e1, e2⟩ := Option.map_eq_some_iff.mp e
        subst e2
        rw [List.length_cons, List.length_cons, backs_len e1]
    | src s =>
      cases st with
      | nil => cases e
      | cons o st =>
        cases o with
        | none => cases e
        | some m' =>
          cases m' <;> first | (cases e; done) | skip
          obtain ⟨ms2, e1, e2⟩ := Option.map_eq_some_iff.mp e
          subst e2
          rw [List.length_cons, List.length_cons, backs_len e1]
    | ol b ds =>
      cases b with
      | false => cases st <;> cases e
      | true =>
        cases st with
        | nil => cases e
        | cons o st =>
          cases o with
          | none => cases e
          | some m' =>
            cases m' <;> first | (cases e; done) | skip
            rename_i b' ds'
            cases b' with
            | false => cases e
            | true =>
              obtain ⟨ms2, e1, e2⟩ := Option.map_eq_some_iff.mp e
              subst e2
              rw [List.length_cons, List.length_cons, backs_len e1]
    | od b ds =>
      cases b with
      | false => cases st <;> cases e
      | true =>
        cases st with
        | nil => cases e
        | cons o st =>
          cases o with
          | none => cases e
          | some m' =>
            cases m' <;> first | (cases e; done) | skip
            rename_i b' ds'
            cases b' with
            | false => cases e
            | true =>
              obtain ⟨ms2, e1, e2⟩ := Option.map_eq_some_iff.mp e
              subst e2
              rw [List.length_cons, List.length_cons, backs_len e1]
theorem backs_get : ∀ {ms : List M} {st : Sx} {ms' : List M} {i : Nat} {m : M}, backs ms st = some ms' → ms[i]? = some m → ∃ m', ms'[i]? = some m' ∧ ((∃ d, m = .sh d ∧ m' = .sh d) ∨ (m.free = false ∧ st[i]? = some (some m') ∧ m'.free = false))
  | [], _, _, _, _, _, h => by simp at h
  | m0 :: r, st, ms', i, m, e, h => by
    have key : ∃ o st2 m1 r', st = o :: st2 ∧ ms' = m1 :: r' ∧ backs r st2 = some r' ∧ ((∃ d, m0 = .sh d ∧ m1 = .sh d) ∨ (m0.free = false ∧ o = some m1 ∧ m1.free = false)) := by
      cases m0 with
      | sh d =>
        cases st with
        | nil => cases e
        | cons o st =>
          obtain ⟨ms2, e1, e2⟩ := Option.map_eq_some_iff.mp e
          exact ⟨o, st, _, ms2, rfl, e2.symm, e1, .inl ⟨d, rfl, rfl⟩⟩
      | src s =>
        cases st with
        | nil => cases e
        | cons o st =>
          cases o with
          | none => cases e
          | some m' =>
            cases m' <;> first | (cases e; done) | skip
            obtain ⟨ms2, e1, e2⟩ := Option.map_eq_some_iff.mp e
            exact ⟨_, st, _, ms2, rfl, e2.symm, e1, .inr ⟨rfl, rfl, rfl⟩⟩
      | ol b ds =>
        cases b with
        | false => cases st <;> cases e
        | true =>
          cases st with
          | nil => cases e
          | cons o st =>
            cases o with
            | none => cases e
            | some m' =>
              cases m' <;> first | (cases e; done) | skip
              rename_i b' ds'
              cases b' with
              | false => cases e
              | true =>
                obtain ⟨ms2, e1, e2⟩ := Option.map_eq_some_iff.mp e
                exact ⟨_, st, _, ms2, rfl, e2.symm, e1, .inr ⟨rfl, rfl, rfl⟩⟩
      | od b ds =>
        cases b with
        | false => cases st <;> cases e
        | true =>
          cases st with
          | nil => cases e
          | cons o st =>
            cases o with
            | none => cases e
            | some m' =>
              cases m' <;> first | (cases e; done) | skip
              rename_i b' ds'
              cases b' with
              | false => cases e
              | true =>
                obtain ⟨ms2, e1, e2⟩ := Option.map_eq_some_iff.mp e
                exact ⟨_, st, _, ms2, rfl, e2.symm, e1, .inr ⟨rfl, rfl, rfl⟩⟩
    obtain ⟨o, st2, m1, r', rfl, rfl, e1, h1⟩ := key
    cases i with
    | zero =>
      have h : some m0 = some m := h
      cases h
      exact ⟨m1, rfl, h1.imp id fun ⟨a, b, c⟩ => ⟨a, by show some o = _; rw [b], c⟩⟩
    | succ i =>
      obtain ⟨m', g1, g2⟩ := backs_get (i := i) e1 (show r[i]? = some m from h)
      exact ⟨m', g1, g2⟩
theorem getMap {α β : Type} {f : α → β} {l : List α} {i : Nat} {b : β} (h : (l.map f)[i]? = some b) : ∃ a, l[i]? = some a ∧ f a = b := by
  rw [List.getElem?_map] at h
  exact Option.map_eq_some_iff.mp h
theorem getMap' {α β : Type} {f : α → β} {l : List α} {i : Nat} {a : α} (h : l[i]? = some a) : (l.map f)[i]? = some (f a) := by
  rw [List.getElem?_map, h]; rfl
/-- a def's entry -/
theorem Rel.enter {K : Frag} {Z : Zt} {L : Nat → List Addr} {vs : List V} {H : Hp} {ms : List M} {N : List Str} (I : Rel K Z L [] (vs.map some) H (ms.map some)) : Rel K Z L [] (start N vs) H (ms.map some ++ List.replicate (N.length - ms.length) none) := by
  have hl : vs.length = ms.length := by simpa using I.len
  have at1 : ∀ (i : Nat) (m : M), (ms.map some ++ List.replicate (N.length - ms.length) none)[i]? = some (some m) → (ms.map some)[i]? = some (some m) := fun i m q => by
    by_cases hi : i < (ms.map some).length
    · rw [List.getElem?_append_left hi] at q; exact q
    · rw [List.getElem?_append_right (by omega), List.getElem?_replicate] at q
      split at q <;> cases q
  have at2 : ∀ (i : Nat) (v : V), (vs.map some)[i]? = some (some v) → (start N vs)[i]? = some (some v) := fun i v q => by
    unfold L2.start
    rw [List.getElem?_append_left (List.getElem?_eq_some_iff.mp q).1]; exact q
  have at3 : ∀ (i : Nat) (m : M), (ms.map some)[i]? = some (some m) → (ms.map some ++ List.replicate (N.length - ms.length) none)[i]? = some (some m) := fun i v q => by
    rw [List.getElem?_append_left (List.getElem?_eq_some_iff.mp q).1]; exact q
  refine ⟨by unfold L2.start; simp [hl], fun i m q => ?_, fun i q => I.emp i fun m z => q m (at3 i m z), I.dis, I.dt, I.dz, I.zin, I.tin, fun i v hv => ?_⟩
  · obtain ⟨v, h1, h2⟩ := I.slot i m (at1 i m q)
    exact ⟨v, at2 i v h1, h2⟩
  · obtain ⟨p1, m, p2, p3⟩ := I.pn i v hv
    exact ⟨at2 i v p1, m, at3 i m p2, p3⟩
/-- .. and its end -/
theorem Rel.leave {K : Frag} {Z : Zt} {L L' : Nat → List Addr} {T : List Addr} {vs : List V} {σ' : L2.St} {H H' : Hp} {ms ms' : List M} {st1 : Sx} (I : Rel K Z L [] (vs.map some) H (ms.map some)) (hp : ∀ (i : Nat) (m : M), ms[i]? = some m → m.free = false → ∀ v, vs[i]? = some v → Z.pin i = some v)
    (I' : Rel K Z L' T σ' H' st1) (S : Step (Own L []) H (Own L' T) H') (e : backs ms st1 = some ms') : ∃ L2 : Nat → List Addr, Rel K Z L2 T (vs.map some) H' (ms'.map some) ∧ (∀ i b, b ∈ L2 i → b ∈ L' i) := by
  have hl : vs.length = ms.length := by simpa using I.len
  let L2 : Nat → List Addr := fun i => match ms[i]? with
    | some m => if m.free = true then [] else L' i
    | none => []
  have sub : ∀ i b, b ∈ L2 i → b ∈ L' i := fun i b h => by
    have h : b ∈ (match ms[i]? with
      | some m => if m.free = true then [] else L' i
      | none => []) := h
    split at h
    · split at h
      · cases h
      · exact h
    · cases h
  have ownS : ∀ b, Own L2 T b → Own L' T b := fun b h => h.imp (fun ⟨i, h⟩ => ⟨i, sub i b h⟩) id
  have see : Same (hid H' (Hid Z L' T)) (hid H' (Hid Z L2 T)) := fun b o w => by
    obtain ⟨n, w⟩ := hid_some.mp w
    exact hid_some.mpr ⟨fun z => n (z.imp id (ownS b)), w⟩
  refine ⟨L2, ⟨by rw [List.length_map, List.length_map, backs_len e, hl], fun i m q => ?_, fun i q => ?_, fun i j b h1 h2 => I'.dis i j b (sub i b h1) (sub j b h2), fun i b h => I'.dt i b (sub i b h), fun b h => I'.dz b (ownS b h), I'.zin, I'.tin, fun i v hv => ?_⟩, sub⟩
  · obtain ⟨m', q1, q2⟩ := getMap q
    cases q2
    have hi : i < ms.length := by rw [← backs_len e]; exact (List.getElem?_eq_some_iff.mp q1).1
    have q0 : ms[i]? = some ms[i] := List.getElem?_eq_getElem hi
    obtain ⟨m2, g1, g2⟩ := backs_get e q0
    rw [q1] at g1; cases g1
    obtain ⟨v, h1, h2⟩ := I.slot i ms[i] (getMap' q0)
    refine ⟨v, h1, ?_⟩
    rcases g2 with ⟨d, e1, e2⟩ | ⟨e1, e2, e3⟩
    · subst e2
      rw [e1] at h2
      refine ⟨(RD.up h2.1 S.see).up see, ?_⟩
      show (match ms[i]? with
        | some m => if m.free = true then [] else L' i
        | none => []) = []
      rw [q0, e1]; rfl
    · obtain ⟨v', k1, k2⟩ := I'.slot i m e2
      obtain ⟨u, hu, hu2⟩ := getMap h1
      cases hu2
      obtain ⟨p1, _⟩ := I'.pn i v (hp i _ q0 e1 v hu)
      rw [k1] at p1; cases p1
      have eL : L2 i = L' i := by
        show (match ms[i]? with
          | some m => if m.free = true then [] else L' i
          | none => []) = L' i
        rw [q0]
        show (if ms[i].free = true then [] else L' i) = L' i
        rw [e1]; rfl
      rw [eL]
      exact k2.up see fun _ _ _ w => w
  · show (match ms[i]? with
      | some m => if m.free = true then [] else L' i
      | none => []) = []
    cases q0 : ms[i]? with
    | none => rfl
    | some m =>
      obtain ⟨m2, g1, _⟩ := backs_get e q0
      exact absurd (getMap' g1) (q m2)
  · obtain ⟨p1, m, p2, p3⟩ := I.pn i v hv
    obtain ⟨m1, q1, q2⟩ := getMap p2
    cases q2
    obtain ⟨m2, g1, g2⟩ := backs_get e q1
    rcases g2 with ⟨d, e1, e2⟩ | ⟨e1, e2, e3⟩
    · rw [e1] at p3; cases p3
    · exact ⟨p1, m2, getMap' g1, e3⟩
section
variable {P : Program} {w : World} {K : Frag} {mg : Str → Option Value} {base : Heap}
theorem body_down {N ps : List Str} {bd : FS} {vs : List V} {H : Hp} {Q : VK} {E : XK} (h : spF K (runDef ps.length N.length bd) vs H Q E) : TSv K bd { nx := fun _ H' => Q .non H', rt := Q } (start N vs) H := by
  obtain ⟨Z, L, ms, r, ms', I, hp, e, q⟩ := h
  unfold runDef at e
  split at e
  case isFalse => cases e
  rename_i hl
  obtain ⟨⟨o, st1⟩, e1, e⟩ := Option.bind_eq_some_iff.mp e
  refine ⟨Z, L, _, o, st1, I.enter, e1, ?_⟩
  cases o with
  | brk => cases e
  | cont => cases e
  | next =>
    obtain ⟨ms2, e2, e3⟩ := Option.map_eq_some_iff.mp e
    cases e3
    refine fun σ' H' L' I' S' => ?_
    obtain ⟨L3, I3, sub⟩ := I.leave hp I' S' e2
    exact q .non H' L3 [] I3 ⟨S'.keep, fun b h => S'.young b (h.imp (fun ⟨i, h⟩ => ⟨i, sub i b h⟩) id)⟩ ⟨.non, rfl⟩
  | ret m =>
    obtain ⟨ms2, e2, e3⟩ := Option.map_eq_some_iff.mp e
    cases e3
    refine fun v σ' H' L' T I' S' rm => ?_
    obtain ⟨L3, I3, sub⟩ := I.leave hp I' S' e2
    refine q v H' L3 T I3 ⟨S'.keep, fun b h => S'.young b (h.imp (fun ⟨i, h⟩ => ⟨i, sub i b h⟩) id)⟩ (rm.up (fun b o w => ?_) fun _ _ _ w => w)
    obtain ⟨n, w⟩ := hid_some.mp w
    exact hid_some.mpr ⟨fun z => n (z.imp id fun z => z.imp (fun ⟨i, h⟩ => ⟨i, sub i b h⟩) id), w⟩
theorem spF_len {sem : Sem'} {n : Nat} (hs : ∀ ms r, sem ms = some r → ms.length = n) {vs : List V} {H : Hp} {Q : VK} {E : XK} (h : spF K sem vs H Q E) : vs.length = n := by
  obtain ⟨Z, L, ms, r, ms', I, hp, e, q⟩ := h
  rw [← hs ms _ e]
  simpa using I.len
theorem runDef_len {np nl : Nat} {bd : FS} (ms : List M) (r : M × List M) (e : runDef np nl bd ms = some r) : ms.length = np := by
  unfold runDef at e
  split at e
  · assumption
  · cases e
theorem fn_ok {x qual : Str} {st : Stmt} {f : Addr} {fd : FuncData} {N ps : List Str} {k : Nat} {bd : FS} (F : Fun K x qual st f fd) (S : FnScope N ps (defScope st))
    (hb : ∀ (cdv : Value) (A : Around) (outer : List Env) (s : Shared) (H : Hp) (E : XK), Room k (A.deeper (envOfC qual (defScope st) s.heap.objs.size f cdv)) → PSs (cxOf CX0 P w K mg base N qual (defScope st) f cdv A outer s H E).nox (defBody st) (TSv K bd)) :
    FnOk P w K mg base CX0 (k + 1) f fd ps (spF K (runDef ps.length N.length bd)) :=
  F.ok S (fun vs H Q E h => spF_len runDef_len h) fun cdv A outer s H vs Q E hr h => ⟨_, hb cdv A outer s H E hr, body_down h⟩
end
end Pv

namespace Pv
open PySem PySem.Spec PyProof.Rows L2
/-! ### built-in functions -/
def gLen : PyData → Option PyData
  | .list ds => some (.int ds.length)
  | .tuple ds => some (.int ds.length)
  | .str s => if s.length ≤ LIM then some (.int s.length) else none
  | _ => none
def gTuple : PyData → Option PyData
  | .list ds => some (.tuple ds)
  | .tuple ds => some (.tuple ds)
  | _ => none
def gList : PyData → Option (List PyData)
  | .list ds => some ds
  | .tuple ds => some ds
  | _ => none
def gAbs : PyData → Option PyData
  | .int i => some (.int (if i < 0 then -i else i))
  | _ => none
def gInt : PyData → Option PyData
  | .int i => some (.int i)
  | .bool b => some (.int (if b then 1 else 0))
  | _ => none
def gMax2 : PyData → PyData → Option PyData
  | .int i, .int j => some (.int (if j > i then j else i))
  | _, _ => none
def gMin2 : PyData → PyData → Option PyData
  | .int i, .int j => some (.int (if j < i then j else i))
  | _, _ => none
def intsOf : List PyData → Option (List Int)
  | [] => some []
  | .int i :: r => (intsOf r).map (i :: ·)
  | _ :: _ => none
def boolsOf : List PyData → Option (List Bool)
  | [] => some []
  | .bool i :: r => (boolsOf r).map (i :: ·)
  | _ :: _ => none
theorem intsOf_map (ns : List Int) : intsOf (ns.map .int) = some ns := by
  induction ns with
  | nil => rfl
  | cons n ns ih => rw [List.map_cons]; unfold intsOf; rw [ih]; rfl
theorem boolsOf_map (ns : List Bool) : boolsOf (ns.map .bool) = some ns := by
  induction ns with
  | nil => rfl
  | cons n ns ih => rw [List.map_cons]; unfold boolsOf; rw [ih]; rfl
theorem RDs.toInts {K : Frag} {H : Hp} : ∀ {vs : List V} {ds : List PyData} {ns : List Int}, RDs K H vs ds → intsOf ds = some ns → vs = ns.map V.int
  | _, _, _, .nil, e => by cases e; rfl
  | _, _, _, .cons (d := d) r t, e => by
    cases d <;> first | (cases e; done) | skip
    obtain ⟨ns, e1, e2⟩ := Option.map_eq_some_iff.mp e
    subst e2
    cases r
    rw [RDs.toInts t e1]; rfl
theorem RDs.toBools {K : Frag} {H : Hp} : ∀ {vs : List V} {ds : List PyData} {ns : List Bool}, RDs K H vs ds → boolsOf ds = some ns → vs = ns.map V.bl
  | _, _, _, .nil, e => by cases e; rfl
  | _, _, _, .cons (d := d) r t, e => by
    cases d <;> first | (cases e; done) | skip
    obtain ⟨ns, e1, e2⟩ := Option.map_eq_some_iff.mp e
    subst e2
    cases r
    rw [RDs.toBools t e1]; rfl
def gSum : PyData → Option PyData
  | .list ds => (intsOf ds).map fun ns => .int ns.sum
  | _ => none
def gAll : PyData → Option PyData
  | .list ds => (boolsOf ds).map fun bs => .bool (bs.all id)
  | _ => none
def gAny : PyData → Option PyData
  | .list ds => (boolsOf ds).map fun bs => .bool (bs.any id)
  | _ => none
/-- an int put into an ascending list -/
def insI (x : Int) : List Int → List Int
  | [] => [x]
  | y :: r => if x ≤ y then x :: y :: r else y :: insI x r
def sortI : List Int → List Int
  | [] => []
  | x :: r => insI x (sortI r)
theorem insI_perm (x : Int) : ∀ l : List Int, (insI x l).Perm (x :: l)
  | [] => .refl _
  | y :: r => by
    unfold insI
    split
    · exact .refl _
    · exact ((insI_perm x r).cons y).trans (.swap x y r)
theorem sortI_perm : ∀ l : List Int, (sortI l).Perm l
  | [] => .refl _
  | x :: r => (insI_perm x _).trans ((sortI_perm r).cons x)
theorem insI_asc (x : Int) : ∀ {l : List Int}, l.Pairwise (· ≤ ·) → (insI x l).Pairwise (· ≤ ·)
  | [], _ => List.pairwise_singleton _ _
  | y :: r, h => by
    unfold insI
    rw [List.pairwise_cons] at h
    split
    · rename_i c
      refine List.pairwise_cons.mpr ⟨fun z hz => ?_, List.pairwise_cons.mpr h⟩
      rcases List.mem_cons.mp hz with e | hz
      · rw [e]; exact c
      · exact Int.le_trans c (h.1 z hz)
    · rename_i c
      refine List.pairwise_cons.mpr ⟨fun z hz => ?_, insI_asc x h.2⟩
      rcases List.mem_cons.mp ((insI_perm x r).mem_iff.mp hz) with e | hz
      · rw [e]; omega
      · exact h.1 z hz
theorem sortI_asc : ∀ l : List Int, (sortI l).Pairwise (· ≤ ·)
  | [] => .nil
  | x :: r => insI_asc x (sortI_asc r)
theorem asc_unique : ∀ {l l' : List Int}, l.Perm l' → l.Pairwise (· ≤ ·) → l'.Pairwise (· ≤ ·) → l = l' := fun p h1 h2 =>
  p.eq_of_pairwise (fun a b _ _ => Int.le_antisymm) h1 h2
def gSortI : PyData → Option (List PyData)
  | .list ds => (intsOf ds).map fun ns => (sortI ns).map .int
  | _ => none
section
variable {K : Frag}
def rLenA (K : Frag) : List V → Hp → VK → Prop := fun xs H Q => (∃ p ys, xs = [.ref p] ∧ (SqL K H p ys ∨ SqT K H p ys) ∧ Q (.int ys.length) H) ∨ (∃ z, xs = [.str z] ∧ z.length ≤ sizeLine ∧ Q (.int z.length) H)
theorem call_lenA {X : Cx} : CallR X (.builtin "len") (rLenA X.K) := call_len_seq.or call_len_str
theorem v1_len : V1 K (fun v => rLenA K [v]) gLen := fun H x a d Q e h => by
  cases a <;> first | (cases e; done) | skip
  · rename_i s
    simp only [gLen] at e
    split at e
    · rename_i c
      cases e
      have q := endI h fun _ => RD.int s.length
      obtain ⟨O, _, h1, _⟩ := h
      cases h1.str
      exact .inr ⟨s, rfl, lim_line c, q⟩
    · cases e
  · rename_i ds
    cases e
    have q := endI h fun _ => RD.int ds.length
    obtain ⟨O, _, h1, _⟩ := h
    obtain ⟨p, vs, rfl, g1, g2⟩ := h1
    exact .inl ⟨p, vs, rfl, .inl g1.sq, by rw [g2.len]; exact q⟩
  · rename_i ds
    cases e
    have q := endI h fun _ => RD.int ds.length
    obtain ⟨O, _, h1, _⟩ := h
    obtain ⟨p, vs, rfl, g1, g2⟩ := h1.tup
    exact .inl ⟨p, vs, rfl, .inr (sameSqT hid_sub g1.sq), by rw [g2.len]; exact q⟩
def rTupF (K : Frag) : List V → Hp → VK → Prop := fun xs H Q => ∃ p ys, xs = [V.ref p] ∧ ((SqL K H p ys ∧ NewT H Q ys) ∨ (SqT K H p ys ∧ Q (.ref p) H))
theorem call_tupF {X : Cx} : CallR X (.type "tuple") (rTupF X.K) := by
  intro pins s σ H xs us Q I r ⟨p, ys, ex, h⟩
  subst ex
  rw [Vals.ref1 r]
  rcases h with ⟨hq, q⟩ | ⟨hq, q⟩
  · obtain ⟨its, r', pl, hz⟩ := I.list hq
    refine call_tuple_list pl.isList (fun h' kp => ?_) (by rw [List.size_toArray, ← r'.length]; exact hz)
    have I1 : Inv X pins σ H { s with heap := h' } := I.kept (t' := s.toks) kp
    exact ⟨.ref _, _, I1.tupF (t' := s.toks) r' hz, rfl, q _ _ rfl I1.fresh⟩
  · obtain ⟨its, r', pl, _⟩ := I.tuple hq
    exact call_tuple_same pl ⟨.ref p, H, I, rfl, q⟩
theorem v1_tuple : V1 K (fun v => rTupF K [v]) gTuple := fun H x a d Q e h => by
  cases a <;> first | (cases e; done) | skip
  · rename_i ds
    cases e
    obtain ⟨O, hO, h1, q⟩ := h
    obtain ⟨p, vs, rfl, g1, g2⟩ := h1
    exact ⟨p, vs, rfl, .inl ⟨g1.sq, newT hO g2 q⟩⟩
  · rename_i ds
    cases e
    obtain ⟨O, hO, h1, q⟩ := h
    obtain ⟨p, vs, rfl, g1, g2⟩ := h1.tup
    exact ⟨p, vs, rfl, .inr ⟨sameSqT hid_sub g1.sq, q _ H (fun _ _ e => e) (.tup g1 g2)⟩⟩
theorem w1_list : W1 K (fun v => (fun xs H Q => ∃ p ys, xs = [V.ref p] ∧ (SqL K H p ys ∨ SqT K H p ys) ∧ ∀ l, H l = none → Q (.ref l) (upd H l (.lst ys))) [v]) gList := fun H x a d Q e h => by
  cases a <;> first | (cases e; done) | skip
  · rename_i ds
    cases e
    obtain ⟨O, hO, h1, q⟩ := h
    obtain ⟨p, vs, rfl, g1, g2⟩ := h1
    exact ⟨p, vs, rfl, .inl g1.sq, fun t ht => q t vs ht g2⟩
  · rename_i ds
    cases e
    obtain ⟨O, hO, h1, q⟩ := h
    obtain ⟨p, vs, rfl, g1, g2⟩ := h1.tup
    exact ⟨p, vs, rfl, .inr (sameSqT hid_sub g1.sq), fun t ht => q t vs ht g2⟩
theorem v1_abs : V1 K (fun v => (fun xs H Q => ∃ i, xs = [V.int i] ∧ Q (.int (if i < 0 then -i else i)) H) [v]) gAbs := fun H x a d Q e h => by
  cases a <;> first | (cases e; done) | skip
  rename_i i
  have e : some (PyData.int (if i < 0 then -i else i)) = some d := e
  cases e
  have q := endI h fun _ => RD.int (if i < 0 then -i else i)
  obtain ⟨O, _, h1, _⟩ := h
  cases h1.int
  exact ⟨i, rfl, q⟩
theorem v1_int : V1 K (fun v => (fun xs H Q => (∃ i, xs = [V.int i] ∧ Q (.int i) H) ∨ ∃ k, xs = [V.bl k] ∧ Q (.int (if k then 1 else 0)) H) [v]) gInt := fun H x a d Q e h => by
  cases a <;> first | (cases e; done) | skip
  · rename_i k
    have e : some (PyData.int (if k = true then 1 else 0)) = some d := e
    cases e
    have q := endI h fun _ => RD.int (if k = true then 1 else 0)
    obtain ⟨O, _, h1, _⟩ := h
    cases h1.bl
    exact .inr ⟨k, rfl, q⟩
  · rename_i i
    cases e
    have q := endI h fun _ => RD.int i
    obtain ⟨O, _, h1, _⟩ := h
    cases h1.int
    exact .inl ⟨i, rfl, q⟩
theorem v2_max2 : V2 K (fun v w => (fun xs H Q => ∃ i j, xs = [V.int i, V.int j] ∧ Q (.int (if j > i then j else i)) H) [v, w]) gMax2 :=
  v2_ii (F := fun i j => .int (if j > i then j else i)) (fun i j H Q q => ⟨i, j, rfl, q⟩) fun a b d e => by
    cases a <;> cases b <;> first | (cases e; exact ⟨_, _, rfl, rfl, fun _ => .int _⟩) | cases e
theorem v2_min2 : V2 K (fun v w => (fun xs H Q => ∃ i j, xs = [V.int i, V.int j] ∧ Q (.int (if j < i then j else i)) H) [v, w]) gMin2 :=
  v2_ii (F := fun i j => .int (if j < i then j else i)) (fun i j H Q q => ⟨i, j, rfl, q⟩) fun a b d e => by
    cases a <;> cases b <;> first | (cases e; exact ⟨_, _, rfl, rfl, fun _ => .int _⟩) | cases e
theorem v1_sum : V1 K (fun v => rSum K [v]) gSum := fun H x a d Q e h => by
  cases a <;> first | (cases e; done) | skip
  rename_i ds
  obtain ⟨ns, e1, e2⟩ := Option.map_eq_some_iff.mp e
  subst e2
  have q := endI h fun _ => RD.int ns.sum
  obtain ⟨O, hO, h1, _⟩ := h
  obtain ⟨p, vs, rfl, g1, g2⟩ := h1
  exact ⟨p, ns, rfl, (by rw [← g2.toInts e1]; exact g1.sq), q⟩
theorem v1_all : V1 K (fun v => rAll K [v]) gAll := fun H x a d Q e h => by
  cases a <;> first | (cases e; done) | skip
  rename_i ds
  obtain ⟨ns, e1, e2⟩ := Option.map_eq_some_iff.mp e
  subst e2
  have q := endI h fun _ => RD.bl (ns.all id)
  obtain ⟨O, hO, h1, _⟩ := h
  obtain ⟨p, vs, rfl, g1, g2⟩ := h1
  exact ⟨p, ns, rfl, (by rw [← g2.toBools e1]; exact g1.sq), q⟩
theorem v1_any : V1 K (fun v => rAny K [v]) gAny := fun H x a d Q e h => by
  cases a <;> first | (cases e; done) | skip
  rename_i ds
  obtain ⟨ns, e1, e2⟩ := Option.map_eq_some_iff.mp e
  subst e2
  have q := endI h fun _ => RD.bl (ns.any id)
  obtain ⟨O, hO, h1, _⟩ := h
  obtain ⟨p, vs, rfl, g1, g2⟩ := h1
  exact ⟨p, ns, rfl, (by rw [← g2.toBools e1]; exact g1.sq), q⟩
theorem w1_sortI : W1 K (fun v => rSortedI K [v]) gSortI := fun H x a d Q e h => by
  cases a <;> first | (cases e; done) | skip
  rename_i ds
  obtain ⟨ns, e1, e2⟩ := Option.map_eq_some_iff.mp e
  subst e2
  obtain ⟨O, hO, h1, q⟩ := h
  obtain ⟨p, vs, rfl, g1, g2⟩ := h1
  refine ⟨p, ns, rfl, (by rw [← g2.toInts e1]; exact g1.sq), fun ns' t p1 p2 ht => ?_⟩
  have en : ns' = sortI ns := asc_unique (p1.trans (sortI_perm ns).symm) p2 (sortI_asc ns)
  subst en
  exact q t _ ht (RDs.ints _)
end
/-! ### list(range(..)), tuple(range(..)) -/
def oRgL (lo : Option FE) (hi : FE) : FO := fun st => match lo with
  | none => (hi st).bind fun q => (dat q.2 q.1).bind fun b => match b with
    | .int n => if n ≤ LIM ∧ -(2 ^ 62) ≤ n then some (.ol false (rgD 0 n.toNat), q.2) else none
    | _ => none
  | some f => (f st).bind fun p => (hi p.2).bind fun q => (dat q.2 p.1).bind fun a => (dat q.2 q.1).bind fun b => match a, b with
    | .int m, .int n => if -(2 ^ 61) ≤ m ∧ m ≤ 2 ^ 61 ∧ -(2 ^ 61) ≤ n ∧ n ≤ 2 ^ 61 ∧ n - m ≤ LIM then some (.ol false (rgD m (n - m).toNat), q.2) else none
    | _, _ => none
def toTup (f : FO) : FE := fun st => (f st).bind fun p => match p.1 with
  | .ol false ds => some (.val (.tuple ds), p.2)
  | _ => none
theorem rgV_rd {K : Frag} {H : Hp} (a b : Int) : RDs K H (rgV a b) (rgD a (b - a).toNat) := by
  unfold rgV rgD
  generalize List.range (b - a).toNat = l
  induction l with
  | nil => exact .nil
  | cons i l ih => exact .cons (.int _) ih
section
variable {X : Cx} {p p2 pos pos2 : Pos} {a b : Expr} {f g : FE}
def TRv (K : Frag) (lo : Option FE) (hi : FE) : L2.St → Hp → (Int → Int → Hp → Prop) → Prop := fun σ H Q => ∃ Z L st ds st', Rel K Z L [] σ H st ∧ oRgL lo hi st = some (.ol false ds, st') ∧ ∀ m n H' L', Rel K Z L' [] σ H' st' → Step (Own L []) H (Own L' []) H' → RgOk m n → ds = rgD m (n - m).toNat → Q m n H'
theorem prg_wk {e : Expr} {t t' : L2.St → Hp → (Int → Int → Hp → Prop) → Prop} (h : PRg X e t) (w : ∀ σ H Q, t' σ H Q → t σ H Q) : PRg X e t' := fun pins s σ H Q I q => h pins s σ H Q I (w σ H Q q)
theorem k_rg1 (ha : PE X a (TEv X.K f)) (hm : X.mg "range" = none) (hg : Gl X "range" := by rfl) (na : starEach [a] X.env = (false, eval a X.env) :: starEach [] X.env := by rfl) : PRg X (.Call (.Name "range" p) [a] [] pos) (TRv X.K none f) :=
  prg_wk (prg_1 hg hm ha na) fun σ H Q ⟨Z, L, st, ds, st', I, e, q⟩ => by
    obtain ⟨⟨r, s1⟩, e1, e⟩ := Option.bind_eq_some_iff.mp e
    obtain ⟨a, e2, e⟩ := Option.bind_eq_some_iff.mp e
    cases a <;> first | (cases e; done) | skip
    rename_i n
    dsimp only at e
    split at e
    · rename_i c
      cases e
      refine ⟨Z, L, st, r, _, I, e1, fun v H1 L1 I1 S1 rv => ⟨n, (I1.rx rv e2).int, q 0 n H1 L1 I1 S1 ?_ (by rw [Int.sub_zero])⟩⟩
      have h1 := c.1
      have h2 := c.2
      unfold LIM at h1
      exact ⟨by omega, by omega, by omega, by omega, by omega⟩
    · cases e
theorem k_rg2 (ha : PE X a (TEv X.K f)) (hb : PE X b (TEv X.K g)) (hm : X.mg "range" = none) (hg : Gl X "range" := by rfl) (na : starEach [a, b] X.env = (false, eval a X.env) :: starEach [b] X.env := by rfl)
    (nb : starEach [b] X.env = (false, eval b X.env) :: starEach [] X.env := by rfl) (hp : (backTo pos (starEach [b] X.env)).any (·.1) = false := by rfl) : PRg X (.Call (.Name "range" p) [a, b] [] pos) (TRv X.K (some f) g) :=
  prg_wk (prg_2 hg hm ha hb na nb hp) fun σ H Q ⟨Z, L, st, ds, st', I, e, q⟩ => by
    obtain ⟨⟨r, s1⟩, e1, e⟩ := Option.bind_eq_some_iff.mp e
    obtain ⟨⟨r2, s2⟩, e2, e⟩ := Option.bind_eq_some_iff.mp e
    obtain ⟨a, e3, ea⟩ := Option.bind_eq_some_iff.mp e
    clear e
    obtain ⟨b, e4, e⟩ := Option.bind_eq_some_iff.mp ea
    clear ea
    cases a <;> cases b <;> first | (cases e; done) | skip
    rename_i m n
    dsimp only at e
    split at e
    · rename_i c
      cases e
      refine ⟨Z, L, st, r, s1, I, e1, fun v H1 L1 I1 S1 rv => ⟨Z, L1, s1, r2, _, I1, e2, fun w H2 L2 I2 S2 rw' => ⟨m, n, (I2.rx (rv.later S2) e3).int, (I2.rx rw' e4).int, q m n H2 L2 I2 (S1.trans S2) ?_ rfl⟩⟩⟩
      obtain ⟨h1, h2, h3, h4, h5⟩ := c
      unfold LIM at h5
      exact ⟨by omega, by omega, by omega, by omega, by omega⟩
    · cases e
variable {e : Expr} {lo : Option FE} {hi : FE}
theorem oRgL_ol {st : Sx} {m : M} {st' : Sx} (h : oRgL lo hi st = some (m, st')) : ∃ ds, m = .ol false ds := by
  unfold oRgL at h
  cases lo with
  | none =>
    obtain ⟨⟨r, s1⟩, e1, h⟩ := Option.bind_eq_some_iff.mp h
    obtain ⟨a, e2, h⟩ := Option.bind_eq_some_iff.mp h
    cases a <;> first | (cases h; done) | skip
    dsimp only at h
    split at h
    · cases h; exact ⟨_, rfl⟩
    · cases h
  | some f =>
    obtain ⟨⟨r, s1⟩, e1, h⟩ := Option.bind_eq_some_iff.mp h
    obtain ⟨⟨r2, s2⟩, e2, h⟩ := Option.bind_eq_some_iff.mp h
    obtain ⟨a, e3, ha⟩ := Option.bind_eq_some_iff.mp h
    clear h
    obtain ⟨b, e4, h⟩ := Option.bind_eq_some_iff.mp ha
    clear ha
    cases a <;> cases b <;> first | (cases h; done) | skip
    dsimp only at h
    split at h
    · cases h; exact ⟨_, rfl⟩
    · cases h
theorem k_listRg (hc : X.calm = true) (he : PRg X e (TRv X.K lo hi)) (hm : X.mg "list" = none) (hg : Gl X "list" := by rfl) (na : starEach [e] X.env = (false, eval e X.env) :: starEach [] X.env := by rfl) : PE X (.Call (.Name "list" p) [e] [] pos) (TOv X.K (oRgL lo hi)) :=
  (pe_listRg hc hg hm he na).wk fun σ H Q ⟨Z, L, st, m, st', I, e, q⟩ => by
    obtain ⟨ds, rfl⟩ := oRgL_ol e
    refine ⟨Z, L, st, ds, st', I, e, fun m n H1 L1 I1 S1 ok ed => ⟨ok, fun t ht => ?_⟩⟩
    subst ed
    obtain ⟨O, hO, rd, z⟩ := (endL (P := fun O => RDs X.K (hid H1 O) (rgV m n) (rgD m (n - m).toNat)) I1 (rgV_rd m n) fun w H' L' T I' S' rw' => q w H' L' T I' (S1.trans S') rw')
    exact z t _ ht rd
def tTupRgF (te : L2.St → Hp → (Int → Int → Hp → Prop) → Prop) : TE := fun σ H Q => te σ H fun a b H1 => RgOk a b ∧ NewT H1 Q (rgV a b)
theorem pe_tupRgF {te : L2.St → Hp → (Int → Int → Hp → Prop) → Prop} (hc : X.calm = true) (hg : Gl X "tuple") (hm : X.mg "tuple" = none) (he : PRg X e te) (na : starEach [e] X.env = (false, eval e X.env) :: starEach [] X.env := by rfl) : PE X (.Call (.Name "tuple" p) [e] [] pos) (tTupRgF te) := by
  refine ⟨fun pins s σ H Q I h => Call_ (ld_blt I hg hm boot_tuple (PyProof.Rows.callWith_type1 (args_cons (thn (he pins s σ H _ I h) fun x s1 ⟨r, a, b, t, u, v, H1, ex, hr, I1, ok, q⟩ => args_nil ?_) na) na))⟩
  subst ex
  obtain ⟨b1, b2, b3, b4, b5⟩ := ok
  refine call_tuple_range (n := (b - a).toNat) (I1.ok.hd hc) hr (small_one b1 b2 b3 b4) (rangeSize_nat a b) b5 fun h' tk acc hk hi => ?_
  have I2 : Inv X pins σ H1 { s1 with heap := h', toks := tk } := I1.kept hk
  have I3 := I2.tupF (t' := tk) (vals_rg hi) (by rw [rgV_length, sizeLine_eq]; omega)
  rw [Array.toArray_toList] at I3
  exact ⟨.ref h'.objs.size, _, I3, rfl, q _ _ rfl I2.fresh⟩
theorem k_tupRg (hc : X.calm = true) (he : PRg X e (TRv X.K lo hi)) (hm : X.mg "tuple" = none) (hg : Gl X "tuple" := by rfl) (na : starEach [e] X.env = (false, eval e X.env) :: starEach [] X.env := by rfl) : PE X (.Call (.Name "tuple" p) [e] [] pos) (TEv X.K (toTup (oRgL lo hi))) :=
  (pe_tupRgF hc hg hm he na).wk fun σ H Q ⟨Z, L, st, r, st', I, e, q⟩ => by
    obtain ⟨⟨m, s1⟩, e1, e⟩ := Option.bind_eq_some_iff.mp e
    obtain ⟨ds, rfl⟩ := oRgL_ol e1
    cases e
    refine ⟨Z, L, st, ds, _, I, e1, fun m n H1 L1 I1 S1 ok ed => ⟨ok, ?_⟩⟩
    subst ed
    exact newT (fun b h => I1.hin h) (rgV_rd m n) fun v H' s rt => q v H' L1 (I1.grow s) (S1.trans (.grow s)) rt
/-! ### xs[::-1] of a list -/
def gRevL : PyData → Option (List PyData)
  | .list ds => some ds.reverse
  | _ => none
theorem k_revL {e : Expr} {f : FE} {k : Nat} {p1 p2 p3 pos : Pos} (he : PE X e (TEv X.K f)) : PE X (.Subscript e (.Slice none none (some (.UnaryOp .USub (.Constant (.int 1) k p1) p2)) p3) pos) (TOv X.K (o1 gRevL f)) :=
  (pe_revL he).wk fun σ H Q h => downO1 (r := fun x H Q => ∃ a xs, x = .ref a ∧ SqL X.K H a xs ∧ ∀ p, H p = none → Q (.ref p) (upd H p (.lst xs.reverse))) (fun H x a d Q e h => by
    cases a <;> first | (cases e; done) | skip
    cases e
    obtain ⟨O, hO, h1, q⟩ := h
    obtain ⟨p, vs, rfl, g1, g2⟩ := h1
    exact ⟨p, vs, rfl, g1.sq, fun t ht => q t _ ht g2.rev⟩) σ H Q h
end
/-! ### t.index(x) -/
def firstAt (d : PyData) : List PyData → Option Nat
  | [] => none
  | x :: r => if PyData.eqv x d = true then some 0 else (firstAt d r).map (· + 1)
theorem firstAt_some {d : PyData} : ∀ {ds : List PyData} {j : Nat}, firstAt d ds = some j → ∃ z, ds[j]? = some z ∧ PyData.eqv z d = true ∧ ∀ (m : Nat) (z' : PyData), m < j → ds[m]? = some z' → PyData.eqv z' d = false
  | x :: r, j, h => by
    unfold firstAt at h
    split at h
    · rename_i c; cases h; exact ⟨x, rfl, c, fun m z' hm => absurd hm (Nat.not_lt_zero m)⟩
    · rename_i c
      obtain ⟨k, e1, e2⟩ := Option.map_eq_some_iff.mp h
      subst e2
      obtain ⟨z, h1, h2, h3⟩ := firstAt_some e1
      refine ⟨z, h1, h2, fun m z' hm hz => ?_⟩
      cases m with
      | zero => cases hz; simpa using c
      | succ m => exact h3 m z' (by omega) hz
def gIndexT (a d : PyData) : Option PyData := match a with
  | .tuple ds => if okE (.tuple ds) = true ∧ okE d = true then (firstAt d ds).map fun j => .int (j : Nat) else none
  | _ => none
def gIndexL (a d : PyData) : Option PyData := match a with
  | .list ds => if okE (.list ds) = true ∧ okE d = true then (firstAt d ds).map fun j => .int (j : Nat) else none
  | _ => none
section
variable {X : Cx}
def rIndexT (K : Frag) : V → List V → Hp → VK → Prop := fun x xs H Q => ∃ (a : Addr) (y : V) (d : PyData) (ds : List PyData) (j : Nat) (z : PyData), x = V.ref a ∧ xs = [y] ∧ Dp K H (V.ref a) (.tuple ds) ∧ Dp K H y d ∧
  SeqAt.shaped (.tuple ds) = true ∧ SeqAt.shaped d = true ∧ ds[j]? = some z ∧ PyData.eqv z d = true ∧ (∀ (m : Nat) (z' : PyData), m < j → ds[m]? = some z' → PyData.eqv z' d = false) ∧ Q (.int (j : Nat)) H
theorem mt_indexT (hu : X.A.units + 65 < cLine) : MtR X "tuple.index" (rIndexT X.K) := by
  intro pins s σ H x xs v us Q I rx rxs ⟨a, y, d, ds, j, z, ex, exs, hl, hy, sl, sd, hz, hzj, hno, q⟩
  subst ex exs
  cases rx
  obtain ⟨uy, rfl, ry⟩ := vals1 rxs
  obtain ⟨bs, r1⟩ := Dp.reads I d y uy hy ry
  have hxs : PyData.canLayAll0 ds = true := SeqAt.canLay_of_shaped sl
  have hroom := room_in_shaped (xs := ds) sd hu
  cases hl with
  | tup hs ha =>
    obtain ⟨its, rv, ⟨⟨cls, dd, data, sls⟩, ho, hc, n, hdt⟩, hlen⟩ := I.tuple hs
    simp only at hc hdt
    subst hc hdt
    obtain ⟨as, h4⟩ := Dp.readsAll I ds _ its ha rv
    have hn : its.length = ds.length := SeqAt.ReadsAll.length ds its as h4
    have hmap : its.map (SeqAt.readOf s.heap) = ds := SeqAt.readsAll_map ds its as hxs h4
    obtain ⟨hjd, _⟩ := List.getElem?_eq_some_iff.mp hz
    have hj : j < its.toArray.size := by rw [List.size_toArray]; omega
    have at_ : ∀ (m : Nat) (hm : m < its.toArray.size) (z' : PyData), ds[m]? = some z' → SeqAt.readOf s.heap its.toArray[m] = z' := by
      intro m hm z' hz'
      have hml : m < its.length := by simpa using hm
      rw [← hmap, List.getElem?_map, List.getElem?_eq_getElem hml] at hz'
      have w : some (SeqAt.readOf s.heap its[m]) = some z' := hz'
      simpa using Option.some.inj w
    refine call_meets PySem.F.slot_tuple_index ⟨_, ho, rfl⟩ PySem.F.entry_tuple_index (PySem.F.args_tuple_index_2 _ _)
      (TI.tuple_indexAt a its.toArray n dd sls uy (fun u => PyData.eqv (SeqAt.readOf s.heap u) d) j hj ?_ ?_) ⟨ho, SeqAt.items_eqAt (vs := its.toArray) (show ReadsAll s.heap its.toArray.toList ds as from h4) r1 hxs (SeqAt.canLay_of_shaped sd) hroom, ?_⟩
    · show PyData.eqv (SeqAt.readOf s.heap its.toArray[j]) d = true
      rw [at_ j hj z hz]; exact hzj
    · intro m hm hmj
      have hz' : ds[m]? = some ds[m] := List.getElem?_eq_getElem (by omega)
      show PyData.eqv (SeqAt.readOf s.heap its.toArray[m]) d = false
      rw [at_ m hm _ hz']
      exact hno m _ hmj hz'
    · exact ⟨.int (j : Nat), H, I.tok _, ⟨_, rfl⟩, q⟩
/-- a method that reads: o.m(a) -/
inductive Ty where
  | lst
  | tup
  | str
def Ty.nm : Ty → String
  | .lst => "list"
  | .tup => "tuple"
  | .str => "str"
def Ty.has : Ty → PyData → Bool
  | .lst, .list _ => true
  | .tup, .tuple _ => true
  | .str, .str _ => true
  | _, _ => false
def tyW (K : Frag) (t : Ty) (x : V) (H : Hp) : Prop := match t with
  | .lst => ∃ p xs, x = .ref p ∧ Lp K H p xs
  | .tup => ∃ p xs, x = .ref p ∧ Tp K H p xs
  | .str => ∃ z, x = .str z
theorem tyW_is {pins : List (Addr × Obj)} {σ : L2.St} {H : Hp} {s : Shared} {t : Ty} {x : V} {v : Value} (I : Inv X pins σ H s) (r : RelV x v) (ty : tyW X.K t x H) : s.TypeIs v t.nm ∧ ∀ a, v = .ref a → ∃ ob, s.heap.get? a = some ob ∧ ob.dict = none := by
  cases t with
  | lst =>
    obtain ⟨p, xs, ex, h⟩ := ty
    subst ex
    cases r
    obtain ⟨z, its, n, _, e⟩ := h.obj I
    exact ⟨⟨_, e, rfl⟩, fun a ea => by cases ea; exact ⟨_, e, rfl⟩⟩
  | tup =>
    obtain ⟨p, xs, ex, h⟩ := ty
    subst ex
    cases r
    rcases h with ⟨o, d, h⟩ | ⟨o, its, n, d, h, c, _⟩
    · obtain ⟨e, _, its, _, o', e', c, _⟩ := I.hok p _ h
      rw [e] at e'; cases e'
      exact ⟨⟨_, e, c⟩, fun a ea => by cases ea; exact ⟨_, e, d⟩⟩
    · have e := I.kIn p o h
      exact ⟨⟨_, e, c⟩, fun a ea => by cases ea; exact ⟨_, e, d⟩⟩
  | str =>
    obtain ⟨z, ex⟩ := ty
    subst ex
    obtain ⟨k, rfl⟩ := r
    exact ⟨typeIs_str s z k, fun _ e => nomatch e⟩
theorem Ty.tyW {K : Frag} {Hs H : Hp} {v : V} {d : PyData} {t : Ty} (s : Same Hs H) (h : RX K Hs H v d) (e : t.has d = true) : Pv.tyW K t v H := by
  cases t <;> cases d <;> first | (cases e; done) | skip
  · obtain ⟨p, vs, rfl, g1, _⟩ := h
    exact ⟨p, vs, rfl, g1⟩
  · obtain ⟨p, vs, rfl, g1, _⟩ := h.tup
    exact ⟨p, vs, rfl, g1.up s⟩
  · exact ⟨_, h.str⟩
theorem pe_bmF {o a : Expr} {to : TE} {ta : TA} {name : Str} {apos cpos : Pos} {t : Ty} {id : String} {r : V → List V → Hp → VK → Prop} (pa : PlainAttrs t.nm) (slot : Slot t.nm name id) (hty : typeOf (.builtin id) = pure (.type "method_descriptor")) (hm : MtR X id r) (ho : PE X o to) (ha : PA X [a] ta)
    (hbase : attributeBase o name X.env (eval o X.env) = eval o X.env)
    (hfew : ((backTo cpos (starEach [a] X.env)).all (fun x => !x.1) && (backToKw cpos (keywordEach [] X.env)).all (fun x => x.1.isSome)
      && decide ([a].length + ([] : List Keyword).length + (if ([] : List Keyword).isEmpty then 0 else 1) < 30)) = true)
    (hline : (apos.endLine == cpos.line) = true) (hs : starEach [a] X.env = [(false, eval a X.env)]) : PE X (.Call (.Attribute o name apos) [a] [] cpos) (fun σ H Q => to σ H fun x H1 => Pv.tyW X.K t x H1 ∧ ta σ H1 fun xs H2 => r x xs H2 Q) := by
  refine ⟨fun pins s σ H Q I h => wpAny_Call_method_late hbase hfew hline rfl (thn (ho.run pins s σ H _ I h) fun v s1 ⟨x, H1, I1, r1, ty, q1⟩ => ?_)⟩
  obtain ⟨h1, h2⟩ := tyW_is I1 r1 ty
  refine ⟨t.nm, id, pa, slot, hty, h1, h2, ?_⟩
  have hA := ha.run cpos pins s1 σ H1 _ I1 q1
  rw [hs] at hA ⊢
  exact Calls.callWith_builtin rfl (Calls.evalArgs_plain (thn hA fun us s2 ⟨vs, H2, I2, r2, q2⟩ => hm pins s2 σ H2 x vs v us Q I2 r1 r2 q2))
def em1 (t : Ty) (g : PyData → PyData → Option PyData) (f h : FE) : FE := fun st => (f st).bind fun p => (dat p.2 p.1).bind fun a0 => if t.has a0 = true then (h p.2).bind fun q => (dat q.2 p.1).bind fun a => (dat q.2 q.1).bind fun b => (g a b).bind fun d => some (.val d, q.2) else none
variable {o a : Expr} {name : Str} {apos cpos : Pos} {f h : FE} {t : Ty} {id : String} {r : V → List V → Hp → VK → Prop}
theorem k_m1 {g : PyData → PyData → Option PyData} (pa : PlainAttrs t.nm) (slot : Slot t.nm name id) (hty : typeOf (.builtin id) = pure (.type "method_descriptor")) (hm : MtR X id r) (hv : V2 X.K (fun x y => r x [y]) g)
    (ho : PE X o (TEv X.K f)) (ha : PE X a (TEv X.K h))
    (hbase : attributeBase o name X.env (eval o X.env) = eval o X.env := by rfl)
    (hfew : ((backTo cpos (starEach [a] X.env)).all (fun x => !x.1) && (backToKw cpos (keywordEach [] X.env)).all (fun x => x.1.isSome)
      && decide ([a].length + ([] : List Keyword).length + (if ([] : List Keyword).isEmpty then 0 else 1) < 30)) = true := by rfl)
    (hline : (apos.endLine == cpos.line) = true := by rfl) (hs : starEach [a] X.env = [(false, eval a X.env)] := by rfl) : PE X (.Call (.Attribute o name apos) [a] [] cpos) (TEv X.K (em1 t g f h)) :=
  (pe_bmF pa slot hty hm ho (pa_one ha hs) hbase hfew hline hs).wk fun σ H Q ⟨Z, L, st, rr, st', I, e, q⟩ => by
    obtain ⟨⟨ra, s1⟩, e1, e⟩ := Option.bind_eq_some_iff.mp e
    obtain ⟨a0, e0, e⟩ := Option.bind_eq_some_iff.mp e
    dsimp only at e
    split at e
    · rename_i c
      obtain ⟨⟨rb, s2⟩, e2, e⟩ := Option.bind_eq_some_iff.mp e
      obtain ⟨a, e3, e⟩ := Option.bind_eq_some_iff.mp e
      obtain ⟨b, e4, e⟩ := Option.bind_eq_some_iff.mp e
      obtain ⟨d, e5, e⟩ := Option.bind_eq_some_iff.mp e
      cases e
      exact ⟨Z, L, st, ra, s1, I, e1, fun v H1 L1 I1 S1 rv => ⟨Ty.tyW hid_sub (I1.rx rv e0) c, Z, L1, s1, rb, _, I1, e2, fun w H2 L2 I2 S2 rw' =>
        hv H2 v w a b d Q e5 (endV I2 ⟨I2.rx (rv.later S2) e3, I2.rx rw' e4⟩ fun u H' L' I' S' ru => q u H' L' I' (S1.trans (S2.trans S')) ru)⟩⟩
    · cases e
theorem v2_indexT {K : Frag} : V2 K (fun x y => rIndexT K x [y]) gIndexT := fun H x y a b d Q e h => by
  unfold gIndexT at e
  cases a <;> first | (cases e; done) | skip
  rename_i ds
  dsimp only at e
  split at e
  · rename_i c
    obtain ⟨j, e1, e2⟩ := Option.map_eq_some_iff.mp e
    subst e2
    have q := endI h fun _ => RD.int (j : Int)
    obtain ⟨O, hO, ⟨h1, h2⟩, _⟩ := h
    obtain ⟨z, g1, g2, g3⟩ := firstAt_some e1
    have hd := h1.dp hid_sub c.1
    obtain ⟨p, vs, rfl, _, _⟩ := h1.tup
    exact ⟨p, y, b, ds, j, z, rfl, rfl, hd, h2.dp hid_sub c.2, okE_shaped c.1, okE_shaped c.2, g1, g2, g3, q⟩
  · cases e
theorem v2_indexL {K : Frag} : V2 K (fun x y => rIndexD K x [y]) gIndexL := fun H x y a b d Q e h => by
  unfold gIndexL at e
  cases a <;> first | (cases e; done) | skip
  rename_i ds
  dsimp only at e
  split at e
  · rename_i c
    obtain ⟨j, e1, e2⟩ := Option.map_eq_some_iff.mp e
    subst e2
    have q := endI h fun _ => RD.int (j : Int)
    obtain ⟨O, hO, ⟨h1, h2⟩, _⟩ := h
    obtain ⟨z, g1, g2, g3⟩ := firstAt_some e1
    have hd := h1.dp hid_sub c.1
    obtain ⟨p, vs, rfl, _, _⟩ := h1
    exact ⟨p, y, b, ds, j, z, rfl, rfl, hd, h2.dp hid_sub c.2, okE_shaped c.1, okE_shaped c.2, g1, g2, g3, q⟩
  · cases e
end
/-! ### repr -/
/-- data that is shown whole: no dict, not deep, no great ints -/
def okR : Nat → PyData → Bool
  | _, .none => true
  | _, .bool _ => true
  | _, .int i => decide (i.natAbs < 10 ^ 12)
  | _, .str s => okD.strOkB s
  | 0, .list _ => false
  | 0, .tuple _ => false
  | n + 1, .list xs => xs.all (okR n)
  | n + 1, .tuple xs => xs.all (okR n)
  | _, .dict _ => false
theorem okR_all {n : Nat} (ih : ∀ d, okR n d = true → okD n d = true ∧ PyData.intsShort 13 d = true ∧ d.showable = true) : ∀ xs : List PyData, xs.all (okR n) = true → xs.all (okD n) = true ∧ PyData.intsShortAll 13 xs = true ∧ PyData.showableAll xs = true
  | [], _ => ⟨rfl, rfl, by simp only [PyData.showableAll]⟩
  | x :: xs, h => by
    rw [List.all_cons, Bool.and_eq_true] at h
    obtain ⟨a1, a2, a3⟩ := ih x h.1
    obtain ⟨b1, b2, b3⟩ := okR_all ih xs h.2
    exact ⟨by rw [List.all_cons, a1, b1]; rfl, by simp only [PyData.intsShortAll, a2, b2, Bool.and_self], by simp only [PyData.showableAll, a3, b3, Bool.and_self]⟩
theorem small_log {i : Int} (h : i.natAbs < 10 ^ 12) : i.natAbs.log2 < 1920 := by
  by_cases z : i.natAbs = 0
  · rw [z]; decide
  · have h2 : i.natAbs < 2 ^ 40 := Nat.lt_trans h (by decide)
    have := (Nat.log2_lt z).mpr h2
    omega
theorem okR_ok : ∀ (n : Nat) (d : PyData), okR n d = true → okD n d = true ∧ PyData.intsShort 13 d = true ∧ d.showable = true
  | n, .none, _ => ⟨by simp only [okD], by simp only [PyData.intsShort], by simp only [PyData.showable]⟩
  | n, .bool _, _ => ⟨by simp only [okD], by simp only [PyData.intsShort], by simp only [PyData.showable]⟩
  | n, .int i, h => by
    have h : i.natAbs < 10 ^ 12 := by simpa [okR] using h
    refine ⟨by simp only [okD], ?_, ?_⟩
    · simp only [PyData.intsShort, decide_eq_true_eq]
      exact PyData.shown_int_le h
    · simp only [PyData.showable, decide_eq_true_eq]
      exact small_log h
  | n, .str s, h => ⟨by simpa only [okD, okR] using h, by simp only [PyData.intsShort], by simp only [PyData.showable]⟩
  | 0, .list xs, h => by simp [okR] at h
  | 0, .tuple xs, h => by simp [okR] at h
  | n + 1, .list xs, h => by
    obtain ⟨a, b, c⟩ := okR_all (okR_ok n) xs (by simpa only [okR] using h)
    exact ⟨by simpa only [okD] using a, by simpa only [PyData.intsShort] using b, by simpa only [PyData.showable] using c⟩
  | n + 1, .tuple xs, h => by
    obtain ⟨a, b, c⟩ := okR_all (okR_ok n) xs (by simpa only [okR] using h)
    exact ⟨by simpa only [okD] using a, by simpa only [PyData.intsShort] using b, by simpa only [PyData.showable] using c⟩
  | n, .dict _, h => by cases n <;> simp [okR] at h
def gRepr (d : PyData) : Option PyData := if okR 20 d = true ∧ d.bulk ≤ 2 ^ 20 then some (.str d.shown) else none
section
variable {X : Cx}
def rRepr (K : Frag) : List V → Hp → VK → Prop := fun xs H Q => ∃ x d, xs = [x] ∧ RD K H x d ∧ okR 20 d = true ∧ d.bulk ≤ 2 ^ 20 ∧ Q (.str d.shown) H
theorem call_repr (hg : X.A.guards = some []) (hu : X.A.units + 64 < cLine) : CallR X (.builtin "repr") (rRepr X.K) := by
  intro pins s σ H xs us Q I r ⟨x, d, ex, rd, ok, bk, q⟩
  subst ex
  obtain ⟨v, rfl, rx⟩ := vals1 r
  obtain ⟨o1, o2, o3⟩ := okR_ok _ _ ok
  obtain ⟨c1, c2⟩ := okD_ok _ _ o1
  have fit : d.shown.length ≤ sizeLine := PyData.shown_fits_bulk (by decide) (by decide) (PyData.leavesShort_of_canLay0 13 d c1 o2) bk
  have dp := RD.dp d x c1 rd
  obtain ⟨as, rr⟩ := Dp.reads I d x v dp rx
  have onref : ∀ a, v = .ref a → wpAny (model X.prog X.w) X.A (call (.builtin "repr") [v]) (EP X pins σ Q) X.xe s := fun a ea => by
    subst ea
    exact repr_of_reads' rr o3 (PyData.noDict_hsm (PyData.hasDict_of_canLay d c1)) hg (by omega) (fun _ _ e => e) (fun h' u tk hk => ⟨.str d.shown, H, I.kept hk, ⟨u, rfl⟩, q⟩) fit
  cases rd with
  | non => cases rx; exact P.repr_of_none ⟨.str _, H, I.tok _, ⟨_, rfl⟩, q⟩
  | bl b => cases rx; exact P.repr_of_bool ⟨.str _, H, I.tok _, ⟨s.toks, by simp only [PyData.shown_bool]⟩, q⟩
  | int i =>
    obtain ⟨t, rfl⟩ := rx
    exact P.repr_of_int (by simpa [PyData.showable] using o3) ⟨.str _, H, I.tok _, ⟨_, rfl⟩, q⟩
  | str z =>
    obtain ⟨t, rfl⟩ := rx
    exact P.repr_of_str ⟨.str _, H, I.tok _, ⟨_, rfl⟩, q⟩ (by simpa only [PyData.shown_str] using fit)
  | lst a b => exact onref _ rx
  | tup a b => exact onref _ rx
  | dctK a b => exact onref _ rx
  | dctN a n b => exact onref _ rx
theorem v1_repr {K : Frag} : V1 K (fun v => rRepr K [v]) gRepr := fun H x a d Q e h => by
  unfold gRepr at e
  split at e
  · rename_i c
    cases e
    have q := endI h fun _ => RD.str a.shown
    obtain ⟨O, hO, h1, _⟩ := h
    exact ⟨x, a, rfl, h1.full hid_sub, c.1, c.2, q⟩
  · cases e
end
end Pv

namespace Pv
open PySem PySem.Spec PyProof.Rows L2
/-! ### defs that ask what is being shown: nothing is, around them -/
structure FnG (P : Program) (w : World) (K : Frag) (mg : Str → Option Value) (base : Heap) (k : Nat) (f : Addr) (fd : FuncData) (ps : List Str) (sp : Sp) : Prop where
  len : ∀ vs H Q E, sp vs H Q E → vs.length = ps.length
  run : ∀ (A : Around) (outer : List Env) (s : Shared) (H : Hp) (args : Args) (us : List Value) (vs : List V) (Q : VK) (E : XK), Room k A → A.guards = some [] → Env0 P w K mg base A outer s H → BindsTo s fd args (ps.zip us) → Vals vs us → sp vs H Q E →
    codeAny (model P w) A (.call (.ref f) args) (CR CX0 outer P w H s Q E) s
section
variable {P : Program} {w : World} {K : Frag} {mg : Str → Option Value} {base : Heap}
theorem fn_okG {x qual : Str} {st : Stmt} {f : Addr} {fd : FuncData} {N ps : List Str} {k : Nat} {bd : FS} (F : Fun K x qual st f fd) (S : FnScope N ps (defScope st))
    (hb : ∀ (cdv : Value) (A : Around) (outer : List Env) (s : Shared) (H : Hp) (E : XK), Room k (A.deeper (envOfC qual (defScope st) s.heap.objs.size f cdv)) → A.guards = some [] → PSs (cxOf CX0 P w K mg base N qual (defScope st) f cdv A outer s H E).nox (defBody st) (TSv K bd)) :
    FnG P w K mg base (k + 1) f fd ps (spF K (runDef ps.length N.length bd)) := by
  obtain ⟨oc, od, kV, doc, pm, an, cdv, ct, osl, rfl, lk, hcd⟩ := F.ex
  refine ⟨fun vs H Q E h => spF_len runDef_len h, fun A outer s H args us vs Q E hr hgu e0 hbd hvu hsp => ?_⟩
  have hlen : vs.length = ps.length := spF_len runDef_len hsp
  have kin : K.In s.heap := e0.mod.kin.keeps fun b o q => (e0.bs b o q).1
  have nol : s.heap.NoLimit := e0.mod.nolimit.keeps fun b o q => (e0.bs b o q).1
  refine codeAny_call_function hr.depth (kin _ _ lk) rfl S.co S.gen rfl (PySem.W.codeRec_of kin hcd) (hbd _ _ _ _ ?_)
  refine wpAny_newFunctionEnv_cells S.kind (fun ⟨n, v⟩ hy => ?_) fun env he s1 xx => ?_
  · rcases S.par n (List.of_mem_zip hy).1 with z | z
    · exact .inl z
    · exact .inr ⟨z, PySem.W.cellsFrom_some _ _ _ (.inl z)⟩
  subst he
  refine ⟨nol.keeps xx.toInCall.keep, codeAny_func ?_⟩
  have body := (hb cdv A outer s H E (hr.deeper _) hgu).nox
  have I := inv_start (CX := CX0) (E := E) (qual := qual) (f := f) (cd := cdv) S hr.hd e0 hlen hvu xx
  refine wpAny_mono (body.run [] s1 (L2.start N vs) H _ I (body_down hsp)) (fun fl s' hs => ?_) fun e s' hs => hs
  cases fl with
  | ret u => obtain ⟨v, σ', H', J, rv, q⟩ := hs; exact ⟨v, H', J.os, J.bare, J.base, J.hok, rv, q⟩
  | next => obtain ⟨σ', H', J, q⟩ := hs; exact ⟨.non, H', J.os, J.bare, J.base, J.hok, rfl, q⟩
  | brk => obtain ⟨_, _, _, q⟩ := hs; exact q.elim
  | cont => obtain ⟨_, _, _, q⟩ := hs; exact q.elim
/-- the law's call, from the heap that the top has left -/
theorem law_go {mb : Str → Option Value} {k : Nat} {fa a : Addr} {fd : FuncData} {x : Str} {sp : Sp} {s1 : Shared} {vs : List Value} {ns : List Int} (kx : K.In s1.heap) (hns : s1.heap.Ns mainGlobals mg) (hb : s1.heap.Ns builtinsNs mb) (hbb : ∀ x : Str, x ≠ "__name__" → mb x = bootBuiltins x)
    (hlim : s1.heap.NoLimit) (hg : s1.gens = #[]) (ha : s1.heap.get? a = some { cls := .type "list", data := .seq vs.toArray }) (hi : IntsAre vs ns) (hl : ns.length ≤ sizeLine) (hr : Room k callerA)
    (F : ∀ base : Heap, K.In base → base.Ns mainGlobals mg → FnG P w K mg base k fa fd [x] sp) (hbind : ∀ (s : Shared) (u : Value), BindsTo s fd ⟨[u], []⟩ [(x, u)])
    (hsp : ∀ H : Hp, Lp K H a (ns.map V.int) → sp [.ref a] H (fun v _ => v = .bl true) fun _ _ _ => False) :
    codeAny (model P w) callerA (.call (.ref fa) ⟨[.ref a], []⟩) (fun r s' => r = .ok (.ret (.bool true)) ∧ OldK s1.heap s'.heap ∧ s'.os = s1.os ∧ AllBare s'.gens) s1 := by
  have rv := vals_ints hi
  have hz : (ns.map V.int).length ≤ sizeLine := by rw [List.length_map]; exact hl
  -- over an abstract heap that holds the script at most
  have core : ∀ H : Hp, (∀ b, b ≠ a → H b = none) → HOk P w H s1.heap → (H a ≠ none → K.lookup a = none) → (∀ u, H a = some u → u = .frz { cls := .type "list", data := .seq vs.toArray } (.lst (ns.map V.int))) → Lp K H a (ns.map V.int) →
      codeAny (model P w) callerA (.call (.ref fa) ⟨[.ref a], []⟩) (fun r s' => r = .ok (.ret (.bool true)) ∧ OldK s1.heap s'.heap ∧ s'.os = s1.os ∧ AllBare s'.gens) s1 := by
    intro H Hn ok hna hfz lp
    have dictN : ∀ {b : Addr} {o : Obj} {es : Array DictEntry} {ep : Nat}, s1.heap.get? b = some o → o.data = .dict es ep → H b = none := fun {b o es ep} e d => Hn b fun q => by
      rw [q, ha] at e; cases e; cases (show Data.seq vs.toArray _ = Data.dict es ep from d)
    have nsK : ∀ {b : Addr} {m : Str → Option Value}, s1.heap.Ns b m → (hidT s1.heap H).Ns b m := fun ⟨o, es, ep, e, d, r⟩ => ⟨o, es, ep, hidT_get e (dictN e d), d, r⟩
    have kb : K.In (hidT s1.heap H) := fun b o e => hidT_get (kx b o e) (by
      by_cases q : b = a
      · subst q
        cases h : H b with
        | none => rfl
        | some u => rw [hna (by rw [h]; exact Option.some_ne_none _)] at e; cases e
      · exact Hn b q)
    have md : Mod K mg (hidT s1.heap H) := ⟨kb, nsK hns, ⟨mb, nsK hb, hbb⟩, let ⟨mc, h1, h2⟩ := hlim; ⟨mc, nsK h1, h2⟩⟩
    have e0 : Env0 P w K mg (hidT s1.heap H) callerA [] s1 H := ⟨rfl, md, fun b o e => of_hidT e, Nat.le_of_eq (hidT_size _ _), trivial, fun b z => (by cases z), ok, .of_eq hg⟩
    refine codeAny_mono ((F _ kb (nsK hns)).run callerA [] s1 H ⟨[.ref a], []⟩ [.ref a] [.ref a] _ _ hr rfl e0 (hbind s1 (.ref a)) (.cons rfl .nil) (hsp H lp)) fun r s' h => ?_
    cases r with
    | error e => exact h.elim
    | ok fl =>
      cases fl with
      | next => exact False.elim h
      | brk => exact False.elim h
      | cont => exact False.elim h
      | ret u =>
        obtain ⟨v, H', os, bare, un, hok', r', q⟩ := h
        obtain rfl : v = .bl true := q
        obtain rfl : u = Value.bool true := r'
        refine ⟨rfl, OldK.of_keep fun b o e => ?_, os, bare⟩
        cases q : H b with
        | none => exact un.keep b o e q (by intro z; cases z) (by intro z; cases z)
        | some u =>
          have eb : b = a := by
            by_cases z : b = a
            · exact z
            · rw [Hn b z] at q; cases q
          subst eb
          have hu := hfz u q
          subst hu
          rw [ha] at e; cases e
          exact (hok' b _ (un.frzs b _ _ q)).1
  cases hk : K.lookup a with
  | some o =>
    have e := kx a o hk
    rw [ha] at e; cases e
    exact core (fun _ => none) (fun _ _ => rfl) (fun b u z => by cases z) (fun z => absurd rfl z) (fun u z => by cases z) (.inr ⟨vs, 0, hk, hz, rv⟩)
  | none =>
    let H : Hp := fun b => if b = a then some (.frz { cls := .type "list", data := .seq vs.toArray } (.lst (ns.map V.int))) else none
    have Ha : H a = some (.frz { cls := .type "list", data := .seq vs.toArray } (.lst (ns.map V.int))) := if_pos rfl
    refine core H (fun b h => if_neg h) (fun b u z => ?_) (fun _ => hk) (fun u z => by rw [Ha] at z; cases z; rfl) (.inl (.inr ⟨_, Ha⟩))
    by_cases q : b = a
    · subst q; rw [Ha] at z; cases z
      exact ⟨ha, hz, vs, _, rv, ha⟩
    · rw [show H b = none from if_neg q] at z; cases z
end
/-- THE END: the law as a def of the module -/
theorem walk_law {l : PySem.W.OpenLaw} {k : Nat} {q : Program} {loose : List Str} {XP : (Str → Option Value) → Heap → Prop} {YP : World → Heap → Prop} {d : DefRec} {K : Params → Frag} {sem : Sem'} {x : Str} (hn : l.most = some 63) (hdf : d.params.defaults = []) (hr : Room k callerA)
    (hY : ∀ (w : World) (h : Heap), YP w h → (K w.params).In h)
    (F : ∀ (w : World) (mg : Str → Option Value) (fa : Addr) (h : Heap), (K w.params).In h → h.Ns mainGlobals mg → mg d.name = some (.ref fa) →
      ∃ fd : FuncData, (∀ (s : Shared) (u : Value), BindsTo s fd ⟨[u], []⟩ [(x, u)]) ∧ ∀ base : Heap, (K w.params).In base → base.Ns mainGlobals mg → FnG l.prog w (K w.params) mg base k fa fd [x] (spF (K w.params) sem))
    (hs : ∀ ns : List Int, ns.length ≤ 63 → ∃ ms', sem [.sh (.list (ns.map .int))] = some (.sh (.bool true), ms')) :
    PySem.W.WalkO q loose XP YP l.row.toRowW d [] (fun f vs => PySem.call f vs) := by
  refine Att.attach_call hn hdf fun w s0 s1 mg mb fa o pm cd doc a vs ns G Y ho hd hcd hmg hobj hints hlen hg => ?_
  have kx := hY w _ Y
  obtain ⟨fd, hb, hF⟩ := F w mg fa _ kx G.T.g hmg
  refine law_go kx G.T.g G.T.b G.T.builtins G.T.nolimit hg hobj hints (Nat.le_trans hlen (by rw [sizeLine_eq]; decide)) hr hF hb fun H rd => ?_
  obtain ⟨ms', e⟩ := hs ns hlen
  have Zn : Hid ⟨fun _ => False, fun _ => none⟩ (fun _ => []) [] = fun _ => False := funext fun b => propext ⟨fun h => (by
    rcases h with h | ⟨_, h⟩ | h
    · exact h
    · cases h
    · cases h), fun h => h.elim⟩
  have hH : Same H (hid H (fun _ => False)) := fun b o e => hid_some.mpr ⟨id, e⟩
  refine ⟨⟨fun _ => False, fun _ => none⟩, fun _ => [], [.sh (.list (ns.map .int))], .sh (.bool true), ms', ⟨rfl, fun i m qi => ?_, fun _ _ => rfl, fun _ _ _ h => (nomatch h), fun _ _ h => (nomatch h), fun b h z => z, fun b h => h.elim, fun _ h => (nomatch h), fun _ _ h => (nomatch h)⟩, fun i m qi hf => ?_, e, fun v H' L' T I' S' rm => ?_⟩
  · cases i with
    | succ i => cases qi
    | zero =>
      cases qi
      exact ⟨.ref a, rfl, by rw [Zn]; exact .lst (rd.up hH) (RDs.ints ns), rfl⟩
  · cases i with
    | succ i => cases qi
    | zero => cases qi; cases hf
  · have z := rm.1
    cases z; rfl
end Pv

namespace Pv
open PySem PySem.Spec PyProof.Rows L2
/-! ### the drawing dict of the laws -/
theorem Rel.hold {K : Frag} {Z : Zt} {L : Nat → List Addr} {σ : L2.St} {H : Hp} {st : Sx} {D : Addr} (I : Rel K Z L [D] σ H st) : Rel K (Z.plus D) L [] σ H st := by
  refine ⟨I.len, fun i m q => ?_, I.emp, I.dis, fun _ _ _ h => (nomatch h), fun b h z => ?_, fun b h => ?_, fun _ h => (nomatch h), I.pn⟩
  · obtain ⟨v, h1, h2⟩ := I.slot i m q
    exact ⟨v, h1, by rw [hid_one]; exact h2⟩
  · rcases h with ⟨i, h⟩ | h
    · rcases z with z | z
      · exact I.dz b (.inl ⟨i, h⟩) z
      · exact I.dt i b h (by rw [z]; simp)
    · cases h
  · rcases h with h | h
    · exact I.zin b h
    · exact I.tin b (by rw [h]; simp)
theorem hid_more {Z : Zt} {L : Nat → List Addr} {T : List Addr} {D : Addr} : Hid (Z.plus D) L T = Hid Z L (D :: T) := funext fun b => propext (by
    unfold Hid Own
    constructor
    · rintro ((h | h) | h | h)
      · exact .inl h
      · exact .inr (.inr (by rw [h]; simp))
      · exact .inr (.inl h)
      · exact .inr (.inr (List.mem_cons_of_mem _ h))
    · rintro (h | h | h)
      · exact .inl (.inl h)
      · exact .inr (.inl h)
      · rcases List.mem_cons.mp h with h | h
        · exact .inl (.inr h)
        · exact .inr (.inr h))
theorem Rel.more {K : Frag} {Z : Zt} {L : Nat → List Addr} {T : List Addr} {σ : L2.St} {H : Hp} {st : Sx} {D : Addr} (I : Rel K (Z.plus D) L T σ H st) (hZ : ¬ Z.h D) : Rel K Z L (D :: T) σ H st := by
  refine ⟨I.len, fun i m q => ?_, I.emp, I.dis, fun i b h1 h2 => ?_, fun b h z => ?_, fun b h => I.zin b (.inl h), fun b h => ?_, I.pn⟩
  · obtain ⟨v, h1, h2⟩ := I.slot i m q
    exact ⟨v, h1, by rw [← hid_more]; exact h2⟩
  · rcases List.mem_cons.mp h2 with h2 | h2
    · exact I.dz b (.inl ⟨i, h1⟩) (.inr h2)
    · exact I.dt i b h1 h2
  · rcases h with h | h
    · exact I.dz b (.inl h) (.inl z)
    · rcases List.mem_cons.mp h with h | h
      · exact hZ (by rw [← h]; exact z)
      · exact I.dz b (.inr h) (.inl z)
  · rcases List.mem_cons.mp h with h | h
    · exact I.zin b (.inr h)
    · exact I.tin b h
theorem k_cl : ¬ (("cells" : Str) = "left") := by decide +kernel
theorem k_cm : ¬ (("cells" : Str) = "mixed") := by decide +kernel
theorem k_ct : ¬ (("cells" : Str) = "turn") := by decide +kernel
theorem k_lm' : ¬ (("left" : Str) = "mixed") := by decide +kernel
theorem k_lt : ¬ (("left" : Str) = "turn") := by decide +kernel
theorem k_tl : ¬ (("turn" : Str) = "left") := by decide +kernel
theorem k_tm : ¬ (("turn" : Str) = "mixed") := by decide +kernel
theorem k_ml : ¬ (("mixed" : Str) = "left") := by decide +kernel
theorem k_mt : ¬ (("mixed" : Str) = "turn") := by decide +kernel
abbrev kS (x : Str) : Key := .inr x
theorem kS_ne {x y : Str} (h : ¬ x = y) : ¬ (kS x = kS y) := fun e => h (Sum.inr.inj e)
theorem srcD_make (c : Addr) (s : Src) : mergeK [] [(kS "cells", .ref c), (kS "left", .int s.left), (kS "mixed", .int s.mixed), (kS "turn", .int s.turn)] = srcD c s := by
  unfold mergeK srcD
  simp [putK, k_cl, k_cm, k_ct, k_lm', k_lt, k_mt, kS]
theorem srcD_cells (c : Addr) (s : Src) : valV (srcD c s) (kS "cells") = some (.ref c) := by
  unfold srcD; simp [valV, kS]
theorem srcD_left (c : Addr) (s : Src) : valV (srcD c s) (kS "left") = some (.int s.left) := by
  unfold srcD; simp [valV, kS, k_cl]
theorem srcD_mixed (c : Addr) (s : Src) : valV (srcD c s) (kS "mixed") = some (.int s.mixed) := by
  unfold srcD; simp [valV, kS, k_cm, k_lm']
theorem srcD_turn (c : Addr) (s : Src) : valV (srcD c s) (kS "turn") = some (.int s.turn) := by
  unfold srcD; simp [valV, kS, k_ct, k_lt, k_mt]
theorem srcD_pleft (c : Addr) (s : Src) (i : Int) : putK (srcD c s) (kS "left") (.int i) = srcD c { s with left := i } := by
  unfold srcD putK; simp [kS, k_cl, k_lm', k_lt, k_tl, k_ml]
theorem srcD_pmixed (c : Addr) (s : Src) (i : Int) : putK (srcD c s) (kS "mixed") (.int i) = srcD c { s with mixed := i } := by
  unfold srcD putK; simp [kS, k_cm, k_lm', k_mt, k_tm]
theorem srcD_pturn (c : Addr) (s : Src) (i : Int) : putK (srcD c s) (kS "turn") (.int i) = srcD c { s with turn := i } := by
  unfold srcD putK; simp [kS, k_ct, k_lt, k_mt]
/-- a field of it -/
inductive SF where
  | left
  | mixed
  | turn
def SF.nm : SF → Str
  | .left => "left"
  | .mixed => "mixed"
  | .turn => "turn"
def SF.get : SF → Src → Int
  | .left, s => s.left
  | .mixed, s => s.mixed
  | .turn, s => s.turn
def SF.put : SF → Src → Int → Src
  | .left, s, i => { s with left := i }
  | .mixed, s, i => { s with mixed := i }
  | .turn, s, i => { s with turn := i }
theorem SF.val (k : SF) (c : Addr) (s : Src) : valV (srcD c s) (kS k.nm) = some (.int (k.get s)) := by
  cases k
  · exact srcD_left c s
  · exact srcD_mixed c s
  · exact srcD_turn c s
theorem SF.set (k : SF) (c : Addr) (s : Src) (i : Int) : putK (srcD c s) (kS k.nm) (.int i) = srcD c (k.put s i) := by
  cases k
  · exact srcD_pleft c s i
  · exact srcD_pmixed c s i
  · exact srcD_pturn c s i
theorem SF.cells (k : SF) (s : Src) (i : Int) : (k.put s i).cells = s.cells := by cases k <;> rfl
def eSrc (j : Nat) (k : SF) : FE := fun st => match st[j]? with
  | some (some (.src s)) => some (.val (.int (k.get s)), st)
  | _ => none
def eSrcLen (j : Nat) : FE := fun st => match st[j]? with
  | some (some (.src s)) => some (.val (.int s.cells.length), st)
  | _ => none
def eSrcPop (j : Nat) : FE := fun st => match st[j]? with
  | some (some (.src s)) => (s.cells[s.cells.length - 1]?).bind fun c => some (.val (.int c), st.set j (some (.src { s with cells := s.cells.dropLast })))
  | _ => none
def sSrc (j : Nat) (k : SF) (f : FE) : FS := fun st => (f st).bind fun p => (dat p.2 p.1).bind fun a => match a, p.2[j]? with
  | .int i, some (some (.src s)) => some (.next, p.2.set j (some (.src (k.put s i))))
  | _, _ => none
section
variable {K : Frag} {Z : Zt} {L : Nat → List Addr} {T : List Addr} {σ : L2.St} {H : Hp} {st : Sx} {j : Nat} {s : Src}
theorem Rel.src (I : Rel K Z L T σ H st) (h : st[j]? = some (some (.src s))) : ∃ p c, σ[j]? = some (some (.ref p)) ∧ L j = [p, c] ∧ H p = some (.dK (srcD c s)) ∧ H c = some (.lst (s.cells.map V.int)) := by
  obtain ⟨v, h1, p, c, h2, h3, h4, h5⟩ := I.slot j _ h
  subst h2
  exact ⟨p, c, h1, h3, h4, h5⟩
theorem Rel.srcPut {p c : Addr} {s' : Src} {H' : Hp} (I : Rel K Z L T σ H st) (h : st[j]? = some (some (.src s))) (hv : σ[j]? = some (some (.ref p))) (hL : L j = [p, c]) (k : ∀ b o, b ≠ p → b ≠ c → H b = some o → H' b = some o) (h1 : H' p = some (.dK (srcD c s'))) (h2 : H' c = some (.lst (s'.cells.map V.int))) :
    Rel K Z L T σ H' (st.set j (some (.src s'))) ∧ Step (Own L T) H (Own L T) H' := by
  have kk : ∀ b o, b ∉ L j → H b = some o → H' b = some o := fun b o n e => k b o (fun z => n (by rw [hL, z]; simp)) (fun z => n (by rw [hL, z]; simp)) e
  exact ⟨I.change h hv kk ⟨p, c, rfl, hL, h1, h2⟩ rfl, Step.change kk⟩
end
section
variable {X : Cx} {x : Str} {j jj : Nat} {pp pos pos' apos : Pos} {kp : Pos}
theorem pe_srcF (hu : X.A.units + 1 < cLine) (y : Str) (hN : X.N[j]? = some x) (hv : Vis X.env.scope x) (hd : (x == ("__debug__" : Str)) = false) (hcd : (x == ("__classdict__" : Str)) = false) : PE X (.Subscript (.Name x pp) (.Constant (.str y) jj kp) pos) (tDGet (tVar j) (tC (.str y))) :=
  pe_dget hu (pe_var hN hv hd hcd) pe_str (fun _ _ => rfl)
theorem k_src (k : SF) (hu : X.A.units + 1 < cLine) (hN : X.N[j]? = some x := by rfl) (hv : Vis X.env.scope x := by first | exact Or.inl rfl | exact Or.inr (Or.inl rfl) | exact Or.inr (Or.inr rfl)) (hd : (x == ("__debug__" : Str)) = false := by decide) (hcd : (x == ("__classdict__" : Str)) = false := by decide) :
    PE X (.Subscript (.Name x pp) (.Constant (.str k.nm) jj kp) pos) (TEv X.K (eSrc j k)) :=
  (pe_srcF hu k.nm hN hv hd hcd).wk fun σ H Q ⟨Z, L, st, r, st', I, e, q⟩ => by
    unfold eSrc at e
    split at e
    · rename_i s hs
      cases e
      obtain ⟨p, c, h1, h2, h3, h4⟩ := I.src hs
      refine ⟨_, h1, p, .int (k.get s), rfl, ?_, q _ H L I (.refl _ _) (.int _)⟩
      have g := DGet.k (k := kS k.nm) h3
      rw [k.val] at g
      exact g
    · cases e
theorem k_srcLen (hu : X.A.units + 1 < cLine) {fp : Pos} (hm : X.mg "len" = none) (hg : Gl X "len" := by rfl) (hN : X.N[j]? = some x := by rfl) (hv : Vis X.env.scope x := by first | exact Or.inl rfl | exact Or.inr (Or.inl rfl) | exact Or.inr (Or.inr rfl)) (hd : (x == ("__debug__" : Str)) = false := by decide) (hcd : (x == ("__classdict__" : Str)) = false := by decide) :
    PE X (.Call (.Name "len" fp) [.Subscript (.Name x pp) (.Constant (.str "cells") jj kp) pos] [] pos') (TEv X.K (eSrcLen j)) :=
  (pe_callB call_len_seq hg hm (by decide +kernel) (pa_one (pe_srcF hu "cells" hN hv hd hcd))).wk fun σ H Q ⟨Z, L, st, r, st', I, e, q⟩ => by
    unfold eSrcLen at e
    split at e
    · rename_i s hs
      cases e
      obtain ⟨p, c, h1, h2, h3, h4⟩ := I.src hs
      refine ⟨_, h1, p, .ref c, rfl, ?_, c, _, rfl, .inl (SqL.of h4), ?_⟩
      · have g := DGet.k (k := kS "cells") h3
        rw [srcD_cells] at g
        exact g
      · rw [List.length_map]; exact q _ H L I (.refl _ _) (.int _)
    · cases e
theorem k_srcPop (hu : X.A.units + 1 < cLine) (hN : X.N[j]? = some x := by rfl) (hv : Vis X.env.scope x := by first | exact Or.inl rfl | exact Or.inr (Or.inl rfl) | exact Or.inr (Or.inr rfl)) (hd : (x == ("__debug__" : Str)) = false := by decide) (hcd : (x == ("__classdict__" : Str)) = false := by decide)
    (hbase : attributeBase (.Subscript (.Name x pp) (.Constant (.str "cells") jj kp) pos) "pop" X.env (eval (.Subscript (.Name x pp) (.Constant (.str "cells") jj kp) pos) X.env) = eval (.Subscript (.Name x pp) (.Constant (.str "cells") jj kp) pos) X.env := by rfl) (hline : (apos.endLine == pos'.line) = true := by rfl) :
    PE X (.Call (.Attribute (.Subscript (.Name x pp) (.Constant (.str "cells") jj kp) pos) "pop" apos) [] [] pos') (TEv X.K (eSrcPop j)) :=
  (pe_bm0 PySem.F.plainAttrs_list PySem.F.slot_list_pop PySem.F.type_list_pop mt_pop (pe_srcF hu "cells" hN hv hd hcd) hbase hline).wk fun σ H Q ⟨Z, L, st, r, st', I, e, q⟩ => by
    unfold eSrcPop at e
    split at e
    · rename_i s hs
      obtain ⟨i, e1, e⟩ := Option.bind_eq_some_iff.mp e
      cases e
      obtain ⟨p, c, h1, h2, h3, h4⟩ := I.src hs
      have g := DGet.k (k := kS "cells") h3
      rw [srcD_cells] at g
      have npc : p ≠ c := fun z => by rw [z, h4] at h3; cases h3
      refine ⟨_, h1, p, .ref c, rfl, g, .inl ⟨rfl, _, SqL.of h4⟩, c, _, .int i, rfl, rfl, h4, by rw [List.length_map, List.getElem?_map, e1]; rfl, ?_⟩
      obtain ⟨I2, S2⟩ := I.srcPut (s' := { s with cells := s.cells.dropLast }) (H' := upd H c (.lst (s.cells.map V.int).dropLast)) hs h1 h2 (fun b o _ n e => by rw [upd_ne n]; exact e) (by rw [upd_ne npc]; exact h3) (by rw [upd_same, List.map_dropLast])
      exact q _ _ L I2 S2 (.int i)
    · cases e
theorem k_srcPut (k : SF) {value : Expr} {spos : Pos} {f : FE} (hu : X.A.units + 1 < cLine) (he : PE X value (TEv X.K f)) (hN : X.N[j]? = some x := by rfl) (hv : Vis X.env.scope x := by first | exact Or.inl rfl | exact Or.inr (Or.inl rfl) | exact Or.inr (Or.inr rfl)) (hd : (x == ("__debug__" : Str)) = false := by decide) (hcd : (x == ("__classdict__" : Str)) = false := by decide)
    (hs : swapsWith value (some (.Subscript (.Name x pp) (.Constant (.str k.nm) jj kp) pos)) spos.line X.env = pure false := by rfl) : PS X (.Assign [.Subscript (.Name x pp) (.Constant (.str k.nm) jj kp) pos] value spos) (TSv X.K (sSrc j k f)) :=
  (ps_dput hu (pe_var hN hv hd hcd) pe_str he hs).wk fun D σ H ⟨Z, L, st, o, st', I, e, q⟩ => by
    obtain ⟨⟨r, s1⟩, e1, e⟩ := Option.bind_eq_some_iff.mp e
    obtain ⟨a, e2, e⟩ := Option.bind_eq_some_iff.mp e
    dsimp only at e
    split at e
    · rename_i i s hs
      cases e
      refine ⟨Z, L, st, r, s1, I, e1, fun v H1 L1 I1 S1 rv => ?_⟩
      obtain ⟨p, c, h1, h2, h3, h4⟩ := I1.src hs
      have npc : c ≠ p := fun z => by rw [← z, h4] at h3; cases h3
      have ev := (I1.rx rv e2).int
      subst ev
      obtain ⟨I2, S2⟩ := I1.srcPut (s' := k.put s i) (H' := upd H1 p (.dK (srcD c (k.put s i)))) hs h1 h2 (fun b o n _ e => by rw [upd_ne n]; exact e) upd_same (by rw [upd_ne npc, k.cells]; exact h4)
      refine ⟨_, h1, p, _, rfl, ?_, q σ _ L1 I2 (S1.trans S2)⟩
      have g := DPut.k (k := kS k.nm) (v := .int i) h3 (by show 4 < sizeLine; decide)
      rw [k.set] at g
      exact g
    · cases e
/-- the dict made -/
def oSrc (f1 : FO) (f2 f3 f4 : FE) : FO := fun st => (f1 st).bind fun p1 => (f2 p1.2).bind fun p2 => (dat p2.2 p2.1).bind fun a2 => (f3 p2.2).bind fun p3 => (dat p3.2 p3.1).bind fun a3 => (f4 p3.2).bind fun p4 => (dat p4.2 p4.1).bind fun a4 => match p1.1, a2, a3, a4 with
  | .ol false ds, .int i2, .int i3, .int i4 => (intsOf ds).bind fun ns => some (.src ⟨ns, i2, i3, i4⟩, p4.2)
  | _, _, _, _ => none
theorem k_oSrc {v1 v2 v3 v4 : Expr} {j1 j2 j3 j4 : Nat} {p1 p2 p3 p4 pos : Pos} {f1 : FO} {f2 f3 f4 : FE} (h1 : PE X v1 (TOv X.K f1)) (h2 : PE X v2 (TEv X.K f2)) (h3 : PE X v3 (TEv X.K f3)) (h4 : PE X v4 (TEv X.K f4)) :
    PE X (.Dict [some (.Constant (.str "cells") j1 p1), some (.Constant (.str "left") j2 p2), some (.Constant (.str "mixed") j3 p3), some (.Constant (.str "turn") j4 p4)] [v1, v2, v3, v4] pos) (TOv X.K (oSrc f1 f2 f3 f4)) :=
  (pe_disp (pps_cons pe_str h1 (pps_cons pe_str h2 (pps_cons pe_str h3 (pps_cons pe_str h4 pps_nil)))) rfl rfl (fun z => by cases z) (by show 4 ≤ 15; decide)).wk fun σ H Q ⟨Z, L, st, m, st', I, e, q⟩ => by
    obtain ⟨⟨m1, s1⟩, e1, ea⟩ := Option.bind_eq_some_iff.mp e
    obtain ⟨⟨r2, s2⟩, e2, eb⟩ := Option.bind_eq_some_iff.mp ea
    obtain ⟨a2, d2, ec⟩ := Option.bind_eq_some_iff.mp eb
    obtain ⟨⟨r3, s3⟩, e3, ed⟩ := Option.bind_eq_some_iff.mp ec
    obtain ⟨a3, d3, ee⟩ := Option.bind_eq_some_iff.mp ed
    obtain ⟨⟨r4, s4⟩, e4, ef⟩ := Option.bind_eq_some_iff.mp ee
    obtain ⟨a4, d4, eg⟩ := Option.bind_eq_some_iff.mp ef
    clear e ea eb ec ed ee ef
    dsimp only at eg d2 d3 d4 e2 e3 e4
    split at eg
    · rename_i ds i2 i3 i4
      obtain ⟨ns, e5, eg⟩ := Option.bind_eq_some_iff.mp eg
      cases eg
      intro p hp
      have nZp : ¬ Z.h p := fun z => I.zin p z hp
      have I0 := I.hide (o := .dK []) hp
      refine ⟨_, L, st, _, s1, I0, e1, fun u1 H1 L1 T1 I1 S1 rm => ?_⟩
      obtain ⟨c, vs, rfl, hc, rdc, rfl⟩ := rm
      have ev := rdc.toInts e5
      subst ev
      have I1' := I1.hold
      have nZc : ¬ (Z.plus p).h c := I1.dz c (.inr (by simp))
      refine ⟨_, L1, s1, r2, s2, I1', e2, fun u2 H2 L2 I2 S2 rv2 => ?_⟩
      refine ⟨_, L2, s2, r3, s3, I2, e3, fun u3 H3 L3 I3 S3 rv3 => ?_⟩
      refine ⟨_, L3, s3, r4, _, I3, e4, fun u4 H4 L4 I4 S4 rv4 => ?_⟩
      have v2 := (I2.rx rv2 d2).int
      have v3 := (I3.rx rv3 d3).int
      have v4 := (I4.rx rv4 d4).int
      subst v2 v3 v4
      have np1 : ¬ Own L1 [] p := fun z => I1'.dz p z (.inl (.inr rfl))
      have np2 : ¬ Own L2 [] p := fun z => I2.dz p z (.inl (.inr rfl))
      have np3 : ¬ Own L3 [] p := fun z => I3.dz p z (.inl (.inr rfl))
      have np0 : ¬ Own L [] p := fun z => I0.dz p z (.inr rfl)
      have nc1 : ¬ Own L1 [] c := fun z => I1'.dz c z (.inr rfl)
      have nc2 : ¬ Own L2 [] c := fun z => I2.dz c z (.inr rfl)
      have nc3 : ¬ Own L3 [] c := fun z => I3.dz c z (.inr rfl)
      have hp4 : H4 p = some (.dK []) := S4.keep p _ (S3.keep p _ (S2.keep p _ (S1.keep p _ upd_same np0) np1) np2) np3
      have hc4 : H4 c = some (.lst (ns.map V.int)) := S4.keep c _ (S3.keep c _ (S2.keep c _ hc nc1) nc2) nc3
      have npc : c ≠ p := fun z => by rw [z, hp4] at hc4; cases hc4
      refine ⟨hp4, [(kS "cells", .ref c), (kS "left", .int i2), (kS "mixed", .int i3), (kS "turn", .int i4)], rfl, (by show 4 ≤ 15; decide), ?_⟩
      rw [srcD_make c ⟨ns, i2, i3, i4⟩]
      have IF := ((I4.rehide (D := p) (o := .dK (srcD c ⟨ns, i2, i3, i4⟩)) (.inl (.inr rfl))).more nZc).more nZp
      have SA : Step (Own L []) (upd H p (.dK [])) (Own L4 []) H4 := S1.drop.trans (S2.trans (S3.trans S4))
      refine q _ _ L4 [p, c] IF ⟨fun b o e n => ?_, fun b h => ?_⟩ ⟨p, c, rfl, rfl, upd_same, by rw [upd_ne npc]; exact hc4⟩
      · have nb : b ≠ p := ne_of_none e hp
        rw [upd_ne nb]
        exact SA.keep b o (by rw [upd_ne nb]; exact e) n
      · have back : ∀ b, (upd H p (.dK [])) b = none → H b = none := fun b e => by
          by_cases z : b = p
          · rw [z]; exact hp
          · rw [upd_ne z] at e; exact e
        rcases h with ⟨i, h⟩ | h
        · exact (SA.young b (.inl ⟨i, h⟩)).imp id (back b)
        · rcases List.mem_cons.mp h with z | h
          · rw [z]; exact .inr hp
          · exact (S1.young b (.inr h)).imp id (back b)
    · cases eg
end
end Pv

namespace Pv
open PySem PySem.Spec PyProof.Rows L2
/-! ### what is held while other things are asked -/
def Zt.plusL (Z : Zt) (T : List Addr) : Zt := ⟨fun b => Z.h b ∨ b ∈ T, Z.pin⟩
theorem hid_plusL {Z : Zt} {L : Nat → List Addr} {T T2 : List Addr} : Hid (Z.plusL T) L T2 = Hid Z L (T ++ T2) := funext fun b => propext (by
    unfold Hid Own
    constructor
    · rintro ((h | h) | h | h)
      · exact .inl h
      · exact .inr (.inr (List.mem_append.mpr (.inl h)))
      · exact .inr (.inl h)
      · exact .inr (.inr (List.mem_append.mpr (.inr h)))
    · rintro (h | h | h)
      · exact .inl (.inl h)
      · exact .inr (.inl h)
      · rcases List.mem_append.mp h with h | h
        · exact .inl (.inr h)
        · exact .inr (.inr h))
theorem Rel.holdL {K : Frag} {Z : Zt} {L : Nat → List Addr} {T : List Addr} {σ : L2.St} {H : Hp} {st : Sx} (I : Rel K Z L T σ H st) : Rel K (Z.plusL T) L [] σ H st := by
  have ee : Hid (Z.plusL T) L [] = Hid Z L T := by rw [hid_plusL, List.append_nil]
  refine ⟨I.len, fun i m q => ?_, I.emp, I.dis, fun _ _ _ h => (nomatch h), fun b h z => ?_, fun b h => ?_, fun _ h => (nomatch h), I.pn⟩
  · obtain ⟨v, h1, h2⟩ := I.slot i m q
    exact ⟨v, h1, by rw [ee]; exact h2⟩
  · rcases h with ⟨i, h⟩ | h
    · rcases z with z | z
      · exact I.dz b (.inl ⟨i, h⟩) z
      · exact I.dt i b h z
    · cases h
  · rcases h with h | h
    · exact I.zin b h
    · exact I.tin b h
theorem Rel.moreL {K : Frag} {Z : Zt} {L : Nat → List Addr} {T T2 : List Addr} {σ : L2.St} {H : Hp} {st : Sx} (I : Rel K (Z.plusL T) L T2 σ H st) (hZ : ∀ b ∈ T, ¬ Z.h b) : Rel K Z L (T ++ T2) σ H st := by
  have ee : Hid (Z.plusL T) L T2 = Hid Z L (T ++ T2) := hid_plusL
  refine ⟨I.len, fun i m q => ?_, I.emp, I.dis, fun i b h1 h2 => ?_, fun b h z => ?_, fun b h => I.zin b (.inl h), fun b h => ?_, I.pn⟩
  · obtain ⟨v, h1, h2⟩ := I.slot i m q
    exact ⟨v, h1, by rw [← ee]; exact h2⟩
  · rcases List.mem_append.mp h2 with h2 | h2
    · exact I.dz b (.inl ⟨i, h1⟩) (.inr h2)
    · exact I.dt i b h1 h2
  · rcases h with h | h
    · exact I.dz b (.inl h) (.inl z)
    · rcases List.mem_append.mp h with h | h
      · exact hZ b h z
      · exact I.dz b (.inr h) (.inl z)
  · rcases List.mem_append.mp h with h | h
    · exact I.zin b (.inr h)
    · exact I.tin b h
/-- a, b = x, y: each name gets its thing -/
def putS (st : Sx) (i : Nat) (m : M) : Option Sx := if open1 st i = true then some (st.set i (some m)) else none
def sPar (i j : Nat) (f g : FO) : FS := fun st => (f st).bind fun p => (g p.2).bind fun q => (putS q.2 j q.1).bind fun s1 => (putS s1 i p.1).bind fun s2 => some (.next, s2)
theorem putS_some {st st' : Sx} {i : Nat} {m : M} (h : putS st i m = some st') : open1 st i = true ∧ st' = st.set i (some m) := by
  unfold putS at h
  split at h
  · cases h; exact ⟨by assumption, rfl⟩
  · cases h
/-- what was held while something else was asked goes to its name -/
theorem Rel.give {K : Frag} {Z : Zt} {L1 L2' : Nat → List Addr} {T1 : List Addr} {σ1 σ2 : L2.St} {H1 H2 : Hp} {st1 st2 : Sx} {i : Nat} {v : V} {m : M} (I1 : Rel K Z L1 T1 σ1 H1 st1) (rm : RM K (hid H1 (Hid Z L1 T1)) H1 v m T1) (I2 : Rel K (Z.plusL T1) L2' [] σ2 H2 st2) (S2 : Step (Own L1 []) H1 (Own L2' []) H2) (ho : open1 st2 i = true) :
    Rel K Z (upL L2' i T1) [] (σ2.set i (some v)) H2 (st2.set i (some m)) := by
  have I3 := I2.moreL fun b hb => I1.dz b (.inr hb)
  rw [List.append_nil] at I3
  have hz := I1.holdL
  have see : Same (hid H1 (Hid Z L1 T1)) (hid H2 (Hid Z L2' T1)) := by
    have s := S2.see (Z := Z.plusL T1)
    rw [hid_plusL, List.append_nil, hid_plusL, List.append_nil] at s
    exact s
  exact I3.put ho (rm.up see fun b o hb e => S2.keep b o e fun z => hz.dz b z (.inr hb))
theorem Step.give {W : Addr → Prop} {H H1 H2 : Hp} {L1 L2 : Nat → List Addr} {T1 : List Addr} (S1 : Step W H (Own L1 T1) H1) (S2 : Step (Own L1 []) H1 (Own L2 []) H2) (i : Nat) : Step W H (Own (upL L2 i T1) []) H2 := by
  have S := S1.drop.trans S2
  refine ⟨S.keep, fun b h => ?_⟩
  rcases h with ⟨j, h⟩ | h
  · by_cases e : j = i
    · rw [upL_eq e] at h; exact S1.young b (.inr h)
    · rw [upL_ne e] at h; exact S.young b (.inl ⟨j, h⟩)
  · cases h
section
variable {X : Cx}
theorem k_par {i j : Nat} {x y : Str} {a b : Expr} {f g : FO} {px py pt pos : Pos} {kt k2 pt2} (hc : X.calm = true) (hN : X.N.Nodup) (ha : PE X a (TOv X.K f)) (hb : PE X b (TOv X.K g))
    (hx : X.env.scope.names.lookup x = some .local) (hy : X.env.scope.names.lookup y = some .local)
    (hw : swappedStores [.Tuple [.Name x px, .Name y py] kt pt] (.Tuple [a, b] k2 pt2) X.env = pure (some [x, y]))
    (hi : X.N[i]? = some x := by rfl) (hj : X.N[j]? = some y := by rfl) (hij : i ≠ j := by decide)
    (hs : swapsWithSole [.Tuple [.Name x px, .Name y py] kt pt] (.Tuple [a, b] k2 pt2) pos.line X.env = pure false := by rfl)
    (s1 : starEach [a, b] X.env = (false, eval a X.env) :: starEach [b] X.env := by rfl) (s2 : starEach [b] X.env = [(false, eval b X.env)] := by rfl) :
    PS X (.Assign [.Tuple [.Name x px, .Name y py] kt pt] (.Tuple [a, b] k2 pt2) pos) (TSv X.K (sPar i j f g)) :=
  (ps_par hc hN hi hj hij hx hy (pa_two ha hb s1 s2) hw hs).wk fun D σ H ⟨Z, L, st, o, st', I, e, q⟩ => by
    obtain ⟨⟨m1, t1⟩, e1, e⟩ := Option.bind_eq_some_iff.mp e
    obtain ⟨⟨m2, t2⟩, e2, e⟩ := Option.bind_eq_some_iff.mp e
    obtain ⟨t3, e3, e⟩ := Option.bind_eq_some_iff.mp e
    obtain ⟨t4, e4, e⟩ := Option.bind_eq_some_iff.mp e
    cases e
    obtain ⟨o3, rfl⟩ := putS_some e3
    obtain ⟨o4, rfl⟩ := putS_some e4
    refine ⟨Z, L, st, m1, t1, I, e1, fun v H1 L1 T1 I1 S1 rm1 => ?_⟩
    refine ⟨Z.plusL T1, L1, t1, m2, t2, I1.holdL, e2, fun w H2 L2 T2 I2 S2 rm2 => ⟨v, w, rfl, ?_⟩⟩
    have I3 := I2.put o3 rm2
    have S3 : Step (Own L1 []) H1 (Own (upL L2 j T2) []) H2 := S2.put j
    have I4 := I1.give rm1 I3 S3 o4
    rw [List.set_comm _ _ hij]
    exact q _ H2 _ I4 (S1.give S3 i)
/-- found[a:c] = .. of the name's own list -/
def gSlAt (j : Nat) (fl fh : FP) : FG := fun d st => if Pv.has st j = true then (fl st).bind fun p => (fh p.2).bind fun q => match d, p.1, q.1, q.2[j]? with
  | .list es, some a, some c, some (some (.ol b ds)) => if 0 ≤ a ∧ a ≤ c ∧ c ≤ ds.length ∧ ds.length + es.length ≤ LIM then some (q.2.set j (some (.ol b (ds.take a.toNat ++ es ++ ds.drop c.toNat)))) else none
  | _, _, _, _ => none
  else none
theorem k_gsl {j : Nat} {x : Str} {pp p2 pos : Pos} {lo hi : Option Expr} {fl fh : FP} (hl : PO X lo (TPv X.K fl)) (hh : PO X hi (TPv X.K fh)) (hN : X.N[j]? = some x := by rfl) (hv : Vis X.env.scope x := by first | exact Or.inl rfl | exact Or.inr (Or.inl rfl) | exact Or.inr (Or.inr rfl)) (hd : (x == ("__debug__" : Str)) = false := by decide) (hcd : (x == ("__classdict__" : Str)) = false := by decide)
    (ha : ∀ v, assign (.Subscript (.Name x pp) (.Slice lo hi none p2) pos) X.env v = (do
      let ov ← holding [v] (eval (.Name x pp) X.env)
      let iv ← holding [v, ov] (eval (.Slice lo hi none p2) X.env)
      standAt pos
      holding [v, ov, iv] (setItem ov iv v)
      release [iv, v, ov] []) := by intro _; rfl) : PG X (.Subscript (.Name x pp) (.Slice lo hi none p2) pos) (TGv X.K (gSlAt j fl fh)) := by
  refine ⟨fun pins s σ H v u Q I0 r ⟨Z, L, st, d, st', I, rd, e, q⟩ => ?_⟩
  rw [ha]
  unfold gSlAt at e
  split at e
  case isFalse => cases e
  rename_i hc
  obtain ⟨w, hw⟩ := I.has hc
  obtain ⟨⟨a0, s1⟩, e1, ea⟩ := Option.bind_eq_some_iff.mp e
  clear e
  obtain ⟨⟨c0, s2⟩, e2, e⟩ := Option.bind_eq_some_iff.mp ea
  clear ea
  dsimp only at e e2
  cases d <;> first | (simp only at e; cases e; done) | skip
  rename_i es
  cases a0 <;> first | (simp only at e; cases e; done) | skip
  rename_i a
  cases c0 <;> first | (simp only at e; cases e; done) | skip
  rename_i c
  cases hj : s2[j]? with
  | none => simp only [hj] at e; cases e
  | some o =>
    cases o with
    | none => simp only [hj] at e; cases e
    | some m =>
      cases m <;> simp only [hj] at e <;> first | (cases e; done) | skip
      rename_i b ds
      split at e
      case isFalse => cases e
      rename_i cond
      cases e
      refine wpAny_bind (wpAny_holding (thn ((pe_var hN hv hd hcd).run pins s σ H (fun v' H' => v' = w ∧ H' = H) I0 ⟨w, hw, rfl, rfl⟩) fun ov s3 ⟨x1, H1, I1, r1, q1⟩ => ?_))
      obtain ⟨rfl, rfl⟩ := q1
      refine wpAny_bind (wpAny_holding (wpAny_Slice (thn (hl.run pins s3 σ H1 (fun l H2 => l = some a ∧ TPv X.K fh σ H2 fun u H3 => u = some c ∧ ∃ L3, Rel X.K Z L3 [] σ H3 s2 ∧ Step (Own L []) H1 (Own L3 []) H3) I1 ⟨Z, L, st, some a, s1, I, e1, fun H2 L2 I2 S2 => ⟨rfl, Z, L2, s1, some c, s2, I2, e2, fun H3 L3 I3 S3 => ⟨rfl, L3, I3, S2.trans S3⟩⟩⟩) fun vl s4 ⟨l, H2, J2, pl, q2⟩ => ?_)))
      obtain ⟨rfl, q2⟩ := q2
      refine thn (hh.run pins s4 σ H2 _ J2 q2) fun vu s5 ⟨u', H3, J3, pu, q3⟩ => ?_
      obtain ⟨rfl, L3, I3, S3⟩ := q3
      rw [evalPart_none]
      refine wpAny_pure ?_
      have J4 : Inv X pins σ H3 { s5 with heap := s5.heap.push { cls := .type "slice", data := .fields #[vl, vu, .none] } } := J3.kept (t' := s5.toks) fun b ob q => Heap.get?_push_of_some _ q
      obtain ⟨p, vs, g1, g2, g3, g4⟩ := I3.lst (ds' := ds.take a.toNat ++ es ++ ds.drop c.toNat) hj hw
      subst g1
      cases r1
      have rd' := rd.up S3.see
      obtain ⟨bb, ys, rfl, la, lb⟩ := RX.of (fun _ _ e => e) rd'
      cases r
      have hp : Hid Z L3 [] p := by
        obtain ⟨_, h1, p', _, h2, _, _, h3⟩ := I3.slot j _ hj
        rw [hw] at h1; cases h1; cases h2
        exact .inr (.inl ⟨j, by rw [h3]; simp⟩)
      obtain ⟨z, its, n, rr, hlen, ee⟩ := J4.lstM g2
      obtain ⟨z2, its2, n2, rr2, ee2⟩ := (la.up hid_sub).obj J4
      have hne : p ≠ bb := fun z => by
        subst z
        rcases la with (h | ⟨_, h⟩) | ⟨_, _, h, _⟩
        · exact (hid_some.mp h).1 hp
        · exact (hid_some.mp h).1 hp
        · have := (J4.bs _ _ (J4.mod.kin _ _ h)).2
          rw [g2] at this; cases this
      have hl2 := rr2.length
      have dl := g3.len
      obtain ⟨a', rfl⟩ := Int.eq_ofNat_of_zero_le cond.1
      obtain ⟨c', rfl⟩ := Int.eq_ofNat_of_zero_le (Int.le_trans cond.1 cond.2.1)
      have lb2 := lb.len
      have cl := cond.2.2.2
      have sz := lim_line cl
      have vl1 := rr.length
      refine wpAny_bind (wpAny_standAt (wpAny_bind (wpAny_holding (setItem_slice (a := a') (c := c') ee ee2 hne (Heap.IsSliceOf.new ..) pl pu (by omega) (by rw [List.size_toArray]; omega) (by rw [List.size_toArray, List.size_toArray]; omega) ?_))))
      obtain ⟨I4, S4⟩ := g4 (vs.take a' ++ ys ++ vs.drop c') (RDs.app (RDs.app (g3.take _) lb) (g3.drop _))
      refine wpAny_release ⟨σ, _, ?_, q σ _ L3 I4 (S3.trans S4)⟩
      refine J4.lset (its' := its.take a' ++ its2 ++ its.drop c') (t' := s5.toks) g2 ee ?_ (Vals.append (Vals.append (rr.take _) rr2) (rr.drop _)) ?_
      · exact splice_eq its its2 a' c'
      · rw [List.length_append, List.length_append, List.length_take, List.length_drop]
        omega
end
/-! ### texts against each other -/
def gEqS : PyData → PyData → Option PyData
  | .str x, .str y => some (.bool (decide (x = y)))
  | _, _ => none
def gNeS : PyData → PyData → Option PyData
  | .str x, .str y => some (.bool (!decide (x = y)))
  | _, _ => none
theorem v2_eqS {K : Frag} : V2 K rEq gEqS := fun H x y a b d Q e h => by
  cases a <;> cases b <;> first | (cases e; done) | skip
  rename_i i j
  have e : some (PyData.bool (decide (i = j))) = some d := e
  cases e
  have q := endI h fun _ => RD.bl (decide (i = j))
  obtain ⟨O, _, ⟨h1, h2⟩, _⟩ := h
  cases h1.str
  cases h2.str
  exact ⟨rfl, by rw [show decide (V.str i = V.str j) = decide (i = j) by simp]; exact q⟩
theorem v2_neS {K : Frag} : V2 K rNe gNeS := fun H x y a b d Q e h => by
  cases a <;> cases b <;> first | (cases e; done) | skip
  rename_i i j
  have e : some (PyData.bool (!decide (i = j))) = some d := e
  cases e
  have q := endI h fun _ => RD.bl (!decide (i = j))
  obtain ⟨O, _, ⟨h1, h2⟩, _⟩ := h
  cases h1.str
  cases h2.str
  exact ⟨rfl, by rw [show (!decide (V.str i = V.str j)) = (!decide (i = j)) by simp]; exact q⟩
end Pv

namespace Pv
open PySem PySem.Spec PyProof.Rows L2
/-! ### enumerate, its pairs laid for good -/
/-- xs stands at a, as a list or as a tuple -/
def SqA (K : Frag) (lst : Bool) (H : Hp) (a : Addr) (xs : List V) : Prop := if lst = true then SqL K H a xs else SqT K H a xs
def Jen (K : Frag) (lst : Bool) (a : Addr) (xs : List V) : It where
  go := fun i H => SqA K lst H a xs ∧ i < xs.length
  yld := fun i H v H' => ∃ (T : Addr) (o : Obj) (x : V), v = .ref T ∧ H T = none ∧ xs[i]? = some x ∧ o.dict = none ∧ H' = upd H T (.frz o (.tup [.int (i : Nat), x]))
  stop := fun i H => SqA K lst H a xs ∧ i = xs.length
set_option maxHeartbeats 1000000 in
theorem enum_new1 {v : Value} {o : Obj} {G : Heap → Prop} (B : Begins v o G) : Meets (Builtin.«enumerate.__new__» ⟨[.type "enumerate", v], []⟩)
    (fun _ R s => G s.heap ∧ R (.ok (.ret (.ref (s.heap.push o).objs.size))) { s with heap := (s.heap.push o).push { cls := .type "enumerate", data := .fields #[.none, .bool false, .ref s.heap.objs.size, rawInt 0, .none, .none] } }) := by
  refine .of_wp fun prog w A R s hh => ?_
  obtain ⟨hp, gg, dd, tt, oo⟩ := s
  obtain ⟨hG, hR⟩ := hh
  have sub := sub_enumerate
  have go : ∀ {A' : Around} {E : Value → Shared → Prop} {Q : Value → Shared → Prop}, Q (.ref hp.objs.size) ⟨hp.push o, gg, dd, tt, oo⟩ → wpAny (model prog w) A' (pyIter v) Q E ⟨hp, gg, dd, tt, oo⟩ :=
    fun q => B.iter prog w _ _ ⟨hp, gg, dd, tt, oo⟩ _ hG q
  wp_walk using go
  refine wpAny_stack_any fun _ => wpAny_pure ?_
  split
  · rename_i cc _ _ _ _ _
    cases (cc == Value.type "enumerate") <;> (wp_walk using go; exact ⟨_, rfl, hR⟩)
  · wp_walk using go; exact ⟨_, rfl, hR⟩
section
variable {prog : Program} {w : World} {A : Around} {E : Value → Shared → Prop} {s : Shared}
theorem enum_call1 {v : Value} {o : Obj} {G : Heap → Prop} {Q : Value → Shared → Prop} (B : Begins v o G) (hG : G s.heap)
    (q : ∀ h', IsEnum h' (s.heap.objs.size + 1) s.heap.objs.size 0 .none → h'.get? s.heap.objs.size = some o → (∀ b ob, s.heap.get? b = some ob → h'.get? b = some ob) → Q (.ref (s.heap.objs.size + 1)) { s with heap := h' }) :
    wpAny (model prog w) A (call (.type "enumerate") [v]) Q E s := by
  have z : (s.heap.push o).objs.size = s.heap.objs.size + 1 := Heap.size_push ..
  have en : IsEnum ((s.heap.push o).push { cls := .type "enumerate", data := .fields #[.none, .bool false, .ref s.heap.objs.size, rawInt 0, .none, .none] }) (s.heap.objs.size + 1) s.heap.objs.size 0 .none := by
    have y := Heap.get?_push_size (s.heap.push o) (o := { cls := .type "enumerate", data := .fields #[.none, .bool false, .ref s.heap.objs.size, rawInt 0, .none, .none] }) rfl
    rwa [z] at y
  refine callType_new F.called_enumerate (by decide) (F.typeCall_enumerate_1 v) (F.newCall_enumerate_1 v) (fun ob => F.args_object_init_2 ob v) F.entry_enumerate_new (enum_new1 B) ⟨hG, ?_⟩
  show _ ∧ _
  rw [z]
  exact ⟨⟨_, en, rfl⟩, q _ en (Heap.get?_push_of_some _ (Heap.get?_push_size _ B.free)) fun b ob y => Heap.get?_push_of_some _ (Heap.get?_push_of_some _ y)⟩
end
/-- how the iterator inside stands -/
def InIt (lst : Bool) (h : Heap) (it a : Addr) (i : Nat) : Prop := if lst = true then h.IsListIter it a i else h.IsTupleIter it a i
theorem InIt.there {lst : Bool} {h : Heap} {it a : Addr} {i : Nat} (q : InIt lst h it a i) : ∃ o, h.get? it = some o ∧ ∀ v, o.data ≠ .cell v := by
  cases lst with
  | true => obtain ⟨o, h1, _, h3⟩ := q; exact ⟨o, h1, fun v e => by rw [h3] at e; cases e⟩
  | false => obtain ⟨o, h1, _, h3⟩ := q; exact ⟨o, h1, fun v e => by rw [h3] at e; cases e⟩
theorem InIt.move {lst : Bool} {h h' : Heap} {it a : Addr} {i : Nat} (q : InIt lst h it a i) (k : ∀ o, h.get? it = some o → h'.get? it = some o) : InIt lst h' it a i := by
  cases lst with
  | true => exact Heap.IsListIter.at q k
  | false => exact Heap.IsTupleIter.at q k
/-- one more item, whatever is walked -/
theorem enum_step {X : Cx} {pins : List (Addr × Obj)} {σ : L2.St} {H : Hp} {s : Shared} {lst : Bool} {a e it : Addr} {i : Nat} {xs : List V} {old : Value} {E : Value → Shared → Prop} {Q : Option Value → Shared → Prop} (I : Inv X pins σ H s) (hc : X.calm = true) (he : IsEnum s.heap e it ((i : Nat) : Int) old) (hi : InIt lst s.heap it a i) (hne : e ≠ it) (sq : SqA X.K lst H a xs) (hlt : i < xs.length)
    (q : ∀ (x : V) (u : Value) (tk : Nat) (h' : Heap), xs[i]? = some x → RelV x u → IsEnumOut h' e it ((i : Int) + 1) u s.heap.objs.size → InIt lst h' it a (i + 1) → h'.get? s.heap.objs.size = some { cls := .type "tuple", data := .seq #[.int i tk, u] } → (∀ b o, b ≠ e → b ≠ it → s.heap.get? b = some o → h'.get? b = some o) → Q (some (.ref s.heap.objs.size)) { s with heap := h', toks := tk + 1 }) :
    wpAny (model X.prog X.w) X.A (pyNext (.ref e)) Q E s := by
  have hx : xs[i]? = some xs[i] := List.getElem?_eq_getElem hlt
  cases lst with
  | true =>
    obtain ⟨its, rv, p, hz⟩ := I.list sq
    obtain ⟨u, hu, ru⟩ := rv.get hx
    exact wpAny_pyNext_enum_item he hi p.isList (x := u) (by simpa using hu) hne fun h' ho hi' hT _ hk => q _ u s.toks h' hx ru ho hi' hT hk
  | false =>
    obtain ⟨its, rv, p, hz⟩ := I.tuple sq
    have hea : e ≠ a := fun z => by
      subst z
      obtain ⟨o, h1, h2, h3⟩ := p
      rw [show s.heap.get? e = _ from he] at h1
      cases h1
      have h2 : Value.type "enumerate" = Value.type "tuple" := h2
      exact absurd (Value.type.inj h2) (by decide)
    have hita : a ≠ it := fun z => by
      subst z
      obtain ⟨o, h1, h2, h3⟩ := p
      obtain ⟨o', g1, g2, g3⟩ := hi
      rw [h1] at g1; cases g1
      rw [h2] at g2
      exact absurd (Value.type.inj g2) (by decide)
    have hl := rv.length
    refine wpAny_pyNext_enum_itemD (Draws.tuple (A := X.A.in1) (I.ok.hd hc) it a hita its.toArray) he ⟨hi, p⟩ (by simp; omega) hne (by simp [hne, hea]) fun u h' tk hP ho hS hT _ hk => ?_
    obtain ⟨u', hu', ru'⟩ := rv.get hx
    have : u' = u := by
      have hP : its.toArray[i]? = some u := hP
      rw [List.getElem?_toArray, hu'] at hP
      exact Option.some.inj hP
    subst this
    exact q _ u' tk h' hx ru' ho hS.1 hT hk
theorem enum_stop {X : Cx} {pins : List (Addr × Obj)} {σ : L2.St} {H : Hp} {s : Shared} {lst : Bool} {a e it : Addr} {i : Nat} {xs : List V} {old : Value} {E : Value → Shared → Prop} {Q : Option Value → Shared → Prop} (I : Inv X pins σ H s) (hc : X.calm = true) (he : IsEnum s.heap e it ((i : Nat) : Int) old) (hi : InIt lst s.heap it a i) (hne : e ≠ it) (sq : SqA X.K lst H a xs) (hle : i = xs.length)
    (q : ∀ h', Heap.ExtBut it s.heap h' → Q none { s with heap := h' }) : wpAny (model X.prog X.w) X.A (pyNext (.ref e)) Q E s := by
  cases lst with
  | true =>
    obtain ⟨its, rv, p, hz⟩ := I.list sq
    have hl := rv.length
    exact wpAny_pyNext_enum_end (I.ok.hd hc) he hi p.isList (by simp; omega) q
  | false =>
    obtain ⟨its, rv, p, hz⟩ := I.tuple sq
    have hita : a ≠ it := fun z => by
      subst z
      obtain ⟨o, h1, h2, h3⟩ := p
      obtain ⟨o', g1, g2, g3⟩ := hi
      rw [h1] at g1; cases g1
      rw [h2] at g2
      exact absurd (Value.type.inj g2) (by decide)
    have hl := rv.length
    have hn : its.toArray.size = i := by rw [List.size_toArray]; omega
    have D := Draws.tuple (prog := X.prog) (w := X.w) (A := X.A.in1) (I.ok.hd hc) it a hita its.toArray
    rw [hn] at D
    exact wpAny_pyNext_enum_endD D he ⟨hi, p⟩ q
theorem turn_en {P : Program} {w : World} {K : Frag} {elts : List Expr} {kk : Nat} {tpos : Pos} (lst : Bool) (a e it : Addr) (xs : List V) :
    Turn P w K (.Tuple elts kk tpos) (Jen K lst a xs) [e, it] e (fun i h => (∃ old, IsEnum h e it ((i : Nat) : Int) old) ∧ InIt lst h it a i ∧ e ≠ it) where
  mem := List.mem_cons_self
  obj := fun i h ⟨⟨old, he⟩, hi, _⟩ b hb => by
    rcases List.mem_cons.mp hb with rfl | hb
    · exact ⟨_, he, fun v z => by cases z⟩
    · rw [List.mem_singleton] at hb; subst hb; exact hi.there
  keep := fun i h h' ⟨⟨old, he⟩, hi, ne⟩ k => ⟨⟨old, k e List.mem_cons_self _ he⟩, hi.move fun o z => k it (by simp) o z, ne⟩
  item := by
    intro X hP hw hK hc i pins s σ H E I hf st hg
    subst hP hw hK
    obtain ⟨⟨old, he⟩, hi, ne⟩ := st
    obtain ⟨sq, hlt⟩ := hg
    have le : e < s.heap.objs.size := Heap.lt_size he
    have li : it < s.heap.objs.size := by obtain ⟨_, z, _⟩ := hi.there; exact Heap.lt_size z
    refine enum_step I hc he hi ne sq hlt fun x u tk h' hx ru ho hi' hT hk => ⟨_, rfl, wpAny_letOwnedTupleGo_enum (s := { s with heap := h', toks := tk + 1 }) ho fun h2 he2 sb => ?_⟩
    have hT2 : h2.get? s.heap.objs.size = some { cls := .type "tuple", data := .seq #[.int i tk, u] } := (sb.2 _ (Nat.ne_of_gt le)).trans hT
    have ok : ObjOk X.prog X.w (upd H s.heap.objs.size (.frz { cls := .type "tuple", data := .seq #[.int i tk, u] } (.tup [.int (i : Nat), x]))) h2 s.heap.objs.size (.frz { cls := .type "tuple", data := .seq #[.int i tk, u] } (.tup [.int (i : Nat), x])) :=
      ⟨hT2, by show 2 ≤ sizeLine; decide, [.int i tk, u], .cons ⟨_, rfl⟩ (.cons ru .nil), ⟨_, hT2, rfl, _, rfl⟩⟩
    have J1 : Inv X pins σ (upd H s.heap.objs.size (.frz { cls := .type "tuple", data := .seq #[.int i tk, u] } (.tup [.int (i : Nat), x]))) { s with heap := h2, toks := tk + 1 } :=
      I.turnedNew (ch := [e, it]) (fun b ob hb z => (sb.2 b fun y => hb (by rw [y]; simp)).trans (hk b ob (fun y => hb (by rw [y]; simp)) (fun y => hb (by rw [y]; simp)) z)) hf (Nat.le_refl _) ok
    refine ⟨.ref s.heap.objs.size, _, J1, rfl, ⟨_, _, x, rfl, I.hok.fresh (Nat.le_refl _), hx, rfl, rfl⟩, ⟨⟨u, ?_⟩, hi'.move fun o z => (sb.2 it (Ne.symm ne)).trans z, ne⟩, fun b hb => ?_⟩
    · rw [show ((i + 1 : Nat) : Int) = (i : Int) + 1 by omega]; exact he2
    · have lb : b < s.heap.objs.size := by
        rcases List.mem_cons.mp hb with rfl | hb
        · exact le
        · rw [List.mem_singleton] at hb; subst hb; exact li
      rw [upd_ne (Nat.ne_of_lt lb)]
      exact (hf b hb).1
  done := by
    intro X hP hw hK hc i pins s σ H E I hf st hg
    subst hP hw hK
    obtain ⟨⟨old, he⟩, hi, ne⟩ := st
    obtain ⟨sq, hle⟩ := hg
    obtain ⟨f0, f1, f2, f3, f4, f5⟩ := hf it (by simp)
    exact enum_stop I hc he hi ne sq hle fun h' eb => ⟨rfl, I.turned (t' := s.toks) (fun b o hb z => eb b o hb z) f0 f1 f3 f4 f5⟩
  self := fun A i s Q E ⟨⟨_, he⟩, _⟩ q => wpAny_pyIter_enum he q
def iAnyE (K : Frag) (te : TE) : TI := fun σ H R => te σ H fun x H1 => ∃ lst a xs, x = .ref a ∧ SqA K lst H1 a xs ∧ R (Jen K lst a xs) H1
theorem pi_en {X : Cx} {e : Expr} {te : TE} {p pos tpos : Pos} {elts : List Expr} {kk : Nat} (he : PE X e te) (hm : X.mg "enumerate" = none) (hg : Gl X "enumerate") (hs : starEach [e] X.env = [(false, eval e X.env)]) :
    PI X (.Tuple elts kk tpos) (.Call (.Name "enumerate" p) [e] [] pos) (iAnyE X.K te) := by
  refine ⟨fun pins s σ H R I h => ?_⟩
  refine Call_ (ld_blt I hg hm boot_enumerate (PyProof.Rows.callWith_type1 (thn ((pa_one he hs).run pos pins s σ H (fun vs H1 => match vs with
    | [x] => ∃ lst a xs, x = .ref a ∧ SqA X.K lst H1 a xs ∧ R (Jen X.K lst a xs) H1
    | _ => False) I h) fun us s1 ⟨vs, H1, I1, r1, q1⟩ => ?_) hs rfl))
  match vs, q1 with
  | [x], q1 =>
    obtain ⟨lst, a, xs, rfl, sq, q⟩ := q1
    obtain ⟨u, rfl, ru⟩ : ∃ u, us = [u] ∧ RelV (.ref a) u := by
      cases r1 with
      | cons y z => cases z; exact ⟨_, rfl, y⟩
    cases ru
    have fin : ∀ (o : Obj) (h' : Heap), IsEnum h' (s1.heap.objs.size + 1) s1.heap.objs.size 0 .none → InIt lst h' s1.heap.objs.size a 0 → (∀ b ob, s1.heap.get? b = some ob → h'.get? b = some ob) → PIE X pins σ (.Tuple elts kk tpos) R (.ref (s1.heap.objs.size + 1)) { s1 with heap := h' } := fun o h' en ii kp => by
      refine ⟨s1.heap.objs.size + 1, [s1.heap.objs.size + 1, s1.heap.objs.size], _, _, H1, rfl, I1.kept (t' := s1.toks) kp, turn_en lst a _ _ xs, ⟨⟨.none, en⟩, ii, Nat.succ_ne_self _⟩, fun b hb => ?_, q⟩
      have lb : s1.heap.objs.size ≤ b := by
        rcases List.mem_cons.mp hb with rfl | hb
        · exact Nat.le_succ _
        · rw [List.mem_singleton] at hb; exact Nat.le_of_eq hb.symm
      exact I1.fpOk lb (I1.hok.fresh lb)
    cases lst with
    | true =>
      obtain ⟨its, rv, pp, hz⟩ := I1.list sq
      exact enum_call1 (begins_list a its.toArray) pp.isList fun h' en gi kp => wpAny_pyIter_enum en (fin default h' en ⟨_, gi, rfl, rfl⟩ kp)
    | false =>
      obtain ⟨its, rv, pp, hz⟩ := I1.tuple sq
      exact enum_call1 (begins_tuple a its.toArray) pp fun h' en gi kp => wpAny_pyIter_enum en (fin default h' en ⟨_, gi, rfl, rfl⟩ kp)
def enD (ds : List PyData) : List PyData := (List.range ds.length).zipWith (fun i d => .tuple [.int (i : Nat), d]) ds
theorem enD_len (ds : List PyData) : (enD ds).length = ds.length := by unfold enD; rw [List.length_zipWith, List.length_range]; omega
theorem enD_get {ds : List PyData} {i : Nat} {e : PyData} (h : (enD ds)[i]? = some e) : ∃ d, ds[i]? = some d ∧ e = .tuple [.int (i : Nat), d] := by
  have hi : i < ds.length := by have := (List.getElem?_eq_some_iff.mp h).1; rwa [enD_len] at this
  unfold enD at h
  rw [List.getElem?_zipWith, List.getElem?_range hi, List.getElem?_eq_getElem hi] at h
  exact ⟨ds[i], List.getElem?_eq_getElem hi, (Option.some.inj h).symm⟩
theorem yl_en {K : Frag} {S0 : Hp} {lst : Bool} {a : Addr} {xs : List V} {ds : List PyData} (h : ∀ H, Same S0 H → SqA K lst H a xs) (r : RDs K S0 xs ds) : Yl K (Jen K lst a xs) (enD ds) S0 := fun S H s1 s2 => by
  have hq := h H (s1.trans s2)
  refine ⟨fun i hi => ⟨hq, by rw [enD_len] at hi; rw [r.len]; exact hi⟩, fun i hi => ⟨hq, by rw [enD_len] at hi; rw [r.len]; exact hi⟩, fun i x H' e he ⟨T, o, y, ex, hT, hy, od, eH⟩ => ?_⟩
  subst ex eH
  obtain ⟨d, hd, rfl⟩ := enD_get he
  obtain ⟨y', h1, h2⟩ := r.get hd
  rw [hy] at h1; cases h1
  have sm : Same H (upd H T (.frz o (.tup [.int (i : Nat), y]))) := same_upd hT
  refine ⟨sm, fun S' s3 nw => .tup (.inl ⟨o, od, nw T _ hT upd_same⟩) (.cons (.int _) (.one (h2.up (s1.trans s3))))⟩
def iEn (f : FE) : FI := fun st => (iSeq f st).bind fun p => some (enD p.1, p.2)
theorem k_ien {X : Cx} {e : Expr} {f : FE} {p pos tpos : Pos} {elts : List Expr} {kk : Nat} (h : PE X e (TEv X.K f)) (hm : X.mg "enumerate" = none) (hg : Gl X "enumerate" := by rfl) (hs : starEach [e] X.env = [(false, eval e X.env)] := by rfl) : PI X (.Tuple elts kk tpos) (.Call (.Name "enumerate" p) [e] [] pos) (TIv X.K (iEn f)) :=
  (pi_en h hm hg hs).wk fun σ H R ⟨Z, L, st, ds, st', I, e, q⟩ => by
    obtain ⟨⟨ds0, s0⟩, e0, e⟩ := Option.bind_eq_some_iff.mp e
    cases e
    obtain ⟨⟨r, s1⟩, e1, ea⟩ := Option.bind_eq_some_iff.mp e0
    obtain ⟨⟨d, s2⟩, e2, eb⟩ := Option.bind_eq_some_iff.mp ea
    clear e0 ea
    refine ⟨Z, L, st, r, s1, I, e1, fun v H1 L1 I1 S1 rv => ?_⟩
    obtain ⟨L2, I2, S2, rd⟩ := I1.share rv e2
    cases d <;> first | (cases eb; done) | skip
    · cases eb
      cases rd with
      | lst a b => exact ⟨true, _, _, rfl, (a.up hid_sub).sq, q _ H1 L2 I2 (S1.trans S2) (yl_en (lst := true) (fun H s => (a.up s).sq) b)⟩
    · cases eb
      cases rd with
      | tup a b => exact ⟨false, _, _, rfl, sameSqT hid_sub a.sq, q _ H1 L2 I2 (S1.trans S2) (yl_en (lst := false) (fun H s => sameSqT s a.sq) b)⟩
end Pv

namespace Pv
open PySem PySem.Spec PyProof.Rows L2
/-! ### a < b < c -/
def eChain (g g' : PyData → PyData → Option PyData) (fa fb fc : FE) : FE := fun st => (fa st).bind fun p => (fb p.2).bind fun q => (dat q.2 p.1).bind fun a => (dat q.2 q.1).bind fun b => (g a b).bind fun d => match d with
  | .bool k => if k = true then (fc q.2).bind fun r => (dat r.2 q.1).bind fun b2 => (dat r.2 r.1).bind fun c => (g' b2 c).bind fun d2 => some (.val d2, r.2)
    else some (.val (.bool false), q.2)
  | _ => none
theorem chain_down {r r' : R2} {K : Frag} {g g' : PyData → PyData → Option PyData} {fa fb fc : FE} (hv : V2 K r g) (hv' : V2 K r' g') (σ : L2.St) (H : Hp) (Q : VK) (h : TEv K (eChain g g' fa fb fc) σ H Q) : tChain r r' (TEv K fa) (TEv K fb) (TEv K fc) σ H Q := by
  obtain ⟨Z, L, st, rr, st', I, e, q⟩ := h
  obtain ⟨⟨ra, s1⟩, e1, ea⟩ := Option.bind_eq_some_iff.mp e
  obtain ⟨⟨rb, s2⟩, e2, eb⟩ := Option.bind_eq_some_iff.mp ea
  obtain ⟨a, e3, ec⟩ := Option.bind_eq_some_iff.mp eb
  obtain ⟨b, e4, ed⟩ := Option.bind_eq_some_iff.mp ec
  obtain ⟨d, e5, ee⟩ := Option.bind_eq_some_iff.mp ed
  clear e ea eb ec ed
  cases d <;> first | (cases ee; done) | skip
  rename_i k
  refine ⟨Z, L, st, ra, s1, I, e1, fun v H1 L1 I1 S1 rv => ⟨Z, L1, s1, rb, s2, I1, e2, fun w H2 L2 I2 S2 rw' => ?_⟩⟩
  refine hv H2 v w a b (.bool k) _ e5 (endV I2 ⟨I2.rx (rv.later S2) e3, I2.rx rw' e4⟩ fun u H3 L3 I3 S3 ru => ?_)
  have eu : u = .bl k := by
    have z : RD K _ u (.bool k) := ru
    cases z; rfl
  refine ⟨k, eu, ?_⟩
  cases k with
  | false => cases ee; exact iteF (q _ H3 L3 I3 (S1.trans (S2.trans S3)) (.bl false))
  | true =>
    obtain ⟨⟨rc, s3⟩, e6, eg⟩ := Option.bind_eq_some_iff.mp ee
    obtain ⟨b2, e7, eh⟩ := Option.bind_eq_some_iff.mp eg
    obtain ⟨c, e8, ei⟩ := Option.bind_eq_some_iff.mp eh
    obtain ⟨d2, e9, ej⟩ := Option.bind_eq_some_iff.mp ei
    clear ee eg eh ei
    cases ej
    refine iteT ⟨Z, L3, s2, rc, _, I3, e6, fun y H4 L4 I4 S4 ry => ?_⟩
    exact hv' H4 w y b2 c d2 _ e9 (endV I4 ⟨I4.rx (rw'.later (S3.trans S4)) e7, I4.rx ry e8⟩ fun x H5 L5 I5 S5 rx => q x H5 L5 I5 (S1.trans (S2.trans (S3.trans (S4.trans S5)))) rx)
section
variable {X : Cx}
theorem k_chain {op op' : CmpOp} {a b c : Expr} {fa fb fc : FE} {pos : Pos} {r r' : R2} {g g' : PyData → PyData → Option PyData} (ho : OpR X (compareOp op) r) (hv : V2 X.K r g) (ho' : OpR X (compareOp op') r') (hv' : V2 X.K r' g') (ha : PE X a (TEv X.K fa)) (hb : PE X b (TEv X.K fb)) (hc : PE X c (TEv X.K fc))
    (hm : lastMarks [op, op'] [b, c] = false := by with_unfolding_all rfl) : PE X (.Compare a [op, op'] [b, c] pos) (TEv X.K (eChain g g' fa fb fc)) :=
  (pe_chain ho ho' ha hb hc hm).wk fun σ H Q h => chain_down hv hv' σ H Q h
theorem k_tchain {op op' : CmpOp} {a b c : Expr} {fa fb fc : FE} {pos : Pos} {r r' : R2} {g g' : PyData → PyData → Option PyData} (ho : OpR X (compareOp op) r) (hv : V2 X.K r g) (ho' : OpR X (compareOp op') r') (hv' : V2 X.K r' g') (ha : PE X a (TEv X.K fa)) (hb : PE X b (TEv X.K fb)) (hc : PE X c (TEv X.K fc))
    (hm : lastMarks [op, op'] [b, c] = false := by with_unfolding_all rfl) : PT X (.Compare a [op, op'] [b, c] pos) (TTv X.K (tBl (eChain g g' fa fb fc))) :=
  (pt_chain ho ho' ha hb hc hm).wk fun σ H Q ⟨Z, L, st, b, st', I, e, q⟩ => by
    obtain ⟨⟨r, s1⟩, e1, ea⟩ := Option.bind_eq_some_iff.mp e
    obtain ⟨a, e2, eb⟩ := Option.bind_eq_some_iff.mp ea
    clear e ea
    cases a <;> first | (cases eb; done) | skip
    cases eb
    exact chain_down hv hv' σ H _ ⟨Z, L, st, r, s1, I, e1, fun v H' L' I' S' rv => ⟨_, bl_at I' rv e2, q H' L' I' S'⟩⟩
end
/-! ### t[::-1] -/
def gRevT : PyData → Option PyData
  | .tuple ds => some (.tuple ds.reverse)
  | _ => none
/-! ### xs += ys of a name's own list: the same object, longer -/
def sExt (i : Nat) (f : FE) : FS := fun st => match st[i]? with
  | some (some (.ol _ _)) => (f st).bind fun p => (share p.2 p.1).bind fun q => match q.2[i]? with
    | some (some (.ol b ds)) => (gExtend ds q.1).bind fun r => some (.next, q.2.set i (some (.ol b r.2)))
    | _ => none
  | _ => none
section
variable {X : Cx}
def rExtI (K : Frag) : R2 := fun x y H Q => ∃ l b xs zs, x = .ref l ∧ y = .ref b ∧ H l = some (.lst xs) ∧ Lp K H b zs ∧ xs.length + zs.length ≤ sizeLine ∧ Q (.ref l) (upd H l (.lst (xs ++ zs)))
theorem iop_extI : OpR X (inplaceOp .Add) (rExtI X.K) := by
  intro pp s σ H x y v u Q I ax ay hh
  obtain ⟨l, b, xs, zs, rfl, rfl, hl, hb, sz, q⟩ := hh
  cases ax
  cases ay
  obtain ⟨z, ps, n, rp, lp, ep⟩ := I.lstM hl
  obtain ⟨z2, qs, m, rq, eq⟩ := hb.obj I
  have lq := rq.length
  have tot : ps.toArray.size + qs.toArray.size ≤ sizeLine := by rw [List.size_toArray, List.size_toArray]; omega
  have few : ¬ (!ps.toArray.isEmpty && Builtin.List.listTooLong (ps.toArray.size + qs.toArray.size)) = true := by rw [notLongL tot, Bool.and_false]; exact Bool.false_ne_true
  refine iadd_road ⟨_, ep, rfl⟩ ⟨_, eq, rfl⟩ (call_meets PySem.F.slot_list_iadd ⟨_, ep, rfl⟩ PySem.F.entry_list_iadd (PySem.F.args_list_iadd_2 _ _) (AutoSeq1.list___iadd___list_list_0 l ps.toArray n b qs.toArray m few (by rw [List.size_toArray]; omega) (by omega)) ⟨ep, eq, ?_⟩)
  exact ⟨.ref l, _, I.lset (its' := ps ++ qs) (t' := s.toks) hl ep (by simp) (rp.append rq) (by rw [List.length_append]; omega), rfl, q⟩
theorem k_ext {i : Nat} {x : Str} {e : Expr} {pos pos' : Pos} {f : FE} (hN : X.N.Nodup) (hx : Loc X.env.scope x) (he : PE X e (TEv X.K f)) (hi : X.N[i]? = some x := by rfl) (hf : X.fn x = true ∨ X.env.scope.names.lookup x = some .local := by first | exact .inl rfl | exact .inr rfl | assumption) :
    PS X (.AugAssign (.Name x pos') .Add e pos) (TSv X.K (sExt i f)) :=
  (ps_aug hN hi hx he (show PIp X .Add (rExtI X.K) from fun pins s σ H x y v u Q I r1 r2 h => iop_extI pins s σ H x y v u Q I r1 r2 h) hf).wk fun D σ H ⟨Z, L, st, o, st', I, e, q⟩ => by
    unfold sExt at e
    cases h0 : st[i]? with
    | none => simp only [h0] at e; cases e
    | some o0 =>
      cases o0 with
      | none => simp only [h0] at e; cases e
      | some m0 =>
        cases m0 <;> simp only [h0] at e <;> first | (cases e; done) | skip
        obtain ⟨⟨ra, s1⟩, e1, ea⟩ := Option.bind_eq_some_iff.mp e
        obtain ⟨⟨da, s2⟩, e2, eb⟩ := Option.bind_eq_some_iff.mp ea
        clear e ea
        obtain ⟨w, hw, p0, vs0, hp0, hp1, _, _⟩ := I.slot i _ h0
        cases hj : s2[i]? with
        | none => simp only [hj] at eb; cases eb
        | some o1 =>
          cases o1 with
          | none => simp only [hj] at eb; cases eb
          | some m1 =>
            cases m1 <;> simp only [hj] at eb <;> first | (cases eb; done) | skip
            rename_i b ds
            obtain ⟨⟨d, ds'⟩, e3, ec⟩ := Option.bind_eq_some_iff.mp eb
            cases ec
            subst hp0
            refine ⟨_, hw, Z, L, st, ra, s1, I, e1, fun u H1 L1 I1 S1 ru => ?_⟩
            obtain ⟨L2, I2, S2, rd⟩ := I1.share ru e2
            cases da <;> first | (cases e3; done) | skip
            rename_i es
            simp only [gExtend] at e3
            split at e3
            · rename_i cl
              cases e3
              obtain ⟨p, vs, g1, g2, g3, g4⟩ := I2.lst (ds' := ds ++ es) hj hw
              cases g1
              cases rd with
              | lst la lb =>
                obtain ⟨I3, S3⟩ := g4 _ (g3.app lb)
                refine ⟨p0, _, vs, _, rfl, rfl, g2, la.up hid_sub, by rw [g3.len, lb.len]; exact lim_line cl, ?_⟩
                show D.nx (σ.set i (some (.ref p0))) _
                rw [set_same hw]
                exact q σ _ L2 I3 (S1.trans (S2.trans S3))
            · cases e3
end
end Pv

namespace Pv
open PySem PySem.Spec PyProof.Rows L2
/-! ### a tuple the other way round -/
theorem adj_rev (n : Nat) : Builtin.Slice.sliceAdjust none none (-1) (n : Int) = ((n : Int) - 1, -1) := by
  unfold Builtin.Slice.sliceAdjust
  simp
theorem places_rev (n : Nat) : Builtin.Slice.slicePlaces ((n : Int) - 1) (-1) (-1) = n := by
  unfold Builtin.Slice.slicePlaces
  simp
  omega
theorem fm_congr {α β : Type} {f g : α → Option β} : ∀ {l : List α}, (∀ x ∈ l, f x = g x) → l.filterMap f = l.filterMap g
  | [], _ => rfl
  | x :: l, h => by
    rw [List.filterMap_cons, List.filterMap_cons, h x List.mem_cons_self, fm_congr fun y hy => h y (List.mem_cons_of_mem _ hy)]
theorem pick_back : ∀ (k : Nat) (xs : List Value), k ≤ xs.length → (List.range k).filterMap (fun m => xs[k - 1 - m]?) = (xs.take k).reverse
  | 0, _, _ => rfl
  | k + 1, xs, h => by
    have hk : k < xs.length := h
    rw [List.range_succ_eq_map, List.filterMap_cons]
    have e0 : xs[k + 1 - 1 - 0]? = some xs[k] := by simp [hk]
    rw [e0, List.filterMap_map, List.take_succ_eq_append_getElem hk, List.reverse_append]
    show xs[k] :: _ = xs[k] :: _
    congr 1
    rw [← pick_back k xs (by omega)]
    refine fm_congr fun m hm => ?_
    show xs[k + 1 - 1 - (m + 1)]? = _
    rw [show k + 1 - 1 - (m + 1) = k - 1 - m by omega]
theorem pick_rev (xs : Array Value) : ((List.range xs.size).filterMap fun (m : Nat) => xs[(((xs.size : Int) - 1) + (m : Int) * (-1)).toNat]?).toArray = xs.toList.reverse.toArray := by
  congr 1
  have := pick_back xs.size xs.toList (by simp)
  rw [show xs.toList.take xs.size = xs.toList from List.take_of_length_le (by simp)] at this
  rw [← this]
  refine fm_congr fun m hm => ?_
  have hm := List.mem_range.mp hm
  rw [show (((xs.size : Int) - 1) + (m : Int) * (-1)).toNat = xs.size - 1 - m by omega]
  simp
section
variable {prog : Program} {w : World} {A : Around} {E : Value → Shared → Prop} {s : Shared}
theorem applied_rev {sl : Addr} {vl vu vs : Value} {n : Nat} {Q : Int × Int × Nat → Shared → Prop} (hs : s.heap.IsSliceOf sl vl vu vs) (pl : IsPart vl none) (pu : IsPart vu none) (ps : IsPart vs (some (-1)))
    (q : Q ((n : Int) - 1, -1, n) s) : wpAny (model prog w) A (Builtin.Slice.sliceApplied (.ref sl) (pure (n : Int))) Q E s := by
  obtain ⟨o, ho, hc, hd⟩ := id hs
  unfold Builtin.Slice.sliceApplied Builtin.Slice.sliceFields
  refine wpAny_bind (wpAny_bind (wpAny_field ho hd (x := vl) rfl (wpAny_bind (wpAny_field ho hd (x := vu) rfl (wpAny_bind (wpAny_field ho hd (x := vs) rfl (wpAny_pure ?_)))))))
  refine wpAny_bind (HT.slicePart_ ps ?_)
  show wpAny _ _ (if ((-1 : Int) == 0) = true then _ else _) _ _ s
  rw [if_neg (by decide)]
  refine wpAny_bind (HT.slicePart_ pl (wpAny_bind (HT.slicePart_ pu (wpAny_bind (wpAny_pure ?_)))))
  show wpAny _ _ (match Builtin.Slice.sliceAdjust none none (-1) (n : Int) with | (lo, hi) => pure (lo, (-1 : Int), Builtin.Slice.slicePlaces lo hi (-1))) _ _ s
  rw [adj_rev]
  show wpAny _ _ (pure ((n : Int) - 1, (-1 : Int), Builtin.Slice.slicePlaces ((n : Int) - 1) (-1) (-1))) _ _ s
  rw [places_rev]
  exact wpAny_pure q
theorem get_tuple_rev {t sl : Addr} {items : Array Value} {vl vu vs : Value} {Q : Value → Shared → Prop} (ht : IsTup s.heap t items) (hs : s.heap.IsSliceOf sl vl vu vs) (pl : IsPart vl none) (pu : IsPart vu none) (ps : IsPart vs (some (-1))) (sz : items.size ≤ sizeLine)
    (q : Q (.ref s.heap.objs.size) { s with heap := s.heap.push { cls := .type "tuple", data := .seq items.toList.reverse.toArray } }) : wpAny (model prog w) A (getItem (.ref t) (.ref sl)) Q E s := by
  have so : sizeOk (.seq items.toList.reverse.toArray) := by
    show items.toList.reverse.toArray.size ≤ sizeLine
    simpa using sz
  obtain ⟨o, ho, hc, hd⟩ := id hs
  have ty : s.TypeIs (.ref sl) "slice" := ⟨o, ho, hc⟩
  unfold getItem
  try with_reducible refine wpAny_holding ?_
  first | refine wpAny_bind (wpAny_pure ?_) | skip
  refine wpAny_bind (wpAny_sequenceKey ht.typeIs (by decide) ?_)
  refine wpAny_bind (wpAny_callSpecial?_slot (name := Str.ofString "__getitem__") ht.typeIs PyProof.Rows.slot_tuple_getitem (wpAny_call_entry PyProof.Rows.slot_tuple_getitem ht.typeIs entry_tuple_getitem ?_ (args_tuple_getitem _ _)))
  show wpAny _ _ (Builtin.Tuple.tupleItemsOf (.ref t) >>= _) _ _ s
  refine wpAny_bind (tupleItemsOf_ ht ?_)
  refine wpAny_bind (wpAny_typeOf ty ?_)
  rw [if_pos (by decide)]
  refine wpAny_bind (applied_rev hs pl pu ps ?_)
  have no : ¬ ((((items.size : Int) - 1) == 0 && (-1 : Int) == 1 && items.size == items.size) = true) := by simp
  show wpAny _ _ (if ((((items.size : Int) - 1) == 0 && (-1 : Int) == 1 && items.size == items.size) = true) then _ else _) _ _ s
  rw [if_neg no, pick_rev]
  first
    | exact wpAny_bind (m := Builtin.Tuple.tupleExact _) (wpAny_newObj_type (wpAny_pure ⟨_, rfl, wpAny_pure q⟩) so)
    | exact wpAny_bind (m := Builtin.Tuple.tupleExact _) (wpAny_newObj_type (wpAny_bind (wpAny_pure (wpAny_pure ⟨_, rfl, wpAny_pure q⟩))) so)
    | exact wpAny_bind (wpAny_bind (m := Builtin.Tuple.tupleExact _) (wpAny_newObj_type (wpAny_pure (wpAny_pure ⟨_, rfl, wpAny_pure q⟩)) so))
    | exact wpAny_bind (wpAny_bind (m := Builtin.Tuple.tupleExact _) (wpAny_newObj_type (wpAny_pure ⟨_, rfl, wpAny_pure q⟩) so))
end
/-- t[::-1]; a list's turned one is a new list, let go -/
def rRevA (K : Frag) (te : TE) : TE := fun σ H Q => te σ H fun x H1 => ∃ a xs, x = .ref a ∧ SqT K H1 a xs ∧ ∀ (p : Addr) (o : Obj), o.dict = none → H1 p = none → Q (.ref p) (upd H1 p (.frz o (.tup xs.reverse)))
theorem pe_revT {X : Cx} {e : Expr} {te : TE} {k : Nat} {p1 p2 p3 pos : Pos} (he : PE X e te) : PE X (.Subscript e (.Slice none none (some (.UnaryOp .USub (.Constant (.int 1) k p1) p2)) p3) pos) (rRevA X.K te) := by
  refine ⟨fun pins s σ H Q I h => ?_⟩
  refine Subscript_ (thn (he.run pins s σ H _ I h) fun v t1 ⟨x, H1, I1, r1, q1⟩ => ?_)
  obtain ⟨a, xs, rfl, hx, q⟩ := q1
  cases r1
  have step : PO X (some (.UnaryOp .USub (.Constant (.int 1) k p1) p2)) (tPart (tUn (rU fun i => .int (-i)) (tC (.int 1)))) := po_some (pe_un un_neg pe_int)
  refine wpAny_Slice (thn (po_none.run pins t1 σ H1 (fun o H2 => o = none ∧ H2 = H1) I1 ⟨rfl, rfl⟩) fun vl t2 ⟨l, H2, I2, pl, el, z2⟩ => ?_)
  subst el z2
  refine thn (po_none.run pins t2 σ H2 (fun o H3 => o = none ∧ H3 = H2) I2 ⟨rfl, rfl⟩) fun vu t3 ⟨u, H3, I3, pu, eu, z3⟩ => ?_
  subst eu z3
  refine thn (step.run pins t3 σ H3 (fun o H4 => o = some (-1) ∧ H4 = H3) I3 ⟨1, rfl, -1, rfl, rfl, rfl⟩) fun vs t4 ⟨o, H4, I4, ps, eo, z4⟩ => ?_
  subst eo z4
  have I5 : Inv X pins σ H4 { t4 with heap := t4.heap.push { cls := .type "slice", data := .fields #[vl, vu, vs] } } := I4.kept (t' := t4.toks) fun b ob z => Heap.get?_push_of_some _ z
  obtain ⟨its, r, ht, hz⟩ := I5.tuple hx
  have hl := r.length
  show wpAny (model X.prog X.w) X.A (subscriptTail e (.Slice none none (some (.UnaryOp .USub (.Constant (.int 1) k p1) p2)) p3) (.ref a) (.ref t4.heap.objs.size)) (EP X pins σ Q) X.xe { t4 with heap := t4.heap.push { cls := .type "slice", data := .fields #[vl, vu, vs] } }
  refine tail_any (ops := [.ref a, .ref t4.heap.objs.size]) ht.typeIs PyProof.Rows.slot_tuple_getitem.lookup ?_ (by with_unfolding_all rfl)
  refine get_tuple_rev ht (Heap.IsSliceOf.new _ vl vu vs) pl pu ps (by rw [List.size_toArray]; omega) ?_
  exact ⟨.ref _, _, I5.tupF (t' := t4.toks) r.reverse (by rw [List.length_reverse]; exact hz), rfl, q _ _ rfl (I5.hok.fresh (Nat.le_refl _))⟩
theorem k_revT {X : Cx} {e : Expr} {f : FE} {k : Nat} {p1 p2 p3 pos : Pos} (he : PE X e (TEv X.K f)) : PE X (.Subscript e (.Slice none none (some (.UnaryOp .USub (.Constant (.int 1) k p1) p2)) p3) pos) (TEv X.K (e1 gRevT f)) :=
  (pe_revT he).wk fun σ H Q h => down1 (r := fun x H Q => ∃ a xs, x = .ref a ∧ SqT X.K H a xs ∧ ∀ (p : Addr) (o : Obj), o.dict = none → H p = none → Q (.ref p) (upd H p (.frz o (.tup xs.reverse)))) (fun H x a d Q e h => by
    cases a <;> first | (cases e; done) | skip
    rename_i ds
    have e : some (PyData.tuple ds.reverse) = some d := e
    cases e
    obtain ⟨O, hO, h1, q⟩ := h
    obtain ⟨p, vs, rfl, h2, h3⟩ := h1.tup
    exact ⟨p, vs, rfl, sameSqT hid_sub h2.sq, newT hO h3.rev q⟩) σ H Q h
end Pv

namespace Pv
open PySem PySem.Spec PyProof.Rows L2
/-! ### the greatest, the least of a list of ints -/
def topI : List Int → Option Int
  | [] => none
  | x :: r => match topI r with
    | none => some x
    | some y => some (if x < y then y else x)
def lowI : List Int → Option Int
  | [] => none
  | x :: r => match lowI r with
    | none => some x
    | some y => some (if y < x then y else x)
theorem topI_is : ∀ {ns : List Int} {m : Int}, topI ns = some m → m ∈ ns ∧ ∀ y ∈ ns, y ≤ m
  | [], _, e => by cases e
  | x :: r, m, e => by
    unfold topI at e
    cases h : topI r with
    | none =>
      rw [h] at e; cases e
      have : r = [] := by cases r with
        | nil => rfl
        | cons y r => unfold topI at h; split at h <;> cases h
      subst this
      exact ⟨List.mem_cons_self, fun y hy => by rw [List.mem_singleton] at hy; omega⟩
    | some z =>
      rw [h] at e
      obtain ⟨h1, h2⟩ := topI_is h
      have e : some (if x < z then z else x) = some m := e
      cases e
      by_cases c : x < z
      · rw [if_pos c]
        exact ⟨List.mem_cons_of_mem _ h1, fun y hy => by rcases List.mem_cons.mp hy with rfl | hy; omega; exact h2 y hy⟩
      · rw [if_neg c]
        exact ⟨List.mem_cons_self, fun y hy => by rcases List.mem_cons.mp hy with rfl | hy; omega; have := h2 y hy; omega⟩
theorem lowI_is : ∀ {ns : List Int} {m : Int}, lowI ns = some m → m ∈ ns ∧ ∀ y ∈ ns, m ≤ y
  | [], _, e => by cases e
  | x :: r, m, e => by
    unfold lowI at e
    cases h : lowI r with
    | none =>
      rw [h] at e; cases e
      have : r = [] := by cases r with
        | nil => rfl
        | cons y r => unfold lowI at h; split at h <;> cases h
      subst this
      exact ⟨List.mem_cons_self, fun y hy => by rw [List.mem_singleton] at hy; omega⟩
    | some z =>
      rw [h] at e
      obtain ⟨h1, h2⟩ := lowI_is h
      have e : some (if z < x then z else x) = some m := e
      cases e
      by_cases c : z < x
      · rw [if_pos c]
        exact ⟨List.mem_cons_of_mem _ h1, fun y hy => by rcases List.mem_cons.mp hy with rfl | hy; omega; exact h2 y hy⟩
      · rw [if_neg c]
        exact ⟨List.mem_cons_self, fun y hy => by rcases List.mem_cons.mp hy with rfl | hy; omega; have := h2 y hy; omega⟩
def gMaxL : PyData → Option PyData
  | .list ds => (intsOf ds).bind fun ns => (topI ns).map .int
  | _ => none
def gMinL : PyData → Option PyData
  | .list ds => (intsOf ds).bind fun ns => (lowI ns).map .int
  | _ => none
theorem v1_maxL {K : Frag} : V1 K (fun v => rMax K [v]) gMaxL := fun H x a d Q e h => by
  cases a <;> first | (cases e; done) | skip
  rename_i ds
  obtain ⟨ns, e1, e2⟩ := Option.bind_eq_some_iff.mp e
  obtain ⟨m, e3, e4⟩ := Option.map_eq_some_iff.mp e2
  subst e4
  have q := endI h fun _ => RD.int m
  obtain ⟨O, hO, h1, _⟩ := h
  obtain ⟨p, vs, rfl, g1, g2⟩ := h1
  obtain ⟨t1, t2⟩ := topI_is e3
  refine ⟨p, ns, rfl, (by rw [← g2.toInts e1]; exact g1.sq), List.length_pos_of_mem t1, fun k k1 k2 => ?_⟩
  rw [show k = m from Int.le_antisymm (t2 k k1) (k2 m t1)]; exact q
theorem v1_minL {K : Frag} : V1 K (fun v => rMin K [v]) gMinL := fun H x a d Q e h => by
  cases a <;> first | (cases e; done) | skip
  rename_i ds
  obtain ⟨ns, e1, e2⟩ := Option.bind_eq_some_iff.mp e
  obtain ⟨m, e3, e4⟩ := Option.map_eq_some_iff.mp e2
  subst e4
  have q := endI h fun _ => RD.int m
  obtain ⟨O, hO, h1, _⟩ := h
  obtain ⟨p, vs, rfl, g1, g2⟩ := h1
  obtain ⟨t1, t2⟩ := lowI_is e3
  refine ⟨p, ns, rfl, (by rw [← g2.toInts e1]; exact g1.sq), List.length_pos_of_mem t1, fun k k1 k2 => ?_⟩
  rw [show k = m from Int.le_antisymm (k2 m t1) (t2 k k1)]; exact q
end Pv

namespace Pv
open PySem PySem.Spec PyProof.Rows L2
/-! ### zip of two lists, of two tuples, its pairs laid for good -/
def Jzp (K : Frag) (lst : Bool) (a b : Addr) (xs ys : List V) : It where
  go := fun i H => (SqA K lst H a xs ∧ SqA K lst H b ys) ∧ i < xs.length ∧ i < ys.length
  yld := fun i H v H' => ∃ (T : Addr) (o : Obj) (x y : V), v = .ref T ∧ H T = none ∧ xs[i]? = some x ∧ ys[i]? = some y ∧ o.dict = none ∧ H' = upd H T (.frz o (.tup [x, y]))
  stop := fun i H => (SqA K lst H a xs ∧ SqA K lst H b ys) ∧ (xs.length ≤ i ∨ ys.length ≤ i)
theorem zip_step {X : Cx} {pins : List (Addr × Obj)} {σ : L2.St} {H : Hp} {s : Shared} {lst : Bool} {a b z TI TO i1 i2 : Addr} {i : Nat} {xs ys : List V} {p0 q0 : Value} {E : Value → Shared → Prop} {Q : Option Value → Shared → Prop} (I : Inv X pins σ H s) (D : ZipApart z TI TO i1 i2 a b)
    (hz : IsZip s.heap z TI TO .none) (hTI : PySem.IsPair s.heap TI (.ref i1) (.ref i2)) (hTO : PySem.IsPair s.heap TO p0 q0) (g1 : InIt lst s.heap i1 a i) (g2 : InIt lst s.heap i2 b i) (sx : SqA X.K lst H a xs) (sy : SqA X.K lst H b ys) (lx : i < xs.length) (ly : i < ys.length)
    (q : ∀ (x y : V) (u v : Value) (h' : Heap), xs[i]? = some x → ys[i]? = some y → RelV x u → RelV y v → IsZip h' z TI TO (rawInt s.heap.objs.size) → PySem.IsPair h' TO u v → InIt lst h' i1 a (i + 1) → InIt lst h' i2 b (i + 1) → PySem.IsPair h' s.heap.objs.size u v → (∀ c o, c ≠ z → c ≠ TO → c ≠ i1 → c ≠ i2 → s.heap.get? c = some o → h'.get? c = some o) → Q (some (.ref s.heap.objs.size)) { s with heap := h' }) :
    wpAny (model X.prog X.w) X.A (pyNext (.ref z)) Q E s := by
  have ex : xs[i]? = some xs[i] := List.getElem?_eq_getElem lx
  have ey : ys[i]? = some ys[i] := List.getElem?_eq_getElem ly
  cases lst with
  | true =>
    obtain ⟨is1, r1, p1, _⟩ := I.list sx
    obtain ⟨is2, r2, p2, _⟩ := I.list sy
    obtain ⟨u, hu, ru⟩ := r1.get ex
    obtain ⟨v, hv, rv⟩ := r2.get ey
    exact wpAny_pyNext_zip_item D hz hTI hTO g1 g2 p1.isList p2.isList (x := u) (y := v) (by simpa using hu) (by simpa using hv) fun h' z' t' k1 k2 hT _ hk => q _ _ u v h' ex ey ru rv z' t' k1 k2 hT hk
  | false =>
    obtain ⟨is1, r1, p1, _⟩ := I.tuple sx
    obtain ⟨is2, r2, p2, _⟩ := I.tuple sy
    obtain ⟨u, hu, ru⟩ := r1.get ex
    obtain ⟨v, hv, rv⟩ := r2.get ey
    exact RZ.pyNext_zipT_item D hz hTI hTO g1 g2 p1 p2 (x := u) (y := v) (by simpa using hu) (by simpa using hv) fun h' z' t' k1 k2 hT _ hk => q _ _ u v h' ex ey ru rv z' t' k1 k2 hT hk
theorem zip_stop {X : Cx} {pins : List (Addr × Obj)} {σ : L2.St} {H : Hp} {s : Shared} {lst : Bool} {a b z TI TO i1 i2 : Addr} {i : Nat} {xs ys : List V} {p0 q0 : Value} {E : Value → Shared → Prop} {Q : Option Value → Shared → Prop} (I : Inv X pins σ H s) (hc : X.calm = true) (D : ZipApart z TI TO i1 i2 a b)
    (hz : IsZip s.heap z TI TO .none) (hTI : PySem.IsPair s.heap TI (.ref i1) (.ref i2)) (hTO : PySem.IsPair s.heap TO p0 q0) (g1 : InIt lst s.heap i1 a i) (g2 : InIt lst s.heap i2 b i) (sx : SqA X.K lst H a xs) (sy : SqA X.K lst H b ys) (le : xs.length ≤ i ∨ ys.length ≤ i)
    (q : ∀ h', (∀ c o, c ≠ z → c ≠ TO → c ≠ i1 → c ≠ i2 → s.heap.get? c = some o → h'.get? c = some o) → Q none { s with heap := h' }) : wpAny (model X.prog X.w) X.A (pyNext (.ref z)) Q E s := by
  cases lst with
  | true =>
    obtain ⟨is1, r1, p1, _⟩ := I.list sx
    obtain ⟨is2, r2, p2, _⟩ := I.list sy
    have e1 := r1.length
    have e2 := r2.length
    exact wpAny_pyNext_zip_end (I.ok.hd hc) D hz hTI hTO g1 g2 p1.isList p2.isList (le.imp (fun y => by simp; omega) fun y => by simp; omega) q
  | false =>
    obtain ⟨is1, r1, p1, _⟩ := I.tuple sx
    obtain ⟨is2, r2, p2, _⟩ := I.tuple sy
    have e1 := r1.length
    have e2 := r2.length
    exact RZ.pyNext_zipT_end (I.ok.hd hc) D hz hTI hTO g1 g2 p1 p2 (le.imp (fun y => by simp; omega) fun y => by simp; omega) q
theorem turn_zp {P : Program} {w : World} {K : Frag} {elts : List Expr} {kk : Nat} {tpos : Pos} {a b z TI TO i1 i2 : Addr} (lst : Bool) (xs ys : List V) (D : ZipApart z TI TO i1 i2 a b) :
    Turn P w K (.Tuple elts kk tpos) (Jzp K lst a b xs ys) [z, TI, TO, i1, i2] z (fun i h => IsZip h z TI TO .none ∧ PySem.IsPair h TI (.ref i1) (.ref i2) ∧ (∃ x y, PySem.IsPair h TO x y) ∧ InIt lst h i1 a i ∧ InIt lst h i2 b i) where
  mem := List.mem_cons_self
  obj := fun i h ⟨hz, hTI, ⟨x, y, hTO⟩, g1, g2⟩ c hc => by
    simp only [List.mem_cons, List.not_mem_nil, or_false] at hc
    rcases hc with rfl | rfl | rfl | rfl | rfl
    · exact ⟨_, hz, fun v e => by cases e⟩
    · exact ⟨_, hTI, fun v e => by cases e⟩
    · exact ⟨_, hTO, fun v e => by cases e⟩
    · exact g1.there
    · exact g2.there
  keep := fun i h h' ⟨hz, hTI, ⟨x, y, hTO⟩, g1, g2⟩ k => ⟨k z (by simp) _ hz, k TI (by simp) _ hTI, ⟨x, y, k TO (by simp) _ hTO⟩, g1.move fun o e => k i1 (by simp) o e, g2.move fun o e => k i2 (by simp) o e⟩
  item := by
    intro X hP hw hK hc i pins s σ H E I hf st hg
    subst hP hw hK
    obtain ⟨hz, hTI, ⟨p0, q0, hTO⟩, g1, g2⟩ := st
    obtain ⟨⟨sx, sy⟩, lx, ly⟩ := hg
    have lz : z < s.heap.objs.size := Heap.lt_size hz
    refine zip_step I D hz hTI hTO g1 g2 sx sy lx ly fun x y u v h' ex ey ru rv z1 t1 k1 k2 hT hk => ⟨_, rfl, wpAny_letOwnedTupleGo_zip (s := { s with heap := h' }) z1 fun h2 z2 sb => ?_⟩
    have hT2 : h2.get? s.heap.objs.size = some { cls := .type "tuple", data := .seq #[u, v] } := (sb.2 _ (Nat.ne_of_gt lz)).trans hT
    have ok : ObjOk X.prog X.w (upd H s.heap.objs.size (.frz { cls := .type "tuple", data := .seq #[u, v] } (.tup [x, y]))) h2 s.heap.objs.size (.frz { cls := .type "tuple", data := .seq #[u, v] } (.tup [x, y])) :=
      ⟨hT2, by show 2 ≤ sizeLine; decide, [u, v], .cons ru (.cons rv .nil), ⟨_, hT2, rfl, _, rfl⟩⟩
    have far : ∀ c, c ∉ [z, TI, TO, i1, i2] → c ≠ z ∧ c ≠ TO ∧ c ≠ i1 ∧ c ≠ i2 := fun c hc' => ⟨fun e => hc' (by rw [e]; simp), fun e => hc' (by rw [e]; simp), fun e => hc' (by rw [e]; simp), fun e => hc' (by rw [e]; simp)⟩
    have J1 : Inv X pins σ (upd H s.heap.objs.size (.frz { cls := .type "tuple", data := .seq #[u, v] } (.tup [x, y]))) { s with heap := h2 } :=
      I.turnedNew (t' := s.toks) (ch := [z, TI, TO, i1, i2]) (fun c o hb e => by
        obtain ⟨n1, n2, n3, n4⟩ := far c hb
        exact (sb.2 c n1).trans (hk c o n1 n2 n3 n4 e)) hf (Nat.le_refl _) ok
    refine ⟨.ref s.heap.objs.size, _, J1, rfl, ⟨_, _, x, y, rfl, I.hok.fresh (Nat.le_refl _), ex, ey, rfl, rfl⟩, ⟨z2, ?_, ⟨u, v, ?_⟩, ?_, ?_⟩, fun c hm => ?_⟩
    · exact (sb.2 TI D.TIz).trans (hk TI _ D.TIz D.TITO D.TIi1 D.TIi2 hTI)
    · exact (sb.2 TO D.TOz).trans t1
    · exact k1.move fun o e => (sb.2 i1 D.i1z).trans e
    · exact k2.move fun o e => (sb.2 i2 D.i2z).trans e
    · have lc : c < s.heap.objs.size := by
        simp only [List.mem_cons, List.not_mem_nil, or_false] at hm
        rcases hm with rfl | rfl | rfl | rfl | rfl
        · exact lz
        · exact Heap.lt_size hTI
        · exact Heap.lt_size hTO
        · obtain ⟨_, e, _⟩ := g1.there; exact Heap.lt_size e
        · obtain ⟨_, e, _⟩ := g2.there; exact Heap.lt_size e
      rw [upd_ne (Nat.ne_of_lt lc)]
      exact (hf c hm).1
  done := by
    intro X hP hw hK hc i pins s σ H E I hf st hg
    subst hP hw hK
    obtain ⟨hz, hTI, ⟨p0, q0, hTO⟩, g1, g2⟩ := st
    obtain ⟨⟨sx, sy⟩, le⟩ := hg
    refine zip_stop I hc D hz hTI hTO g1 g2 sx sy le fun h' hk => ⟨rfl, I.turnedL (t' := s.toks) (ch := [z, TI, TO, i1, i2]) (fun c o hb e => ?_) hf⟩
    exact hk c o (fun y => hb (by rw [y]; simp)) (fun y => hb (by rw [y]; simp)) (fun y => hb (by rw [y]; simp)) (fun y => hb (by rw [y]; simp)) e
  self := fun A i s Q E st h => wpAny_pyIter_zip st.1 h
def iAnyZ (K : Frag) (ta tb : TE) : TI := fun σ H R => ta σ H fun x H1 => tb σ H1 fun y H2 => ∃ lst a b xs ys, x = .ref a ∧ y = .ref b ∧ SqA K lst H2 a xs ∧ SqA K lst H2 b ys ∧ R (Jzp K lst a b xs ys) H2
theorem pi_zp {X : Cx} {e e2 : Expr} {ta tb : TE} {p pos tpos : Pos} {elts : List Expr} {kk : Nat} (h1 : PE X e ta) (h2 : PE X e2 tb) (hm : X.mg "zip" = none) (hg : Gl X "zip") (s1 : starEach [e, e2] X.env = (false, eval e X.env) :: starEach [e2] X.env) (s2 : starEach [e2] X.env = [(false, eval e2 X.env)]) :
    PI X (.Tuple elts kk tpos) (.Call (.Name "zip" p) [e, e2] [] pos) (iAnyZ X.K ta tb) := by
  refine ⟨fun pins s σ H R I h => ?_⟩
  refine Call_ (ld_blt I hg hm PyProof.Rows.boot_zip (PyProof.Rows.callWith_type1 (thn ((pa_two h1 h2 s1 s2).run pos pins s σ H (fun vs H1 => match vs with
    | [x, y] => ∃ lst a b xs ys, x = .ref a ∧ y = .ref b ∧ SqA X.K lst H1 a xs ∧ SqA X.K lst H1 b ys ∧ R (Jzp X.K lst a b xs ys) H1
    | _ => False) I h) fun us t vq => ?_) s1 (by rw [s2]; rfl)))
  obtain ⟨vs, H1, I1, r1, q1⟩ := vq
  match vs, q1 with
  | [x, y], q1 =>
    obtain ⟨lst, a, b, xs, ys, rfl, rfl, sx, sy, q⟩ := q1
    obtain ⟨u, v, rfl, ru, rv⟩ : ∃ u v, us = [u, v] ∧ RelV (.ref a) u ∧ RelV (.ref b) v := by
      cases r1 with
      | cons c1 c2 => cases c2 with
        | cons c3 c4 => cases c4; exact ⟨_, _, rfl, c1, c3⟩
    cases ru
    cases rv
    have new5 : ∀ c, c ∈ [t.heap.objs.size + 4, t.heap.objs.size + 2, t.heap.objs.size + 3, t.heap.objs.size, t.heap.objs.size + 1] → FpOk X pins H1 c := fun c hc => by
      have le : t.heap.objs.size ≤ c := by
        simp only [List.mem_cons, List.not_mem_nil, or_false] at hc
        omega
      exact I1.fpOk le (I1.hok.fresh le)
    cases lst with
    | true =>
      obtain ⟨is1, v1, p1, _⟩ := I1.list sx
      obtain ⟨is2, v2, p2, _⟩ := I1.list sy
      exact call_zip_2 p1.isList p2.isList fun h' hz hTI hTO g1 g2 _ hk => wpAny_pyIter_zip hz ⟨t.heap.objs.size + 4, _, _, _, H1, rfl, I1.kept (t' := t.toks) hk, turn_zp true xs ys (PySem.W.ktu_apart t.heap.objs.size a b p1.lt p2.lt), ⟨hz, hTI, ⟨_, _, hTO⟩, g1, g2⟩, new5, q⟩
    | false =>
      obtain ⟨is1, v1, p1, _⟩ := I1.tuple sx
      obtain ⟨is2, v2, p2, _⟩ := I1.tuple sy
      obtain ⟨o1, e1, _⟩ := id p1
      obtain ⟨o2, e2', _⟩ := id p2
      exact RZ.call_zipT p1 p2 fun h' hz hTI hTO g1 g2 _ hk => wpAny_pyIter_zip hz ⟨t.heap.objs.size + 4, _, _, _, H1, rfl, I1.kept (t' := t.toks) hk, turn_zp false xs ys (PySem.W.ktu_apart t.heap.objs.size a b (Heap.lt_size e1) (Heap.lt_size e2')), ⟨hz, hTI, ⟨_, _, hTO⟩, g1, g2⟩, new5, q⟩
def zpD (ds es : List PyData) : List PyData := ds.zipWith (fun d e => .tuple [d, e]) es
theorem zpD_len (ds es : List PyData) : (zpD ds es).length = min ds.length es.length := List.length_zipWith
theorem zpD_get {ds es : List PyData} {i : Nat} {e : PyData} (h : (zpD ds es)[i]? = some e) : ∃ x y, ds[i]? = some x ∧ es[i]? = some y ∧ e = .tuple [x, y] := by
  unfold zpD at h
  rw [List.getElem?_zipWith] at h
  split at h
  · rename_i x y h1 h2
    exact ⟨x, y, h1, h2, (Option.some.inj h).symm⟩
  · cases h
theorem yl_zp {K : Frag} {S0 : Hp} {lst : Bool} {a b : Addr} {xs ys : List V} {ds es : List PyData} (h : ∀ H, Same S0 H → SqA K lst H a xs ∧ SqA K lst H b ys) (r : RDs K S0 xs ds) (r2 : RDs K S0 ys es) : Yl K (Jzp K lst a b xs ys) (zpD ds es) S0 := fun S H s1 s2 => by
  have hq := h H (s1.trans s2)
  refine ⟨fun i hi => ⟨hq, by rw [zpD_len] at hi; rw [r.len, r2.len]; omega⟩, fun i hi => ⟨hq, by rw [zpD_len] at hi; rw [r.len, r2.len]; omega⟩, fun i x H' e he ⟨T, o, y, z, ex, hT, hy, hz, od, eH⟩ => ?_⟩
  subst ex eH
  obtain ⟨d, f, hd, hf, rfl⟩ := zpD_get he
  obtain ⟨y', g1, g2⟩ := r.get hd
  obtain ⟨z', g3, g4⟩ := r2.get hf
  rw [hy] at g1; cases g1
  rw [hz] at g3; cases g3
  exact ⟨same_upd hT, fun S' s3 nw => .tup (.inl ⟨o, od, nw T _ hT upd_same⟩) (.cons (g2.up (s1.trans s3)) (.one (g4.up (s1.trans s3))))⟩
def iZp (f g : FE) : FI := fun st => (f st).bind fun p => (share p.2 p.1).bind fun q => (g q.2).bind fun p2 => (share p2.2 p2.1).bind fun q2 => match q.1, q2.1 with
  | .list ds, .list es => some (zpD ds es, q2.2)
  | .tuple ds, .tuple es => some (zpD ds es, q2.2)
  | _, _ => none
theorem k_izp {X : Cx} {e e2 : Expr} {f g : FE} {p pos tpos : Pos} {elts : List Expr} {kk : Nat} (h1 : PE X e (TEv X.K f)) (h2 : PE X e2 (TEv X.K g)) (hm : X.mg "zip" = none) (hg : Gl X "zip" := by rfl) (s1 : starEach [e, e2] X.env = (false, eval e X.env) :: starEach [e2] X.env := by rfl) (s2 : starEach [e2] X.env = [(false, eval e2 X.env)] := by rfl) : PI X (.Tuple elts kk tpos) (.Call (.Name "zip" p) [e, e2] [] pos) (TIv X.K (iZp f g)) :=
  (pi_zp h1 h2 hm hg s1 s2).wk fun σ H R ⟨Z, L, st, ds, st', I, e, q⟩ => by
    obtain ⟨⟨r, s1⟩, e1, ea⟩ := Option.bind_eq_some_iff.mp e
    obtain ⟨⟨d, s2⟩, e2, eb⟩ := Option.bind_eq_some_iff.mp ea
    obtain ⟨⟨r2, s3⟩, e3, ec⟩ := Option.bind_eq_some_iff.mp eb
    obtain ⟨⟨d2, s4⟩, e4, ed⟩ := Option.bind_eq_some_iff.mp ec
    clear e ea eb ec
    refine ⟨Z, L, st, r, s1, I, e1, fun v H1 L1 I1 S1 rv => ?_⟩
    obtain ⟨L2, I2, S2, rd⟩ := I1.share rv e2
    refine ⟨Z, L2, s2, r2, s3, I2, e3, fun v2 H3 L3 I3 S3 rv2 => ?_⟩
    obtain ⟨L4, I4, S4, rd2⟩ := I3.share rv2 e4
    have rd' := rd.up (S3.trans S4).see
    have SS := S1.trans (S2.trans (S3.trans S4))
    cases d <;> cases d2 <;> first | (cases ed; done) | skip
    · cases ed
      cases rd' with
      | lst a b => cases rd2 with
        | lst a2 b2 => exact ⟨true, _, _, _, _, rfl, rfl, (a.up hid_sub).sq, (a2.up hid_sub).sq, q _ H3 L4 I4 SS (yl_zp (lst := true) (fun H s => ⟨(a.up s).sq, (a2.up s).sq⟩) b b2)⟩
    · cases ed
      cases rd' with
      | tup a b => cases rd2 with
        | tup a2 b2 => exact ⟨false, _, _, _, _, rfl, rfl, sameSqT hid_sub a.sq, sameSqT hid_sub a2.sq, q _ H3 L4 I4 SS (yl_zp (lst := false) (fun H s => ⟨sameSqT s a.sq, sameSqT s a2.sq⟩) b b2)⟩
end Pv

namespace Pv
open PySem PySem.Spec PyProof.Rows L2
/-! ### a list times an int, whatever list -/
def rRepA (K : Frag) : R2 := fun x y H Q => ∃ l k xs, x = .ref l ∧ y = .int k ∧ Lp K H l xs ∧ -(2 ^ 63) ≤ k ∧ k < 2 ^ 63 ∧ xs.length * k.toNat ≤ sizeLine ∧ ∀ p, H p = none → Q (.ref p) (upd H p (.lst (List.replicate k.toNat xs).flatten))
theorem op_repA {X : Cx} : OpR X (binaryOp .Mult) (rRepA X.K) := by
  intro pp s σ H x y v u Q I ax ay hh
  obtain ⟨l, k, xs, rfl, rfl, hl, k1, k2, sz, q⟩ := hh
  cases ax
  obtain ⟨t, rfl⟩ := ay
  obtain ⟨z, ps, n, rp, ep⟩ := hl.obj I
  have lp := rp.length
  have len : ps.toArray.size * k.toNat ≤ sizeLine := by rw [List.size_toArray, ← lp]; exact sz
  have cap : ¬ ps.toArray.size * k.toNat > (2 ^ 63 - 1) / 8 := by
    have line : (sizeLine : Nat) ≤ (2 ^ 63 - 1) / 8 := by decide
    omega
  have fits : ¬ (!Builtin.List.listFitsIndex k) = true := by rw [fitsIndex_both k1 k2]; exact Bool.false_ne_true
  have long : ¬ Builtin.List.listTooLong (ps.toArray.size * k.toNat) = true := by rw [notLongL len]; exact Bool.false_ne_true
  have flat : ∀ m : Nat, List.foldl (fun x1 x2 => x1 ++ x2) #[] (List.replicate m ps.toArray) = (List.replicate m ps).flatten.toArray := fun m => by
    have y := foldl_rep ps m []
    rwa [List.nil_append] at y
  have new : List.foldl (fun x1 x2 => x1 ++ x2) #[] (List.replicate (if ps.toArray.isEmpty = true then 0 else k.toNat) ps.toArray) = (List.replicate k.toNat ps).flatten.toArray := by
    rw [flat]
    cases ps with
    | nil => simp
    | cons c cs => rw [if_neg (by simp)]
  refine wpAny_binaryOp_repeat_ref (T := "list") (U := "int") (by decide) ⟨_, ep, rfl⟩ (fun t' => typeIs_int t' k t) noFill_list_mul F.fills_int_mul F.slot_int_rmul repeat_list F.slot_int_index.lookup ?_
  refine call_meets F.slot_int_rmul (typeIs_int s k t) F.entry_int_rmul (F.args_int_rmul_2 _ _) (int___rmul___int_list k t l ps.toArray n) ⟨ep, rfl, ⟨_, ep, rfl⟩, ?_⟩
  refine call_meets F.slot_list_mul ⟨_, ep, rfl⟩ F.entry_list_mul (F.args_list_mul_2 _ _) (AutoListH.list___mul___list_int_3 l ps.toArray n k t fits cap long) ⟨ep, ?_⟩
  rw [new]
  exact ⟨.ref _, _, I.lnew (t' := s.toks) (rp.rep k.toNat) (by rw [PyProof.Rows.lm_len_rep_flat, Nat.mul_comm]; exact sz), rfl, q _ I.fresh⟩
def gRepL : PyData → PyData → Option (List PyData)
  | .list ds, .int k => if -(2 ^ 62) ≤ k ∧ k ≤ 1000000 ∧ ds.length * k.toNat ≤ LIM then some (List.replicate k.toNat ds).flatten else none
  | _, _ => none
theorem RDs.reps {K : Frag} {H : Hp} {vs : List V} {ds : List PyData} (r : RDs K H vs ds) : ∀ m : Nat, RDs K H (List.replicate m vs).flatten (List.replicate m ds).flatten
  | 0 => .nil
  | m + 1 => by
    rw [List.replicate_succ, List.replicate_succ, List.flatten_cons, List.flatten_cons]
    exact r.app (RDs.reps r m)
theorem w2_repL {K : Frag} : W2 K (rRepA K) gRepL := fun H x y a b d Q e h => by
  cases a <;> cases b <;> first | (cases e; done) | skip
  rename_i ds k
  simp only [gRepL] at e
  split at e
  · rename_i c
    cases e
    obtain ⟨O, hO, ⟨h1, h2⟩, q⟩ := h
    cases h2.int
    obtain ⟨p, vs, rfl, g1, g2⟩ := h1
    exact ⟨p, k, vs, rfl, rfl, g1, by omega, by omega, by rw [g2.len]; exact lim_line c.2.2, fun l hl => q l _ hl (g2.reps _)⟩
  · cases e
/-! ### x += y of ints; shifts, powers -/
def gAddI : PyData → PyData → Option PyData
  | .int i, .int j => some (.int (i + j))
  | _, _ => none
theorem v2_addI {K : Frag} : V2 K (rI0 fun i j => .int (i + j)) gAddI := v2_ii (F := fun i j => .int (i + j)) (fun i j H Q q => ⟨i, j, rfl, rfl, q⟩) fun a b d e => by
  cases a <;> cases b <;> first | (cases e; exact ⟨_, _, rfl, rfl, fun _ => .int _⟩) | cases e
def gShl : PyData → PyData → Option PyData
  | .int i, .int j => if 0 ≤ j ∧ j ≤ 1000 ∧ i.natAbs < 2 ^ 64 then some (.int (i * 2 ^ j.toNat)) else none
  | _, _ => none
def gPow : PyData → PyData → Option PyData
  | .int i, .int j => if 0 ≤ j ∧ j ≤ 1000 ∧ i.natAbs < 2 ^ 64 then some (.int (i ^ j.toNat)) else none
  | _, _ => none
theorem v2_cp {K : Frag} {F : Int → Int → Int} {g : PyData → PyData → Option PyData} (hg : ∀ a b d, g a b = some d → ∃ i j, a = .int i ∧ b = .int j ∧ (0 ≤ j ∧ j ≤ 1000 ∧ i.natAbs < 2 ^ 64) ∧ d = .int (F i j)) : V2 K (rI CPow fun i j => .int (F i j)) g := fun H x y a b d Q e h => by
  obtain ⟨i, j, rfl, rfl, c, rfl⟩ := hg a b d e
  have q := endI h fun _ => RD.int (F i j)
  obtain ⟨O, _, ⟨h1, h2⟩, _⟩ := h
  cases h1.int
  cases h2.int
  exact ⟨i, j, rfl, rfl, ⟨c.1, Int.le_trans c.2.1 (by decide), c.2.2⟩, q⟩
theorem v2_shl {K : Frag} : V2 K (rI CPow fun i j => .int (i * 2 ^ j.toNat)) gShl := v2_cp fun a b d e => by
  cases a <;> cases b <;> first | (cases e; done) | skip
  simp only [gShl] at e
  split at e
  · rename_i c; cases e; exact ⟨_, _, rfl, rfl, c, rfl⟩
  · cases e
theorem v2_pow {K : Frag} : V2 K (rI CPow fun i j => .int (i ^ j.toNat)) gPow := v2_cp fun a b d e => by
  cases a <;> cases b <;> first | (cases e; done) | skip
  simp only [gPow] at e
  split at e
  · rename_i c; cases e; exact ⟨_, _, rfl, rfl, c, rfl⟩
  · cases e
end Pv

namespace Pv
open PySem PySem.Spec PyProof.Rows L2
/-! ### *xs in a display -/
def aStar (f : FE) (g : FA) : FA := fun st => (f st).bind fun p => (share p.2 p.1).bind fun q => match q.1 with
  | .list ds => (g q.2).bind fun r => some (ds.map R.val ++ r.1, r.2)
  | .tuple ds => (g q.2).bind fun r => some (ds.map R.val ++ r.1, r.2)
  | _ => none
theorem Rvs.vals {K : Frag} {Z : Zt} {L : Nat → List Addr} {σ : L2.St} {H : Hp} {ws : List V} {rs : List R} : ∀ {vs : List V} {ds : List PyData}, RDs K (hid H (Hid Z L [])) vs ds → Rvs K Z L σ H ws rs → Rvs K Z L σ H (vs ++ ws) (ds.map R.val ++ rs)
  | _, _, .nil, h => h
  | _, _, .cons r t, h => ⟨r, Rvs.vals t h⟩
theorem k_star {X : Cx} {e : Expr} {es : List Expr} {p : Pos} {f : FE} {g : FA} (he : PE X e (TEv X.K f)) (hr : PA X es (TAv X.K g)) (hs : starEach (.Starred e p :: es) X.env = (true, eval e X.env) :: starEach es X.env := by rfl) : PA X (.Starred e p :: es) (TAv X.K (aStar f g)) :=
  (StX.pa_star he hr hs).wk fun σ H Q ⟨Z, L, st, rs, st', I, e, q⟩ => by
    obtain ⟨⟨r, s1⟩, e1, ea⟩ := Option.bind_eq_some_iff.mp e
    obtain ⟨⟨d, s2⟩, e2, eb⟩ := Option.bind_eq_some_iff.mp ea
    clear e ea
    refine ⟨Z, L, st, r, s1, I, e1, fun v H1 L1 I1 S1 rv => ?_⟩
    obtain ⟨L2, I2, S2, rd⟩ := I1.share rv e2
    cases d <;> first | (cases eb; done) | skip
    · obtain ⟨⟨r2, s3⟩, e3, ec⟩ := Option.bind_eq_some_iff.mp eb
      cases ec
      cases rd with
      | lst a b => exact ⟨_, _, rfl, .inr (a.up hid_sub).sq, Z, L2, s2, r2, _, I2, e3, fun vs H3 L3 I3 S3 rvs => q _ H3 L3 I3 (S1.trans (S2.trans S3)) (Rvs.vals (b.up S3.see) rvs)⟩
    · obtain ⟨⟨r2, s3⟩, e3, ec⟩ := Option.bind_eq_some_iff.mp eb
      cases ec
      cases rd with
      | tup a b => exact ⟨_, _, rfl, .inl (sameSqT hid_sub a.sq), Z, L2, s2, r2, _, I2, e3, fun vs H3 L3 I3 S3 rvs => q _ H3 L3 I3 (S1.trans (S2.trans S3)) (Rvs.vals (b.up S3.see) rvs)⟩
end Pv

namespace Pv
open PySem PySem.Spec PyProof.Rows L2
/-! ### dicts by value: keys ints and texts, or tuples of ints (nested) -/
def dGet (kvs : List (PyData × PyData)) (k : PyData) : Option PyData := (kvs.find? fun p => PyData.eqv p.1 k).map (·.2)
def dPut (kvs : List (PyData × PyData)) (k v : PyData) : List (PyData × PyData) :=
  if (dGet kvs k).isSome = true then kvs.map (fun p => if PyData.eqv p.1 k = true then (p.1, v) else p) else kvs ++ [(k, v)]
def dMerge (kvs more : List (PyData × PyData)) : List (PyData × PyData) := more.foldl (fun acc p => dPut acc p.1 p.2) kvs
def isKk : PyData → Bool
  | .int _ => true
  | .str _ => true
  | _ => false
def isKn : PyData → Bool
  | .tuple ds => match keysN ds with
    | some ks => decide ((NestedKey.tup ks).depth ≤ 8)
    | none => false
  | _ => false
def dOK (kvs : List (PyData × PyData)) (k : PyData) : Bool := (isKk k && kvs.all fun p => isKk p.1) || (isKn k && kvs.all fun p => isKn p.1)
theorem isKn_iff {d : PyData} (h : isKn d = true) : ∃ k, keyN d = some k ∧ k.depth ≤ 8 ∧ ∃ ds, d = .tuple ds := by
  cases d <;> first | (cases h; done) | skip
  rename_i ds
  simp only [isKn] at h
  split at h
  · rename_i ks e
    exact ⟨.tup ks, by unfold keyN; rw [e]; rfl, of_decide_eq_true h, ds, rfl⟩
  · cases h
mutual
theorem eqvN : ∀ (d e : PyData) (k l : NestedKey), keyN d = some k → keyN e = some l → PyData.eqv d e = decide (k = l)
  | .int i, .int j, _, _, h1, h2 => by
    unfold keyN at h1 h2; cases h1; cases h2
    rw [NestedKey.decide_eq]
    simp only [PyData.eqv, NestedKey.beq]
    by_cases e : i = j <;> simp [e]
  | .int i, .tuple es, _, _, h1, h2 => by
    unfold keyN at h1 h2; cases h1
    obtain ⟨ls, e, e2⟩ := Option.map_eq_some_iff.mp h2
    subst e2
    rw [NestedKey.decide_eq]
    simp only [PyData.eqv, NestedKey.beq]
  | .tuple ds, .int i, _, _, h1, h2 => by
    unfold keyN at h1 h2; cases h2
    obtain ⟨ls, e, e2⟩ := Option.map_eq_some_iff.mp h1
    subst e2
    rw [NestedKey.decide_eq]
    simp only [PyData.eqv, NestedKey.beq]
  | .tuple ds, .tuple es, _, _, h1, h2 => by
    unfold keyN at h1 h2
    obtain ⟨ks, e, e2⟩ := Option.map_eq_some_iff.mp h1
    obtain ⟨ls, e3, e4⟩ := Option.map_eq_some_iff.mp h2
    subst e2 e4
    rw [NestedKey.decide_eq]
    simp only [PyData.eqv, NestedKey.beq]
    exact eqvNs ds es ks ls e e3
  | .none, _, _, _, h1, _ => by unfold keyN at h1; cases h1
  | .bool _, _, _, _, h1, _ => by unfold keyN at h1; cases h1
  | .str _, _, _, _, h1, _ => by unfold keyN at h1; cases h1
  | .list _, _, _, _, h1, _ => by unfold keyN at h1; cases h1
  | .dict _, _, _, _, h1, _ => by unfold keyN at h1; cases h1
  | .int _, .none, _, _, _, h2 => by unfold keyN at h2; cases h2
  | .int _, .bool _, _, _, _, h2 => by unfold keyN at h2; cases h2
  | .int _, .str _, _, _, _, h2 => by unfold keyN at h2; cases h2
  | .int _, .list _, _, _, _, h2 => by unfold keyN at h2; cases h2
  | .int _, .dict _, _, _, _, h2 => by unfold keyN at h2; cases h2
  | .tuple _, .none, _, _, _, h2 => by unfold keyN at h2; cases h2
  | .tuple _, .bool _, _, _, _, h2 => by unfold keyN at h2; cases h2
  | .tuple _, .str _, _, _, _, h2 => by unfold keyN at h2; cases h2
  | .tuple _, .list _, _, _, _, h2 => by unfold keyN at h2; cases h2
  | .tuple _, .dict _, _, _, _, h2 => by unfold keyN at h2; cases h2
theorem eqvNs : ∀ (ds es : List PyData) (ks ls : List NestedKey), keysN ds = some ks → keysN es = some ls → PyData.eqvAll ds es = NestedKey.beqAll ks ls
  | [], [], _, _, h1, h2 => by unfold keysN at h1 h2; cases h1; cases h2; simp only [PyData.eqvAll, NestedKey.beqAll]
  | [], e :: es, _, _, h1, h2 => by
    unfold keysN at h1 h2; cases h1
    obtain ⟨l, _, h2⟩ := Option.bind_eq_some_iff.mp h2
    obtain ⟨ls, _, e2⟩ := Option.map_eq_some_iff.mp h2
    subst e2
    simp only [PyData.eqvAll, NestedKey.beqAll]
  | d :: ds, [], _, _, h1, h2 => by
    unfold keysN at h1 h2; cases h2
    obtain ⟨l, _, h2⟩ := Option.bind_eq_some_iff.mp h1
    obtain ⟨ls, _, e2⟩ := Option.map_eq_some_iff.mp h2
    subst e2
    simp only [PyData.eqvAll, NestedKey.beqAll]
  | d :: ds, e :: es, _, _, h1, h2 => by
    unfold keysN at h1 h2
    obtain ⟨k, a1, h1⟩ := Option.bind_eq_some_iff.mp h1
    obtain ⟨ks, a2, e1⟩ := Option.map_eq_some_iff.mp h1
    obtain ⟨l, b1, h2⟩ := Option.bind_eq_some_iff.mp h2
    obtain ⟨ls, b2, e2⟩ := Option.map_eq_some_iff.mp h2
    subst e1 e2
    simp only [PyData.eqvAll, NestedKey.beqAll]
    rw [eqvN d e k l a1 b1, NestedKey.decide_eq, eqvNs ds es ks ls a2 b2]
end
mutual
theorem hashP_eq (w : World) : ∀ (d : PyData) (k : NestedKey), keyN d = some k → hashP k = k.hash w
  | .int i, _, h => by unfold keyN at h; cases h; simp only [hashP, NestedKey.hash]
  | .tuple ds, _, h => by
    unfold keyN at h
    obtain ⟨ks, e, e2⟩ := Option.map_eq_some_iff.mp h
    subst e2
    simp only [hashP, NestedKey.hash]
    rw [hashesP_eq w ds ks e]
  | .none, _, h1 => by unfold keyN at h1; cases h1
  | .bool _, _, h1 => by unfold keyN at h1; cases h1
  | .str _, _, h1 => by unfold keyN at h1; cases h1
  | .list _, _, h1 => by unfold keyN at h1; cases h1
  | .dict _, _, h1 => by unfold keyN at h1; cases h1
theorem hashesP_eq (w : World) : ∀ (ds : List PyData) (ks : List NestedKey), keysN ds = some ks → hashesP ks = NestedKey.hashes w ks
  | [], _, h => by unfold keysN at h; cases h; simp only [hashesP, NestedKey.hashes]
  | d :: ds, _, h => by
    unfold keysN at h
    obtain ⟨k, a1, h⟩ := Option.bind_eq_some_iff.mp h
    obtain ⟨ks, a2, e1⟩ := Option.map_eq_some_iff.mp h
    subst e1
    simp only [hashesP, NestedKey.hashes]
    rw [hashP_eq w d k a1, hashesP_eq w ds ks a2]
end
section
variable {X : Cx} {pins : List (Addr × Obj)} {σ : L2.St} {H : Hp} {s : Shared}
mutual
theorem RD.nested (I : Inv X pins σ H s) : ∀ (d : PyData) (v : V) (u : Value) (k : NestedKey), RD X.K H v d → keyN d = some k → RelV v u → NestedIs s.heap k u
  | .int i, _, _, _, h, e, r => by
    unfold keyN at e; cases e; cases h
    obtain ⟨t, rfl⟩ := r
    exact .int i t
  | .tuple ds, _, _, _, h, e, r => by
    unfold keyN at e
    obtain ⟨ks, e1, e2⟩ := Option.map_eq_some_iff.mp e
    subst e2
    cases h with
    | @tup a xs _ h1 h2 =>
      cases (show _ = Value.ref a from r)
      obtain ⟨its, rv, ⟨o, ho, hc, n, hd⟩, _⟩ := I.tuple h1.sq
      exact .tup ho hc hd (by simpa using RDs.nested I ds xs its ks h2 e1 rv)
  | .none, _, _, _, _, h1, _ => by unfold keyN at h1; cases h1
  | .bool _, _, _, _, _, h1, _ => by unfold keyN at h1; cases h1
  | .str _, _, _, _, _, h1, _ => by unfold keyN at h1; cases h1
  | .list _, _, _, _, _, h1, _ => by unfold keyN at h1; cases h1
  | .dict _, _, _, _, _, h1, _ => by unfold keyN at h1; cases h1
theorem RDs.nested (I : Inv X pins σ H s) : ∀ (ds : List PyData) (vs : List V) (us : List Value) (ks : List NestedKey), RDs X.K H vs ds → keysN ds = some ks → Vals vs us → NestedAll s.heap ks us
  | [], _, _, _, h, e, r => by unfold keysN at e; cases e; cases h; cases r; exact .nil
  | d :: ds, _, _, _, h, e, r => by
    unfold keysN at e
    obtain ⟨k, a1, e⟩ := Option.bind_eq_some_iff.mp e
    obtain ⟨ks, a2, e1⟩ := Option.map_eq_some_iff.mp e
    subst e1
    cases h with
    | cons h1 h2 =>
      cases r with
      | cons r1 r2 => exact .cons (RD.nested I d _ _ k h1 a1 r1) (RDs.nested I ds _ _ ks h2 a2 r2)
end
end
/-! ### what is under a key -/
def RO (K : Frag) (H : Hp) : Option V → Option PyData → Prop
  | some v, some d => RD K H v d
  | none, none => True
  | _, _ => False
theorem RO.isSome {K : Frag} {H : Hp} : ∀ {o : Option V} {p : Option PyData}, RO K H o p → o.isSome = p.isSome
  | some _, some _, _ => rfl
  | none, none, _ => rfl
  | some _, none, h => h.elim
  | none, some _, h => h.elim
theorem RO.get {K : Frag} {H : Hp} : ∀ {o : Option V} {d : PyData}, RO K H o (some d) → ∃ v, o = some v ∧ RD K H v d
  | some v, _, h => ⟨v, rfl, h⟩
  | none, _, h => h.elim
theorem eqvK (a b : Key) : PyData.eqv (keyD a) (keyD b) = decide (a = b) := by
  rcases a with i | x <;> rcases b with j | y <;> simp only [keyD, PyData.eqv]
  · by_cases e : i = j <;> simp [e]
  · simp
  · simp
  · by_cases e : x = y <;> simp [e]
theorem dGet_nil (k : PyData) : dGet [] k = none := rfl
theorem dGet_cons (p : PyData × PyData) (r : List (PyData × PyData)) (k : PyData) : dGet (p :: r) k = if PyData.eqv p.1 k = true then some p.2 else dGet r k := by
  unfold dGet
  rw [List.find?_cons]
  by_cases e : PyData.eqv p.1 k = true
  · rw [e]; rfl
  · rw [if_neg e, Bool.not_eq_true _ |>.mp e]
theorem RDk.get {K : Frag} {H : Hp} (k : Key) : ∀ {ks : List (Key × V)} {kvs : List (PyData × PyData)}, RDk K H ks kvs → RO K H (valV ks k) (dGet kvs (keyD k))
  | _, _, .nil => trivial
  | _, _, @RDk.cons _ _ j v vs d ds h t => by
    have ih := RDk.get k t
    rw [dGet_cons]
    show RO K H _ (if PyData.eqv (keyD j) (keyD k) = true then some d else dGet ds (keyD k))
    rw [eqvK]
    by_cases e : j = k
    · rw [valV_pos (p := (j, v)) e, decide_eq_true e, if_pos rfl]; exact h
    · rw [valV_neg (p := (j, v)) e, decide_eq_false e, if_neg Bool.false_ne_true]; exact ih
theorem RDk.repl {K : Frag} {H : Hp} (k : Key) {v : V} {d : PyData} (r : RD K H v d) : ∀ {ks : List (Key × V)} {kvs : List (PyData × PyData)}, RDk K H ks kvs →
    RDk K H (ks.map fun kv => if kv.1 = k then (kv.1, v) else kv) (kvs.map fun p => if PyData.eqv p.1 (keyD k) = true then (p.1, d) else p)
  | _, _, .nil => .nil
  | _, _, @RDk.cons _ _ j w vs e ds h t => by
    rw [List.map_cons, List.map_cons]
    dsimp only
    rw [eqvK]
    by_cases q : j = k
    · rw [if_pos q, decide_eq_true q, if_pos rfl]; exact .cons r (RDk.repl k r t)
    · rw [if_neg q, decide_eq_false q, if_neg Bool.false_ne_true]; exact .cons h (RDk.repl k r t)
theorem RDk.snoc {K : Frag} {H : Hp} (k : Key) {v : V} {d : PyData} (r : RD K H v d) : ∀ {ks : List (Key × V)} {kvs : List (PyData × PyData)}, RDk K H ks kvs → RDk K H (ks ++ [(k, v)]) (kvs ++ [(keyD k, d)])
  | _, _, .nil => .cons r .nil
  | _, _, .cons h t => .cons h (RDk.snoc k r t)
theorem RDk.put {K : Frag} {H : Hp} (k : Key) {v : V} {d : PyData} (r : RD K H v d) {ks : List (Key × V)} {kvs : List (PyData × PyData)} (h : RDk K H ks kvs) : RDk K H (putK ks k v) (dPut kvs (keyD k) d) := by
  unfold putK dPut
  rw [valV_any, (h.get k).isSome]
  split
  · exact h.repl k r
  · exact h.snoc k r
theorem RDk.len {K : Frag} {H : Hp} : ∀ {ks : List (Key × V)} {kvs : List (PyData × PyData)}, RDk K H ks kvs → ks.length = kvs.length
  | _, _, .nil => rfl
  | _, _, .cons _ t => by rw [List.length_cons, List.length_cons, RDk.len t]
abbrev US : List (NestedKey × Addr × V) → List (NestedKey × Addr × Value) → Prop := Paired fun p q => p.1 = q.1 ∧ p.2.1 = q.2.1 ∧ RelV p.2.2 q.2.2
def valX (xs : List (NestedKey × Addr × V)) (k : NestedKey) : Option V := (xs.find? fun x => decide (x.1 = k)).map (·.2.2)
def putX (xs : List (NestedKey × Addr × V)) (k : NestedKey) (b : Addr) (v : V) : List (NestedKey × Addr × V) := if (valX xs k).isSome = true then xs.map (fun x => if x.1 = k then (x.1, x.2.1, v) else x) else xs ++ [(k, b, v)]
theorem valX_cons (p : NestedKey × Addr × V) (r : List (NestedKey × Addr × V)) (k : NestedKey) : valX (p :: r) k = if p.1 = k then some p.2.2 else valX r k := by
  unfold valX
  rw [List.find?_cons]
  by_cases e : p.1 = k
  · rw [decide_eq_true e, if_pos e]; rfl
  · rw [decide_eq_false e, if_neg e]
theorem US.val (k : NestedKey) : ∀ {xs : List (NestedKey × Addr × V)} {us : List (NestedKey × Addr × Value)}, US xs us → RelO (valX xs k) ((atKey us k).map (·.2))
  | _, _, .nil => trivial
  | p :: xs, q :: us, .cons h t => by
    have ih := US.val k t
    rw [valX_cons]
    have b : atKey (q :: us) k = if q.1 = k then some q.2 else atKey us k := by
      unfold atKey
      rw [List.find?_cons]
      by_cases e : q.1 = k
      · rw [decide_eq_true e, if_pos e]; rfl
      · rw [decide_eq_false e, if_neg e]
    rw [b, ← h.1]
    by_cases e : p.1 = k
    · rw [if_pos e, if_pos e]; exact h.2.2
    · rw [if_neg e, if_neg e]; exact ih
theorem US.put {xs : List (NestedKey × Addr × V)} {us : List (NestedKey × Addr × Value)} (h : US xs us) (k : NestedKey) (b : Addr) {v : V} {u : Value} (r : RelV v u) : US (putX xs k b v) (storedH us k b u) := by
  unfold putX storedH
  rw [(h.val k).isSome_eq, Option.isSome_map]
  split
  · rename_i hx
    clear hx
    induction h with
    | nil => exact .nil
    | @cons p q ps qs h t ih =>
      rw [List.map_cons, List.map_cons]
      refine .cons ?_ ih
      unfold putAt
      rw [← h.1]
      by_cases e : p.1 = k
      · rw [if_pos e, if_pos e]; exact ⟨rfl, h.2.1, r⟩
      · rw [if_neg e, if_neg e]; exact h
  · exact Paired.snoc h ⟨rfl, rfl, r⟩
theorem RDn.get {K : Frag} {H : Hp} {dk : PyData} {k : NestedKey} (e : keyN dk = some k) : ∀ {xs : List (NestedKey × Addr × V)} {kvs : List (PyData × PyData)}, RDn K H xs kvs → RO K H (valX xs k) (dGet kvs dk)
  | _, _, .nil => trivial
  | _, _, @RDn.cons _ _ j b v xs dj d ds h1 h2 h3 h4 t => by
    have ih := RDn.get e t
    rw [dGet_cons, valX_cons]
    show RO K H (if j = k then some v else valX xs k) (if PyData.eqv dj dk = true then some d else dGet ds dk)
    rw [eqvN dj dk j k h2 e]
    by_cases q : j = k
    · rw [if_pos q, decide_eq_true q, if_pos rfl]; exact h4
    · rw [if_neg q, decide_eq_false q, if_neg Bool.false_ne_true]; exact ih
theorem RDn.put {K : Frag} {H : Hp} {dk d : PyData} {k : NestedKey} {b : Addr} {v : V} (e : keyN dk = some k) (hd : k.depth ≤ 8) (rb : RD K H (.ref b) dk) (r : RD K H v d) {xs : List (NestedKey × Addr × V)} {kvs : List (PyData × PyData)} (h : RDn K H xs kvs) : RDn K H (putX xs k b v) (dPut kvs dk d) := by
  unfold putX dPut
  rw [(h.get e).isSome]
  split
  · rename_i hx
    clear hx
    induction kvs generalizing xs with
    | nil => cases h; exact .nil
    | cons p ps ih =>
      cases h with
      | @cons j b v' xs dj d' ds h1 h2 h3 h4 t =>
        rw [List.map_cons, List.map_cons]
        dsimp only
        rw [eqvN dj dk j k h2 e]
        by_cases q : j = k
        · rw [if_pos q, decide_eq_true q, if_pos rfl]; exact .cons h1 h2 h3 r (ih t)
        · rw [if_neg q, decide_eq_false q, if_neg Bool.false_ne_true]; exact .cons h1 h2 h3 h4 (ih t)
  · rename_i hx
    clear hx
    induction kvs generalizing xs with
    | nil => cases h; exact .cons rb e hd r .nil
    | cons p ps ih =>
      cases h with
      | cons h1 h2 h3 h4 t => exact .cons h1 h2 h3 h4 (ih t)
theorem RDn.len {K : Frag} {H : Hp} : ∀ {xs : List (NestedKey × Addr × V)} {kvs : List (PyData × PyData)}, RDn K H xs kvs → xs.length = kvs.length
  | _, _, .nil => rfl
  | _, _, .cons _ _ _ _ t => by rw [List.length_cons, List.length_cons, RDn.len t]
theorem dPut_len (kvs : List (PyData × PyData)) (k v : PyData) : (dPut kvs k v).length ≤ kvs.length + 1 := by
  unfold dPut
  split
  · rw [List.length_map]; omega
  · rw [List.length_append, List.length_cons, List.length_nil]; omega
theorem dPut_ne (kvs : List (PyData × PyData)) (k v : PyData) : dPut kvs k v ≠ [] := by
  unfold dPut
  split
  · rename_i h
    cases kvs with
    | nil => cases h
    | cons p r => rw [List.map_cons]; exact List.cons_ne_nil _ _
  · intro e; simp at e
theorem RDk.kinds {K : Frag} {H : Hp} : ∀ {ks : List (Key × V)} {kvs : List (PyData × PyData)}, RDk K H ks kvs → ∀ p ∈ kvs, isKk p.1 = true
  | _, _, .nil, _, h => nomatch h
  | _, _, @RDk.cons _ _ k _ _ _ _ _ t, p, h => by
    rcases List.mem_cons.mp h with e | h
    · subst e; cases k <;> rfl
    · exact RDk.kinds t p h
theorem keyN_isKn {d : PyData} {k : NestedKey} {K : Frag} {H : Hp} {b : Addr} (r : RD K H (.ref b) d) (e : keyN d = some k) (h : k.depth ≤ 8) : isKn d = true := by
  cases r <;> first | (unfold keyN at e; cases e; done) | skip
  unfold keyN at e
  obtain ⟨ks, e1, e2⟩ := Option.map_eq_some_iff.mp e
  subst e2
  simp only [isKn]
  rw [e1]
  exact decide_eq_true h
theorem RDn.kinds {K : Frag} {H : Hp} : ∀ {xs : List (NestedKey × Addr × V)} {kvs : List (PyData × PyData)}, RDn K H xs kvs → ∀ p ∈ kvs, isKn p.1 = true
  | _, _, .nil, _, h => nomatch h
  | _, _, @RDn.cons _ _ k b _ _ _ _ _ h1 h2 h3 _ t, p, h => by
    rcases List.mem_cons.mp h with e | h
    · subst e; exact keyN_isKn h1 h2 h3
    · exact RDn.kinds t p h
theorem notBoth {d : PyData} (h1 : isKk d = true) (h2 : isKn d = true) : False := by
  cases d <;> first | (cases h1; done) | (cases h2; done)
/-! ### where a dict stands -/
def DctAt (K : Frag) (Hs H : Hp) (a : Addr) (kvs : List (PyData × PyData)) : Prop := (∃ ks, Rd H a (.dK ks) ∧ RDk K Hs ks kvs) ∨ (∃ o xs, H a = some (DN a o xs) ∧ kvs ≠ [] ∧ RDn K Hs xs kvs)
def OwnD (K : Frag) (Hs H : Hp) (a : Addr) (kvs : List (PyData × PyData)) : Prop := (∃ ks, H a = some (.dK ks) ∧ RDk K Hs ks kvs) ∨ (∃ o xs, H a = some (DN a o xs) ∧ kvs ≠ [] ∧ RDn K Hs xs kvs)
theorem OwnD.at {K : Frag} {Hs H : Hp} {a : Addr} {kvs : List (PyData × PyData)} (h : OwnD K Hs H a kvs) : DctAt K Hs H a kvs := h.imp (fun ⟨ks, h, r⟩ => ⟨ks, .inl h, r⟩) id
theorem OwnD.mut {K : Frag} {Hs H : Hp} {a : Addr} {kvs : List (PyData × PyData)} (h : OwnD K Hs H a kvs) : Mut (H a) := by
  rcases h with ⟨ks, h, _⟩ | ⟨o, xs, h, _⟩ <;> (rw [h]; exact True.intro)
theorem dn_new {P : Program} {w : World} {H : Hp} {h : Heap} {a : Addr} {o : Obj} {xs : List (NestedKey × Addr × V)} (x : DNok a o xs h) : ObjOk P w H h a (DN a o xs) :=
  ⟨x, ⟨o, x.1⟩, fun h1 h2 p k => ⟨k o p.1, p.2⟩⟩
section
variable {X : Cx} {pins : List (Addr × Obj)} {σ : L2.St} {H Hs : Hp} {s : Shared} {a : Addr}
theorem us_is (I : Inv X pins σ H s) (sb : Same Hs H) : ∀ {xs : List (NestedKey × Addr × V)} {kvs : List (PyData × PyData)} {us : List (NestedKey × Addr × Value)}, RDn X.K Hs xs kvs → US xs us →
    (∀ x ∈ us, (nestedKind X.prog X.w).is s.heap x.1 x.2.1) ∧ us.map (fun x => (⟨hashP x.1, .ref x.2.1, x.2.2⟩ : DictEntry)) = us.map (entryOfKey (nestedKind X.prog X.w))
  | _, _, _, .nil, .nil => ⟨(fun _ h => nomatch h), rfl⟩
  | _, _, q :: us, @RDn.cons _ _ k b v xs dk d ds h1 h2 h3 h4 t, .cons hq tq => by
    obtain ⟨a1, a2⟩ := us_is I sb t tq
    obtain ⟨e1, e2, _⟩ := hq
    refine ⟨fun x hx => ?_, ?_⟩
    · rcases List.mem_cons.mp hx with e | hx
      · subst e
        have r : RelV (.ref b) (Value.ref x.2.1) := by rw [← e2]; exact rfl
        have z := RD.nested I dk _ _ k (RD.up h1 sb) h2 r
        have e1' : k = x.1 := e1
        subst e1'
        exact ⟨z, h3⟩
      · exact a1 x hx
    · rw [List.map_cons, List.map_cons, a2]
      have e1' : k = q.1 := e1
      have : hashP q.1 = NestedKey.hash X.w q.1 := by rw [← e1']; exact hashP_eq X.w dk k h2
      rw [this]; rfl
theorem dn_at (I : Inv X pins σ H s) (sb : Same Hs H) {o : Obj} {xs : List (NestedKey × Addr × V)} {kvs : List (PyData × PyData)} (h : H a = some (DN a o xs)) (r : RDn X.K Hs xs kvs) :
    (a == sysModules) = false ∧ xs.length ≤ sizeLine ∧ ∃ (us : List (NestedKey × Addr × Value)) (es : Array DictEntry) (ep : Nat), US xs us ∧ s.heap.get? a = some o ∧ o.ExactDict ∧ o.data = .dict es ep ∧ es.toList = us.map (entryOfKey (nestedKind X.prog X.w)) ∧ s.heap.DictOfH (nestedKind X.prog X.w) a us := by
  obtain ⟨⟨h1, h2, h3, us, es, ep, u1, u2, u3, u4, u5⟩, _, _⟩ := (show ObjOk X.prog X.w H s.heap a (.ext (DNok a o xs)) from I.hok a _ h)
  obtain ⟨b1, b2⟩ := us_is I sb r u1
  rw [b2] at u4
  exact ⟨h2, h3, us, es, ep, u1, h1, u2, u3, u4, o, es, ep, h1, u2, u3, u4, b1, u5⟩
/-- the two kinds of keys -/
inductive DCase (X : Cx) (s : Shared) (Hs H : Hp) (a : Addr) (kvs : List (PyData × PyData)) (y : V) (u : Value) (dk : PyData) : Prop
  | K (ks : List (Key × V)) (k : Key) : Rd H a (.dK ks) → RDk X.K Hs ks kvs → y = kV k → dk = keyD k → DCase X s Hs H a kvs y u dk
  | N (b : Addr) (k : NestedKey) (xs : List (NestedKey × Addr × V)) (us : List (NestedKey × Addr × Value)) : y = .ref b → u = .ref b → keyN dk = some k → k.depth ≤ 8 → (nestedKind X.prog X.w).is s.heap k b → (a == sysModules) = false →
      s.heap.DictOfH (nestedKind X.prog X.w) a us → US xs us → RDn X.K Hs xs kvs → xs.length ≤ sizeLine → DCase X s Hs H a kvs y u dk
theorem empty_h {P : Program} {w : World} {h : Heap} (d : h.DictOf (mixKind P w) a []) : h.DictOfH (nestedKind P w) a [] := by
  obtain ⟨o, es, ep, ho, hx, hd, _, hp, _⟩ := d
  cases hes : es.toList with
  | nil => exact ⟨o, es, ep, ho, hx, hd, hes, (fun _ h => nomatch h), List.nodup_nil⟩
  | cons e r => rw [hes] at hp; exact nomatch hp
theorem dct_case (I : Inv X pins σ H s) (sb : Same Hs H) {kvs : List (PyData × PyData)} (D : DctAt X.K Hs H a kvs) {y : V} {u : Value} {dk : PyData} (rk : RD X.K Hs y dk) (ry : RelV y u) (ok : dOK kvs dk = true) : DCase X s Hs H a kvs y u dk := by
  unfold dOK at ok
  rw [Bool.or_eq_true, Bool.and_eq_true, Bool.and_eq_true, List.all_eq_true, List.all_eq_true] at ok
  rcases ok with ⟨k1, k2⟩ | ⟨k1, k2⟩
  · rcases D with ⟨ks, h, r⟩ | ⟨o, xs, h, n, r⟩
    · cases dk <;> first | (cases k1; done) | skip
      · cases rk; exact .K ks (.inl _) h r rfl rfl
      · cases rk; exact .K ks (.inr _) h r rfl rfl
    · cases kvs with
      | nil => exact absurd rfl n
      | cons p t => exact (notBoth (k2 p (by simp)) (r.kinds p (by simp))).elim
  · obtain ⟨k, e1, e2, ds, e3⟩ := isKn_iff k1
    have hb : ∃ b, y = .ref b := by subst e3; cases rk; exact ⟨_, rfl⟩
    obtain ⟨b, hb⟩ := hb
    subst hb
    cases (show u = Value.ref b from ry)
    have is : (nestedKind X.prog X.w).is s.heap k b := ⟨RD.nested I dk _ _ k (RD.up rk sb) e1 rfl, e2⟩
    rcases D with ⟨ks, h, r⟩ | ⟨o, xs, h, n, r⟩
    · cases kvs with
      | nil =>
        have z : ks = [] := by cases r; rfl
        subst z
        obtain ⟨_, hd, vs, rel, dd⟩ := dk_rd I.hok h
        cases rel
        exact .N b k [] [] rfl rfl e1 e2 is hd (empty_h dd) .nil .nil (Nat.zero_le _)
      | cons p t => exact (notBoth (r.kinds p (by simp)) (k2 p (by simp))).elim
    · obtain ⟨h2, h3, us, es, ep, u1, _, _, _, _, dd⟩ := dn_at I sb h r
      exact .N b k xs us rfl rfl e1 e2 is h2 dd u1 r h3
theorem dct_obj (I : Inv X pins σ H s) {kvs : List (PyData × PyData)} (D : DctAt X.K Hs H a kvs) : ∃ o, s.heap.get? a = some o ∧ o.ExactDict ∧ (a == sysModules) = false := by
  rcases D with ⟨ks, h, r⟩ | ⟨o, xs, h, n, r⟩
  · obtain ⟨_, hd, vs, rel, ob, es, ep, ho, hx, _⟩ := dk_rd I.hok h
    exact ⟨ob, ho, hx, hd⟩
  · obtain ⟨⟨h1, h2, _, us, es, ep, _, u2, _⟩, _, _⟩ := (show ObjOk X.prog X.w H s.heap a (.ext (DNok a o xs)) from I.hok a _ h)
    exact ⟨o, h1, u2, h2⟩
theorem dct_type (I : Inv X pins σ H s) {kvs : List (PyData × PyData)} (D : DctAt X.K Hs H a kvs) : s.TypeIs (.ref a) "dict" := by
  obtain ⟨o, h1, h2, _⟩ := dct_obj I D
  exact ⟨o, h1, h2.1⟩
end
theorem room_n {A : Around} (hu : A.units + 64 < cLine) {P : Program} {w : World} : (nestedKind P w).room A.in1 := by
  show A.in1.units + 8 < cLine
  simp only [Around.in1_units]; omega
/-! ### in, [], len, truth -/
section
variable {X : Cx}
def rInDct (K : Frag) (neg : Bool) : R2 := fun x y H Q => ∃ Hs dk kvs a, Same Hs H ∧ RD K Hs x dk ∧ y = .ref a ∧ DctAt K Hs H a kvs ∧ dOK kvs dk = true ∧ Q (.bl (xor neg (dGet kvs dk).isSome)) H
theorem op_inDct (hu : X.A.units + 64 < cLine) : OpR X (compareOp .In) (rInDct X.K false) := by
  intro pins s σ H x y v u Q I rx ry ⟨Hs, dk, kvs, a, sb, rk, ey, D, ok, q⟩
  subst ey
  cases (show u = Value.ref a from ry)
  rw [Bool.false_xor] at q
  rcases dct_case I sb D rk rx ok with ⟨ks, k, h, r, e1, e2⟩ | ⟨b, k, xs, us, e1, e2, e3, e4, is, hd, dd, u1, r, hz⟩
  · subst e2
    refine d_in (by omega) I (.inl ⟨ks, k, h, e1, rfl⟩) rx fun s' I' => ⟨.bl _, H, I', rfl, ?_⟩
    rw [(r.get k).isSome]; exact q
  · subst e2
    refine wpAny_in_heap (room_n hu) is hd dd ?_
    have e : (atKey us k).isSome = (dGet kvs dk).isSome := by rw [← (r.get e3).isSome, (u1.val k).isSome_eq, Option.isSome_map]
    rw [e]
    exact ⟨.bl _, H, I.tok _, rfl, q⟩
theorem op_notInDct (hu : X.A.units + 64 < cLine) : OpR X (compareOp .NotIn) (rInDct X.K true) := by
  intro pins s σ H x y v u Q I rx ry ⟨Hs, dk, kvs, a, sb, rk, ey, D, ok, q⟩
  subst ey
  cases (show u = Value.ref a from ry)
  rw [Bool.true_xor] at q
  rcases dct_case I sb D rk rx ok with ⟨ks, k, h, r, e1, e2⟩ | ⟨b, k, xs, us, e1, e2, e3, e4, is, hd, dd, u1, r, hz⟩
  · subst e2
    refine d_notIn (by omega) I (.inl ⟨ks, k, h, e1, rfl⟩) rx fun s' I' => ⟨.bl _, H, I', rfl, ?_⟩
    rw [(r.get k).isSome]; exact q
  · subst e2
    refine wpAny_notIn_heap (room_n hu) is hd dd ?_
    have e : (atKey us k).isSome = (dGet kvs dk).isSome := by rw [← (r.get e3).isSome, (u1.val k).isSome_eq, Option.isSome_map]
    rw [e]
    exact ⟨.bl _, H, I.tok _, rfl, q⟩
def gIn2 (k : PyData) : PyData → Option PyData
  | .dict kvs => if dOK kvs k = true then some (.bool (dGet kvs k).isSome) else none
  | d => gIn k d
def gNotIn2 (k : PyData) : PyData → Option PyData
  | .dict kvs => if dOK kvs k = true then some (.bool (!(dGet kvs k).isSome)) else none
  | d => gNotIn k d
theorem dOK_rd {K : Frag} {Hs H : Hp} {v : V} {kvs : List (PyData × PyData)} {d : PyData} (ok : dOK kvs d = true) (h : RX K Hs H v d) : RD K Hs v d := by
  cases d <;> first | exact h | (simp [dOK, isKk, isKn] at ok; done)
def rIn2 (K : Frag) : R2 := fun x y H Q => rInA K x y H Q ∨ rInDct K false x y H Q
def rNotIn2 (K : Frag) : R2 := fun x y H Q => rNotInA K x y H Q ∨ rInDct K true x y H Q
theorem op_in2 (hu : X.A.units + 65 < cLine) : OpR X (compareOp .In) (rIn2 X.K) := (op_inA hu).or (op_inDct (by omega))
theorem op_notIn2 (hu : X.A.units + 65 < cLine) : OpR X (compareOp .NotIn) (rNotIn2 X.K) := (op_notInA hu).or (op_notInDct (by omega))
theorem RX.dct {K : Frag} {Hs H : Hp} {v : V} {kvs : List (PyData × PyData)} (h : RX K Hs H v (.dict kvs)) : ∃ a, v = .ref a ∧ DctAt K Hs H a kvs := h
theorem v2_in2 {K : Frag} : V2 K (rIn2 K) gIn2 := fun H x y a b d Q e h => by
  cases b with
  | dict kvs =>
    simp only [gIn2] at e
    split at e
    · rename_i c
      cases e
      have q := endI h fun _ => RD.bl (dGet kvs a).isSome
      obtain ⟨O, _, ⟨h1, h2⟩, _⟩ := h
      obtain ⟨p, rfl, D⟩ := h2.dct
      exact .inr ⟨_, a, kvs, p, hid_sub, dOK_rd c h1, rfl, D, c, by rw [Bool.false_xor]; exact q⟩
    · cases e
  | _ =>
    refine .inl (v2_in H x y a _ d Q ?_ h)
    exact e
theorem v2_notIn2 {K : Frag} : V2 K (rNotIn2 K) gNotIn2 := fun H x y a b d Q e h => by
  cases b with
  | dict kvs =>
    simp only [gNotIn2] at e
    split at e
    · rename_i c
      cases e
      have q := endI h fun _ => RD.bl (!(dGet kvs a).isSome)
      obtain ⟨O, _, ⟨h1, h2⟩, _⟩ := h
      obtain ⟨p, rfl, D⟩ := h2.dct
      exact .inr ⟨_, a, kvs, p, hid_sub, dOK_rd c h1, rfl, D, c, by rw [Bool.true_xor]; exact q⟩
    · cases e
  | _ =>
    refine .inl (v2_notIn H x y a _ d Q ?_ h)
    exact e
end
section
variable {X : Cx}
def rIxDct (K : Frag) : R2 := fun x y H Q => ∃ Hs dk kvs d a, Same Hs H ∧ RD K Hs y dk ∧ x = .ref a ∧ DctAt K Hs H a kvs ∧ dOK kvs dk = true ∧ dGet kvs dk = some d ∧ ∀ v, RD K Hs v d → Q v H
theorem ix_dct (hu : X.A.units + 64 < cLine) : IxR X (rIxDct X.K) := by
  intro value slice pins s σ H x y v u Q I rx ry ⟨Hs, dk, kvs, d, a, sb, rk, ex, D, ok, eg, q⟩ hs
  subst ex
  cases (show v = Value.ref a from rx)
  have ht := dct_type I D
  rcases dct_case I sb D rk ry ok with ⟨ks, k, h, r, e1, e2⟩ | ⟨b, k, xs, us, e1, e2, e3, e4, is, hd, dd, u1, r, hz⟩
  · subst e2
    obtain ⟨w', hw, rw'⟩ := RO.get (by rw [← eg]; exact r.get k)
    obtain ⟨_, _, vs, rel, dd⟩ := dk_rd I.hok h
    obtain ⟨w2, hw2, rw2⟩ := RelO.some_of (v := w') (o := valueAt vs k) (by rw [← hw]; exact rel.val k)
    subst e1
    exact subscriptTail_builtinR (x := w2) ht PySem.F.slot_dict_getitem.lookup (wpAny_getItem_of (kV_is ry) dd.mapOf hw2 ⟨rfl, w', H, I.tok _, rw2, q w' rw'⟩) hs
  · subst e2
    obtain ⟨w', hw, rw'⟩ := RO.get (by rw [← eg]; exact r.get e3)
    obtain ⟨w2, hw2, rw2⟩ := RelO.some_of (v := w') (o := (atKey us k).map (·.2)) (by rw [← hw]; exact u1.val k)
    obtain ⟨p, hp, hp2⟩ := Option.map_eq_some_iff.mp hw2
    subst hp2
    exact subscriptTail_builtinR (x := p.2) ht PySem.F.slot_dict_getitem.lookup (wpAny_getItem_heap (room_n hu) is dd hp ⟨rfl, w', H, I.tok _, rw2, q w' rw'⟩) hs
def gIx2 : PyData → PyData → Option PyData
  | .dict kvs, k => if dOK kvs k = true then dGet kvs k else none
  | d, k => gIx d k
def rIx2 (K : Frag) : R2 := fun x y H Q => rIx K x y H Q ∨ rIxDct K x y H Q
theorem ix_all (hu : X.A.units + 64 < cLine) : IxR X (rIx2 X.K) := ix_seq.or (ix_dct hu)
theorem v2_ix2 {K : Frag} : V2 K (rIx2 K) gIx2 := fun H x y a b d Q e h => by
  cases a with
  | dict kvs =>
    simp only [gIx2] at e
    split at e
    · rename_i c
      obtain ⟨O, _, ⟨h1, h2⟩, q⟩ := h
      obtain ⟨p, rfl, D⟩ := h1.dct
      exact .inr ⟨_, b, kvs, d, p, hid_sub, dOK_rd c h2, rfl, D, c, e, fun v rv => q v H (fun _ _ e => e) rv⟩
    · cases e
  | _ =>
    refine .inl (v2_ix H x y _ b d Q ?_ h)
    exact e
/-! len -/
def rLenDct (K : Frag) : List V → Hp → VK → Prop := fun xs H Q => ∃ Hs kvs a, Same Hs H ∧ xs = [.ref a] ∧ DctAt K Hs H a kvs ∧ Q (.int kvs.length) H
theorem call_lenDct : CallR X (.builtin "len") (rLenDct X.K) := by
  intro pins s σ H xs us Q I r ⟨Hs, kvs, a, sb, ex, D, q⟩
  subst ex
  obtain ⟨u, rfl, rx⟩ := vals1 r
  cases (show u = Value.ref a from rx)
  rcases D with ⟨ks, h, r⟩ | ⟨o, xs, h, n, r⟩
  · refine d_len I h fun t s' I' => ⟨.int kvs.length, H, I', ⟨t, by rw [r.len]⟩, q⟩
  · obtain ⟨h2, h3, us, es, ep, u1, _, _, _, _, dd⟩ := dn_at I sb h r
    have hl : kvs.length = us.length := by rw [← r.len]; exact Paired.length u1
    have hz : us.length ≤ sizeLine := by rw [← hl, ← r.len]; exact h3
    refine call_len_dictH h2 dd (by rw [sizeLine_eq] at hz; omega) ?_
    rw [← hl]
    exact ⟨.int kvs.length, H, I.tok _, ⟨_, rfl⟩, q⟩
def gLen2 : PyData → Option PyData
  | .dict kvs => some (.int kvs.length)
  | d => gLen d
theorem call_len2 : CallR X (.builtin "len") (fun xs H Q => rLenA X.K xs H Q ∨ rLenDct X.K xs H Q) := call_lenA.or call_lenDct
theorem v1_len2 {K : Frag} : V1 K (fun v H Q => rLenA K [v] H Q ∨ rLenDct K [v] H Q) gLen2 := fun H x a d Q e h => by
  cases a with
  | dict kvs =>
    have e : some (PyData.int kvs.length) = some d := e
    cases e
    have q := endI h fun _ => RD.int kvs.length
    obtain ⟨O, _, h1, _⟩ := h
    obtain ⟨p, rfl, D⟩ := h1.dct
    exact .inr ⟨_, kvs, p, hid_sub, rfl, D, q⟩
  | _ =>
    refine .inl (v1_len H x _ d Q ?_ h)
    exact e
/-! list(d): the keys -/
def dKeys (kvs : List (PyData × PyData)) : List PyData := kvs.map (·.1)
theorem RDk.keys {K : Frag} {H : Hp} : ∀ {ks : List (Key × V)} {kvs : List (PyData × PyData)}, RDk K H ks kvs → RDs K H (ks.map fun p => kV p.1) (dKeys kvs)
  | _, _, .nil => .nil
  | _, _, @RDk.cons _ _ k _ _ _ _ _ t => .cons (by cases k; exact .int _; exact .str _) (RDk.keys t)
theorem RDn.keys {K : Frag} {H : Hp} : ∀ {xs : List (NestedKey × Addr × V)} {kvs : List (PyData × PyData)}, RDn K H xs kvs → RDs K H (xs.map fun p => V.ref p.2.1) (dKeys kvs)
  | _, _, .nil => .nil
  | _, _, .cons h1 _ _ _ t => .cons h1 (RDn.keys t)
theorem US.refs : ∀ {xs : List (NestedKey × Addr × V)} {us : List (NestedKey × Addr × Value)}, US xs us → Vals (xs.map fun p => V.ref p.2.1) (us.map fun p => Value.ref p.2.1)
  | _, _, .nil => .nil
  | p :: xs, q :: us, .cons h t => by
    rw [List.map_cons, List.map_cons]
    exact .cons (show Value.ref q.2.1 = Value.ref p.2.1 by rw [h.2.1]) (US.refs t)
theorem pairs_keys {P : Program} {w : World} {es : List DictEntry} {vs : List (Key × Value)} (h : Pairs (mixKind P w) es vs) : ∀ {ks : List (Key × V)}, KV ks vs → Vals (ks.map fun p => kV p.1) (es.map (·.key)) := by
  induction h with
  | nil => intro ks g; cases g; exact .nil
  | @cons e v es vs h hv t ih =>
    intro ks g
    cases g with
    | @cons k _ ks _ g1 g2 =>
      rw [List.map_cons, List.map_cons]
      refine .cons ?_ (ih g2)
      have h1 : keyIs v.1 e.key = true := h
      rw [← g1.1] at h1
      exact relV_key h1
/-- the dict's own object, its entries' keys -/
theorem dct_keys {pins : List (Addr × Obj)} {σ : L2.St} {H Hs : Hp} {s : Shared} {a : Addr} (I : Inv X pins σ H s) (sb : Same Hs H) {kvs : List (PyData × PyData)} (D : DctAt X.K Hs H a kvs) :
    ∃ (o : Obj) (es : Array DictEntry) (ep : Nat) (ys : List V), s.heap.get? a = some o ∧ o.ExactDict ∧ (a == sysModules) = false ∧ o.data = .dict es ep ∧ Vals ys (es.toList.map (·.key)) ∧ RDs X.K Hs ys (dKeys kvs) ∧ kvs.length ≤ sizeLine := by
  rcases D with ⟨ks, h, r⟩ | ⟨o, xs, h, n, r⟩
  · obtain ⟨z, hd, vs, rel, o, es, ep, ho, hx, hdt, _, hp, _⟩ := dk_rd I.hok h
    exact ⟨o, es, ep, _, ho, hx, hd, hdt, pairs_keys hp rel, r.keys, by rw [← r.len]; exact z⟩
  · obtain ⟨h2, h3, us, es, ep, u1, ho, hx, hdt, he, dd⟩ := dn_at I sb h r
    refine ⟨o, es, ep, _, ho, hx, h2, hdt, ?_, r.keys, by rw [← r.len]; exact h3⟩
    rw [he, List.map_map]
    exact u1.refs
theorem items_keys {es : Array DictEntry} {acc : Array Value} (h : ItemsOf (fun i v => ∃ en : DictEntry, es[i]? = some en ∧ v = en.key) acc es.size) : acc.toList = es.toList.map (·.key) := by
  apply List.ext_getElem?
  intro j
  rw [List.getElem?_map, Array.getElem?_toList, Array.getElem?_toList]
  cases hj : acc[j]? with
  | none =>
    have h1 := Array.getElem?_eq_none_iff.mp hj
    rw [h.1] at h1
    rw [Array.getElem?_eq_none h1]; rfl
  | some v =>
    obtain ⟨en, hen, hv⟩ := h.2 j v hj
    rw [hen, hv]; rfl
def rListDct (K : Frag) : List V → Hp → VK → Prop := fun xs H Q => ∃ Hs kvs a, Same Hs H ∧ xs = [.ref a] ∧ DctAt K Hs H a kvs ∧ ∀ p vs, H p = none → RDs K Hs vs (dKeys kvs) → Q (.ref p) (upd H p (.lst vs))
theorem call_listDct (hc : X.calm = true) : CallR X (.type "list") (rListDct X.K) := by
  intro pins s σ H xs us Q I r ⟨Hs, kvs, a, sb, ex, D, q⟩
  subst ex
  obtain ⟨u, rfl, rx⟩ := vals1 r
  cases (show u = Value.ref a from rx)
  obtain ⟨o, es, ep, ys, ho, hx, hd, hdt, rv, rd, hz⟩ := dct_keys I sb D
  have hl : es.size = kvs.length := by
    have h1 := rv.length
    have h2 := rd.len
    unfold dKeys at h2
    have h3 : es.toList.length = es.size := Array.length_toList
    rw [List.length_map] at h1 h2
    omega
  refine PySem.W.kdl_call (kdl_raw hd hx hdt) (I.ok.hd hc) ho (by omega) fun h' tk acc' c' kp e it => ?_
  have ea := items_keys it
  rw [← ea] at rv
  have hys : ys.length ≤ sizeLine := by rw [rd.len]; unfold dKeys; rw [List.length_map]; exact hz
  refine ⟨.ref s.heap.objs.size, _, I.laid (t' := tk) (o := .lst ys) kp (Nat.le_refl _) ?_, rfl, q _ _ (I.hok.fresh (Nat.le_refl _)) rd⟩
  exact ⟨hys, acc'.toList, c', rv, by rw [Array.toArray_toList]; exact e⟩
def gList2 : PyData → Option (List PyData)
  | .dict kvs => some (dKeys kvs)
  | d => gList d
def rList2 (K : Frag) : List V → Hp → VK → Prop := fun xs H Q => (∃ p ys, xs = [V.ref p] ∧ (SqL K H p ys ∨ SqT K H p ys) ∧ ∀ l, H l = none → Q (.ref l) (upd H l (.lst ys))) ∨ rListDct K xs H Q
theorem call_list2 (hc : X.calm = true) : CallR X (.type "list") (rList2 X.K) := call_list_of.or (call_listDct hc)
theorem w1_list2 {K : Frag} : W1 K (fun v => rList2 K [v]) gList2 := fun H x a d Q e h => by
  cases a with
  | dict kvs =>
    have e : some (dKeys kvs) = some d := e
    cases e
    obtain ⟨O, hO, h1, q⟩ := h
    obtain ⟨p, rfl, D⟩ := h1.dct
    exact .inr ⟨_, kvs, p, hid_sub, rfl, D, fun t vs ht rv => q t vs ht rv⟩
  | _ =>
    refine .inl (w1_list H x _ d Q ?_ h)
    exact e
end
/-! ### sorted(xs) of data that are alike -/
def neTup : PyData → Bool
  | .tuple (_ :: _) => true
  | _ => false
def notTup : PyData → Bool
  | .none => false
  | .tuple _ => false
  | _ => true
def sOK (ds : List PyData) : Bool := (ds.all fun d => ds.all fun e => PySem.W.alike d e) && (ds.all neTup || ds.all notTup) && ds.all okE && decide (ds.length ≤ LIM)
/-! a merge sort that runs by its fuel -/
def mgF {α : Type} (le : α → α → Bool) : Nat → List α → List α → List α
  | 0, xs, ys => xs ++ ys
  | _ + 1, [], ys => ys
  | _ + 1, x :: xs, [] => x :: xs
  | k + 1, x :: xs, y :: ys => if le x y = true then x :: mgF le k xs (y :: ys) else y :: mgF le k (x :: xs) ys
theorem mgF_eq {α : Type} (le : α → α → Bool) : ∀ (k : Nat) (xs ys : List α), xs.length + ys.length ≤ k → mgF le k xs ys = xs.merge ys le
  | 0, [], [], _ => by simp [mgF]
  | 0, _ :: _, _, h => by simp at h
  | 0, [], _ :: _, h => by simp at h
  | k + 1, [], ys, _ => by simp [mgF]
  | k + 1, x :: xs, [], _ => by simp [mgF]
  | k + 1, x :: xs, y :: ys, h => by
    simp only [List.length_cons] at h
    rw [mgF, List.cons_merge_cons]
    split
    · rw [mgF_eq le k xs (y :: ys) (by simp only [List.length_cons]; omega)]
    · rw [mgF_eq le k (x :: xs) ys (by simp only [List.length_cons]; omega)]
def msF {α : Type} (le : α → α → Bool) : Nat → List α → List α
  | 0, xs => xs
  | _ + 1, [] => []
  | _ + 1, [a] => [a]
  | k + 1, a :: b :: xs => mgF le (xs.length + 2) (msF le k ((a :: b :: xs).take ((xs.length + 3) / 2))) (msF le k ((a :: b :: xs).drop ((xs.length + 3) / 2)))
theorem msF_eq {α : Type} (le : α → α → Bool) : ∀ (k : Nat) (xs : List α), xs.length ≤ k → msF le k xs = xs.mergeSort le
  | 0, [], _ => by simp [msF]
  | 0, _ :: _, h => by simp at h
  | k + 1, [], _ => by simp [msF]
  | k + 1, [a], _ => by simp [msF]
  | k + 1, a :: b :: xs, h => by
    simp only [List.length_cons] at h
    have l1 : ((a :: b :: xs).take ((xs.length + 3) / 2)).length ≤ k := by rw [List.length_take]; simp only [List.length_cons]; omega
    have l2 : ((a :: b :: xs).drop ((xs.length + 3) / 2)).length ≤ k := by rw [List.length_drop]; simp only [List.length_cons]; omega
    rw [msF, msF_eq le k _ l1, msF_eq le k _ l2, mgF_eq]
    · rw [List.mergeSort]
      simp [List.MergeSort.Internal.splitInTwo_fst, List.MergeSort.Internal.splitInTwo_snd]
    · rw [List.length_mergeSort, List.length_mergeSort, List.length_take, List.length_drop]
      simp only [List.length_cons]; omega
def sortD (ds : List PyData) : List PyData := msF (PySem.W.dataLe false id) ds.length ds
theorem sortD_ms (ds : List PyData) : sortD ds = ds.mergeSort (PySem.W.dataLe false id) := msF_eq _ _ _ (Nat.le_refl _)
theorem sOK_ok {ds : List PyData} (h : sOK ds = true) : PySem.W.AllAlike ds ∧ PySem.W.Sortable ds ∧ (∀ d ∈ ds, okE d = true) ∧ ds.length ≤ LIM := by
  unfold sOK at h
  simp only [Bool.and_eq_true, Bool.or_eq_true, List.all_eq_true, decide_eq_true_eq] at h
  obtain ⟨⟨⟨h1, h2⟩, h3⟩, h4⟩ := h
  refine ⟨fun d hd e he => h1 d hd e he, ?_, h3, h4⟩
  rcases h2 with h2 | h2
  · refine .inl fun d hd => ?_
    have z := h2 d hd
    unfold neTup at z
    split at z
    · exact ⟨_, _, rfl⟩
    · cases z
  · refine .inr fun d hd => ?_
    have z := h2 d hd
    unfold notTup at z
    split at z
    · cases z
    · cases z
    · rename_i n1 n2
      exact ⟨fun e => n1 e, fun xs e => n2 xs e⟩
abbrev RVD (K : Frag) (Hs : Hp) (u : Value) (d : PyData) : Prop := ∃ v, RelV v u ∧ RD K Hs v d
theorem rvd_of {K : Frag} {Hs : Hp} : ∀ {vs : List V} {us : List Value} {ds : List PyData}, Vals vs us → RDs K Hs vs ds → PySem.W.EachIs (RVD K Hs) us ds
  | _, _, _, .nil, .nil => .nil
  | _, _, _, .cons r t, .cons h t2 => .cons ⟨_, r, h⟩ (rvd_of t t2)
theorem of_rvd {K : Frag} {Hs : Hp} : ∀ {us : List Value} {ds : List PyData}, PySem.W.EachIs (RVD K Hs) us ds → ∃ vs, Vals vs us ∧ RDs K Hs vs ds
  | _, _, .nil => ⟨[], .nil, .nil⟩
  | _, _, .cons ⟨v, r, h⟩ t => by
    obtain ⟨vs, a, b⟩ := of_rvd t
    exact ⟨v :: vs, .cons r a, .cons h b⟩
section
variable {X : Cx}
theorem rvd_reads {pins : List (Addr × Obj)} {σ : L2.St} {H Hs : Hp} {s : Shared} (I : Inv X pins σ H s) (sb : Same Hs H) : ∀ {us : List Value} {ds : List PyData}, (∀ d ∈ ds, okE d = true) → PySem.W.EachIs (RVD X.K Hs) us ds → PySem.W.EachIs (fun v b => ∃ as, Reads s.heap v (id b) as) us ds
  | _, _, _, .nil => .nil
  | _, _, h, .cons ⟨v, r, hd⟩ t => .cons (Dp.reads I _ v _ (RD.dp _ v (okD_ok _ _ (h _ (by simp))).1 (RD.up hd sb)) r) (rvd_reads I sb (fun d hd => h d (by simp [hd])) t)
def rSortD (K : Frag) : List V → Hp → VK → Prop := fun xs H Q => ∃ Hs p vs ds, Same Hs H ∧ xs = [.ref p] ∧ Lp K H p vs ∧ RDs K Hs vs ds ∧ sOK ds = true ∧ ∀ q ws, H q = none → RDs K Hs ws (sortD ds) → Q (.ref q) (upd H q (.lst ws))
theorem cr_sortD (hu : X.A.units + 64 < cLine) : CallR X (.builtin "sorted") (rSortD X.K) := by
  intro pins s σ H xs us Q I r ⟨Hs, p, vs, ds, sb, ex, hp, rd, ok, q⟩
  subst ex
  obtain ⟨u, rfl, rx⟩ := vals1 r
  cases (show u = Value.ref p from rx)
  obtain ⟨its, rv, pl, hz⟩ := I.list hp.sq
  obtain ⟨o1, o2, o3, o4⟩ := sOK_ok ok
  have e := rvd_of rv rd
  have em : ds.map id = ds := List.map_id _
  refine PySem.W.sorted_data (enc := id) pl.isList e (rvd_reads I sb o3 e) (by rw [em]; exact o1) (by rw [em]; exact o2) (lim_line o4) (fun b hb => ?_) fun out ho eo => ?_
  · have := (okD_ok _ _ (o3 b hb)).2
    show X.A.units + 2 + b.depth < cLine
    omega
  · obtain ⟨ws, w1, w2⟩ := of_rvd eo
    obtain ⟨c, hc⟩ := sortedAll_at s.heap its out.toArray
    have hlen : ws.length ≤ sizeLine := by rw [w1.length, ho]; exact lim_line o4
    have hn : H (s.heap.objs.size + 1) = none := I.hok.fresh (Nat.le_succ _)
    exact ⟨.ref (s.heap.objs.size + 1), _, I.laid (t' := s.toks) (o := .lst ws) (fun b o e => sortedAll_old e) (Nat.le_succ _) ⟨hlen, out, c, w1, hc⟩, rfl, q _ _ hn (by rw [sortD_ms]; exact w2)⟩
def gSort2 : PyData → Option (List PyData)
  | .list ds => match intsOf ds with
    | some ns => some ((sortI ns).map .int)
    | none => if sOK ds = true then some (sortD ds) else none
  | _ => none
def rSort2 (K : Frag) : List V → Hp → VK → Prop := fun xs H Q => rSortedI K xs H Q ∨ rSortD K xs H Q
theorem cr_sort2 (hu : X.A.units + 64 < cLine) : CallR X (.builtin "sorted") (rSort2 X.K) := cr_sortedI.or (cr_sortD hu)
theorem w1_sort2 {K : Frag} : W1 K (fun v => rSort2 K [v]) gSort2 := fun H x a d Q e h => by
  cases a with
  | list ds =>
    simp only [gSort2] at e
    split at e
    · rename_i ns e1
      refine .inl (w1_sortI H x (.list ds) d Q ?_ h)
      show (intsOf ds).map _ = some d
      rw [e1]; exact e
    · split at e
      · rename_i c
        cases e
        obtain ⟨O, hO, h1, q⟩ := h
        obtain ⟨p, vs, rfl, g1, g2⟩ := h1
        exact .inr ⟨_, p, vs, ds, hid_sub, rfl, g1, g2, c, fun t ws ht rw' => q t ws ht rw'⟩
      · cases e
  | _ => cases e
end
end Pv

namespace Pv
open PySem PySem.Spec PyProof.Rows L2
/-! ### dicts written -/
theorem rd_own {H : Hp} {a : Addr} {u : HO} (h : Rd H a u) (m : Mut (H a)) : H a = some u := by
  rcases h with h | ⟨o, h⟩
  · exact h
  · rw [h] at m; exact m.elim
section
variable {X : Cx} {pins : List (Addr × Obj)} {σ : L2.St} {H Hs : Hp} {s : Shared} {a : Addr}
theorem dn_of (I : Inv X pins σ H s) (sb : Same Hs H) {h' : Heap} {us : List (NestedKey × Addr × Value)} {xs : List (NestedKey × Addr × V)} {kvs : List (PyData × PyData)} (r : RDn X.K Hs xs kvs) (u : US xs us) (hd : (a == sysModules) = false) (hz : xs.length ≤ sizeLine)
    (dd : h'.DictOfH (nestedKind X.prog X.w) a us) : ∃ o, DNok a o xs h' ∧ h'.get? a = some o := by
  obtain ⟨o, es, ep, ho, hx, hdt, he, _, hn⟩ := dd
  exact ⟨o, ⟨ho, hd, hz, us, es, ep, u, hx, hdt, by rw [he, (us_is I sb r u).2], hn⟩, ho⟩
theorem d_put {A : Around} {E : Value → Shared → Prop} {Q : Unit → Shared → Prop} (hu : A.units + 64 < cLine) (I : Inv X pins σ H s) (sb : Same Hs H) {kvs : List (PyData × PyData)} (D : OwnD X.K Hs H a kvs) {y v : V} {u w' : Value} {dk d : PyData} (rk : RD X.K Hs y dk) (ry : RelV y u)
    (ok : dOK kvs dk = true) (rd : RD X.K Hs v d) (rv : RelV v w') (hl : kvs.length < LIM) (h : ∀ s' ob, OwnD X.K Hs (upd H a ob) a (dPut kvs dk d) → Inv X pins σ (upd H a ob) s' → Q () s') : wpAny (model X.prog X.w) A (setItem (.ref a) u w') Q E s := by
  have mu := D.mut
  rcases dct_case I sb D.at rk ry ok with ⟨ks, k, hk, r, e1, e2⟩ | ⟨b, k, xs, us, e1, e2, e3, e4, is, hd, dd, u1, r, hz⟩
  · subst e2
    have e := rd_own hk mu
    exact d_setItem (by omega) I (.inl ⟨ks, k, e, e1, by rw [r.len]; exact lim_lt (Nat.le_of_lt hl), rfl⟩) ry rv fun s' I' => h s' _ (.inl ⟨_, upd_same, r.put k rd⟩) I'
  · subst e1 e2
    have hus : us.length ≤ sizeLine := by rw [← Paired.length u1]; exact hz
    refine wpAny_setItem_heap (hsz := hus) (room_n hu) is dd fun h' dd' hs => ?_
    have r' := r.put e3 e4 rk rd
    have hz' : (putX xs k b v).length ≤ sizeLine := by
      rw [r'.len]
      have := dPut_len kvs dk d
      exact lim_line (by omega)
    obtain ⟨o, ok', ho⟩ := dn_of I sb r' (u1.put k b rv) hd hz' dd'
    exact h _ (DN a o (putX xs k b v)) (.inr ⟨o, _, upd_same, dPut_ne _ _ _, r'⟩) (d_write I mu hs ⟨o, ho⟩ (dn_new ok'))
end
/-- a name's dict -/
theorem Rel.dct {K : Frag} {Z : Zt} {L : Nat → List Addr} {σ : L2.St} {H : Hp} {st : Sx} {j : Nat} {b : Bool} {kvs : List (PyData × PyData)} {v : V} (I : Rel K Z L [] σ H st) (hm : st[j]? = some (some (.od b kvs))) (hv : σ[j]? = some (some v)) :
    ∃ p, v = .ref p ∧ OwnD K (hid H (Hid Z L [])) H p kvs ∧ Hid Z L [] p ∧ ∀ ob kvs', OwnD K (hid H (Hid Z L [])) (upd H p ob) p kvs' → Rel K Z L [] σ (upd H p ob) (st.set j (some (.od b kvs'))) ∧ Step (Own L []) H (Own L []) (upd H p ob) := by
  obtain ⟨v', h1, p, h2, h3, h4⟩ := I.slot j _ hm
  have ev : v' = v := by rw [h1] at hv; cases hv; rfl
  subst ev
  have hp : Hid Z L [] p := .inr (.inl ⟨j, by rw [h3]; simp⟩)
  refine ⟨p, h2, h4, hp, fun ob kvs' r => ?_⟩
  have k : ∀ c o, c ∉ L j → H c = some o → (upd H p ob) c = some o := fun c o n e => by
    rw [upd_ne (fun z => n (by rw [z, h3]; simp))]; exact e
  refine ⟨I.change hm h1 k ⟨p, h2, h3, ?_⟩ rfl, Step.change k⟩
  rcases r with ⟨ks, e, r⟩ | ⟨o, xs, e, n, r⟩
  · exact .inl ⟨ks, e, r.up (hid_keep hp)⟩
  · exact .inr ⟨o, xs, e, n, r.up (hid_keep hp)⟩
/-! ### {} -/
def oD0 : FO := fun st => some (.od false [], st)
theorem k_d0 {X : Cx} {pos : Pos} : PE X (.Dict [] [] pos) (TOv X.K oD0) :=
  pe_dnewK.wk fun σ H Q ⟨Z, L, st, m, st', I, e, q⟩ => by
    cases e
    intro p hp
    exact q (.ref p) _ L [p] (I.fresh hp) (.fresh hp) ⟨p, rfl, rfl, .inl ⟨[], upd_same, .nil⟩⟩
/-! ### d[k] = v -/
def sDPut (j : Nat) (fk fv : FE) : FS := fun st => (fv st).bind fun p => (share p.2 p.1).bind fun q => match q.2[j]? with
  | some (some (.od _ _)) => (fk q.2).bind fun r => (share r.2 r.1).bind fun t => match t.2[j]? with
    | some (some (.od b kvs)) => if dOK kvs t.1 = true ∧ kvs.length < LIM then some (.next, t.2.set j (some (.od b (dPut kvs t.1 q.1)))) else none
    | _ => none
  | _ => none
section
variable {X : Cx} {o i value : Expr} {pos pos' : Pos} {td ty tv : TE}
theorem ps_dputV (ho : PE X o td) (hi : PE X i ty) (hv : PE X value tv) (hs : swapsWith value (some (.Subscript o i pos')) pos.line X.env = pure false) (r : V → V → V → Hp → (Hp → Prop) → Prop)
    (hr : ∀ (pins : List (Addr × Obj)) (s : Shared) (σ : L2.St) (H : Hp) (x y v : V) (x' y' v' : Value) (Q : Hp → Prop), Inv X pins σ H s → RelV x x' → RelV y y' → RelV v v' → r x y v H Q → wpAny (model X.prog X.w) X.A (setItem x' y' v') (fun _ s' => ∃ H', Inv X pins σ H' s' ∧ Q H') X.xe s) :
    PS X (.Assign [.Subscript o i pos'] value pos) (fun D σ H => tv σ H fun v H1 => td σ H1 fun x H2 => ty σ H2 fun y H3 => r x y v H3 fun H4 => D.nx σ H4) := by
  refine ⟨fun pins s σ H D I h => ?_⟩
  refine wpAny_Assign_Subscript (thn (hv.run pins s σ H _ I h) fun r s1 ⟨v, H1, I1, rv, q1⟩ => thn (ho.run pins s1 σ H1 _ I1 q1) fun u s2 ⟨x, H2, I2, rx, q2⟩ => thn (hi.run pins s2 σ H2 _ I2 q2) fun iv s3 ⟨y, H3, I3, ry, q3⟩ => ?_) hs
  exact thn (hr pins s3 σ H3 x y v _ _ _ _ I3 rx ry rv q3) fun _ s4 ⟨H4, I4, q4⟩ => ⟨σ, H4, I4, q4⟩
end
def rDPut (K : Frag) : V → V → V → Hp → (Hp → Prop) → Prop := fun x y v H Q => ∃ Hs kvs dk d a, Same Hs H ∧ x = .ref a ∧ OwnD K Hs H a kvs ∧ RD K Hs y dk ∧ RD K Hs v d ∧ dOK kvs dk = true ∧ kvs.length < LIM ∧ ∀ ob, OwnD K Hs (upd H a ob) a (dPut kvs dk d) → Q (upd H a ob)
section
variable {X : Cx} {j : Nat} {x : Str} {pp pos pos' : Pos} {i value : Expr} {fk fv : FE}
theorem k_dput (hu : X.A.units + 64 < cLine) (hi : PE X i (TEv X.K fk)) (hv : PE X value (TEv X.K fv)) (hN : X.N[j]? = some x := by rfl) (hvis : Vis X.env.scope x := by first | exact Or.inl rfl | exact Or.inr (Or.inl rfl) | exact Or.inr (Or.inr rfl)) (hd : (x == ("__debug__" : Str)) = false := by decide) (hcd : (x == ("__classdict__" : Str)) = false := by decide)
    (hs : swapsWith value (some (.Subscript (.Name x pp) i pos')) pos.line X.env = pure false := by rfl) : PS X (.Assign [.Subscript (.Name x pp) i pos'] value pos) (TSv X.K (sDPut j fk fv)) :=
  (ps_dputV (pe_var hN hvis hd hcd) hi hv hs (rDPut X.K) (fun pins s σ H x y v x' y' v' Q I rx ry rv ⟨Hs, kvs, dk, d, a, sb, ex, D, rk, rd, ok, hl, q⟩ => by
    subst ex
    cases (show x' = Value.ref a from rx)
    exact d_put hu I sb D rk ry ok rd rv hl fun s' ob r I' => ⟨_, I', q ob r⟩)).wk fun D σ H ⟨Z, L, st, o, st', I, e, q⟩ => by
    unfold sDPut at e
    obtain ⟨⟨r, s1⟩, e1, e⟩ := Option.bind_eq_some_iff.mp e
    obtain ⟨⟨d, s2⟩, e2, e⟩ := Option.bind_eq_some_iff.mp e
    dsimp only at e
    split at e
    · rename_i b0 kv0 h0
      obtain ⟨⟨rk, s3⟩, e3, e⟩ := Option.bind_eq_some_iff.mp e
      obtain ⟨⟨dk, s4⟩, e4, e⟩ := Option.bind_eq_some_iff.mp e
      dsimp only at e
      split at e
      · rename_i b kvs hj
        split at e
        · rename_i c
          cases e
          refine ⟨Z, L, st, r, s1, I, e1, fun v H1 L1 I1 S1 rv => ?_⟩
          obtain ⟨L2, I2, S2, rd⟩ := I1.share rv e2
          obtain ⟨w, hw, _⟩ := I2.slot j _ h0
          refine ⟨w, hw, ⟨Z, L2, s2, rk, s3, I2, e3, fun y H3 L3 I3 S3 ry => ?_⟩⟩
          obtain ⟨L4, I4, S4, rdk⟩ := I3.share ry e4
          obtain ⟨p, e5, own, hp, put⟩ := I4.dct hj hw
          subst e5
          refine ⟨_, kvs, dk, d, p, hid_sub, rfl, own, rdk, rd.up (S3.trans S4).see, c.1, c.2, fun ob rr => ?_⟩
          obtain ⟨I5, S5⟩ := put ob _ rr
          exact q σ _ L4 I5 (S1.trans (S2.trans (S3.trans (S4.trans S5))))
        · cases e
      · cases e
    · cases e
end
end Pv

namespace Pv
open PySem PySem.Spec PyProof.Rows L2
/-! ### dict(pairs) -/
def gPairs : List PyData → Option (List (PyData × PyData))
  | [] => some []
  | .tuple [k, v] :: r => (gPairs r).map ((k, v) :: ·)
  | _ => none
def kindOK (ps : List (PyData × PyData)) : Bool := (ps.all fun p => isKk p.1) || (ps.all fun p => isKn p.1)
theorem gPairs_cons {d : PyData} {ds : List PyData} {ps : List (PyData × PyData)} (e : gPairs (d :: ds) = some ps) : ∃ k v r, d = .tuple [k, v] ∧ ps = (k, v) :: r ∧ gPairs ds = some r := by
  unfold gPairs at e
  split at e
  · rename_i h; cases h
  · rename_i k v r h
    cases h
    obtain ⟨r', e1, e2⟩ := Option.map_eq_some_iff.mp e
    exact ⟨k, v, r', rfl, e2.symm, e1⟩
  · cases e
abbrev VW : List (V × V) → List (Value × Value) → Prop := Paired fun p q => RelV p.1 q.1 ∧ RelV p.2 q.2
inductive RDp (K : Frag) (H : Hp) : List (V × V) → List (PyData × PyData) → Prop
  | nil : RDp K H [] []
  | cons {k v : V} {vs : List (V × V)} {dk d : PyData} {ds : List (PyData × PyData)} : RD K H k dk → RD K H v d → RDp K H vs ds → RDp K H ((k, v) :: vs) ((dk, d) :: ds)
theorem RDp.len {K : Frag} {H : Hp} : ∀ {vs : List (V × V)} {ds : List (PyData × PyData)}, RDp K H vs ds → vs.length = ds.length
  | _, _, .nil => rfl
  | _, _, .cons _ _ t => by rw [List.length_cons, List.length_cons, RDp.len t]
section
variable {X : Cx} {pins : List (Addr × Obj)} {σ : L2.St} {H Hs : Hp} {s : Shared}
theorem pairs_at (I : Inv X pins σ H s) (sb : Same Hs H) : ∀ {vs : List V} {its : List Value} {ds : List PyData} {ps : List (PyData × PyData)}, RDs X.K Hs vs ds → Vals vs its → gPairs ds = some ps →
    ∃ (ts : List Addr) (ws : List (Value × Value)) (kv : List (V × V)), its = ts.map Value.ref ∧ ws.length = ts.length ∧ (∀ (j : Nat) (T : Addr) (k v : Value), ts[j]? = some T → ws[j]? = some (k, v) → PairAt s.heap T k v) ∧ VW kv ws ∧ RDp X.K Hs kv ps
  | _, _, _, _, .nil, .nil, e => by
    unfold gPairs at e; cases e
    exact ⟨[], [], [], rfl, rfl, (fun j T k v h => by simp at h), .nil, .nil⟩
  | _, _, _, _, .cons h t, .cons r u, e => by
    obtain ⟨dk, dv, ps', rfl, rfl, e'⟩ := gPairs_cons e
    obtain ⟨ts, ws, kv, a1, a2, a3, a4, a5⟩ := pairs_at I sb t u e'
    cases h with
    | @tup T xs _ h1 h2 =>
      cases h2 with
      | @cons k _ _ _ g1 g2 =>
        cases g2 with
        | @cons v _ _ _ g3 g4 =>
          cases g4
          cases (show _ = Value.ref T from r)
          obtain ⟨its', rv, ⟨o, ho, hc, n, hd⟩, _⟩ := I.tuple (h1.up sb).sq
          cases rv with
          | @cons _ k' _ _ r1 r2 =>
            cases r2 with
            | @cons _ v' _ _ r3 r4 =>
              cases r4
              refine ⟨T :: ts, (k', v') :: ws, (k, v) :: kv, by rw [a1]; rfl, by rw [List.length_cons, List.length_cons, a2], fun j T' k2 v2 h1 h2 => ?_, .cons ⟨r1, r3⟩ a4, .cons g1 g3 a5⟩
              cases j with
              | zero =>
                simp at h1 h2
                obtain ⟨rfl, rfl⟩ := h2
                subst h1
                exact .inl ⟨o, ho, hc, n, hd⟩
              | succ j => exact a3 j T' k2 v2 (by simpa using h1) (by simpa using h2)
/-- by kind: ints and texts -/
theorem byK : ∀ {kv : List (V × V)} {ps : List (PyData × PyData)} {ws : List (Value × Value)}, RDp X.K Hs kv ps → VW kv ws → (∀ p ∈ ps, isKk p.1 = true) →
    ∃ (ks : List (Key × V)) (rs : List (Key × Value)), KV ks rs ∧ RDk X.K Hs ks ps ∧ rs.length = ws.length ∧ ∀ (i : Nat) (k v : Value), ws[i]? = some (k, v) → ∃ q, rs[i]? = some (q, v) ∧ (mixKind X.prog X.w).is q k = true
  | _, _, _, .nil, .nil, _ => ⟨[], [], .nil, .nil, rfl, fun i k v h => by simp at h⟩
  | _, _, q :: ws, @RDp.cons _ _ k v _ dk d _ h1 h2 h3, .cons r t, hk => by
    obtain ⟨ks, rs, b1, b2, b3, b4⟩ := byK h3 t fun p hp => hk p (by simp [hp])
    have z := hk (dk, d) (by simp)
    obtain ⟨k1, e1, e2⟩ : ∃ k1, k = kV k1 ∧ dk = keyD k1 := by
      cases dk <;> first | (cases z; done) | skip
      · cases h1; exact ⟨.inl _, rfl, rfl⟩
      · cases h1; exact ⟨.inr _, rfl, rfl⟩
    subst e1 e2
    refine ⟨(k1, v) :: ks, (k1, q.2) :: rs, .cons ⟨rfl, r.2⟩ b1, .cons h2 b2, by rw [List.length_cons, List.length_cons, b3], fun i k v h => ?_⟩
    cases i with
    | zero =>
      simp at h
      subst h
      exact ⟨k1, rfl, kV_is r.1⟩
    | succ i => exact b4 i k v (by simpa using h)
/-- .. tuples of ints -/
theorem byN (I : Inv X pins σ H s) (sb : Same Hs H) : ∀ {kv : List (V × V)} {ps : List (PyData × PyData)} {ws : List (Value × Value)}, RDp X.K Hs kv ps → VW kv ws → (∀ p ∈ ps, isKn p.1 = true) →
    ∃ (xs : List (NestedKey × Addr × V)) (us : List (NestedKey × Addr × Value)), US xs us ∧ RDn X.K Hs xs ps ∧ us.length = ws.length ∧ ∀ (i : Nat) (k v : Value), ws[i]? = some (k, v) → ∃ q b, us[i]? = some (q, b, v) ∧ k = .ref b
  | _, _, _, .nil, .nil, _ => ⟨[], [], .nil, .nil, rfl, fun i k v h => by simp at h⟩
  | _, _, q :: ws, @RDp.cons _ _ k v _ dk d _ h1 h2 h3, .cons r t, hk => by
    obtain ⟨xs, us, b1, b2, b3, b4⟩ := byN I sb h3 t fun p hp => hk p (by simp [hp])
    obtain ⟨n, e1, e2, ds, e3⟩ := isKn_iff (hk (dk, d) (by simp))
    obtain ⟨b, eb⟩ : ∃ b, k = .ref b := by subst e3; cases h1; exact ⟨_, rfl⟩
    subst eb
    have eq : q.1 = Value.ref b := r.1
    refine ⟨(n, b, v) :: xs, (n, b, q.2) :: us, .cons ⟨rfl, rfl, r.2⟩ b1, .cons h1 e1 e2 h2 b2, by rw [List.length_cons, List.length_cons, b3], fun i k v h => ?_⟩
    cases i with
    | zero =>
      simp at h
      obtain rfl := h
      exact ⟨n, b, rfl, eq⟩
    | succ i => exact b4 i k v (by simpa using h)
end
def mergeX (xs more : List (NestedKey × Addr × V)) : List (NestedKey × Addr × V) := more.foldl (fun acc x => putX acc x.1 x.2.1 x.2.2) xs
theorem dMerge_cons (kvs : List (PyData × PyData)) (p : PyData × PyData) (r : List (PyData × PyData)) : dMerge kvs (p :: r) = dMerge (dPut kvs p.1 p.2) r := rfl
theorem dMerge_len : ∀ (more kvs : List (PyData × PyData)), (dMerge kvs more).length ≤ kvs.length + more.length
  | [], kvs => Nat.le_refl _
  | p :: r, kvs => by
    rw [dMerge_cons, List.length_cons]
    have h1 := dMerge_len r (dPut kvs p.1 p.2)
    have h2 := dPut_len kvs p.1 p.2
    omega
theorem dMerge_ne : ∀ (more kvs : List (PyData × PyData)), kvs ≠ [] ∨ more ≠ [] → dMerge kvs more ≠ []
  | [], kvs, h => h.elim id fun z => absurd rfl z
  | p :: r, kvs, _ => by rw [dMerge_cons]; exact dMerge_ne r _ (.inl (dPut_ne _ _ _))
theorem RDk.merge {K : Frag} {H : Hp} : ∀ {ms : List (Key × V)} {more : List (PyData × PyData)} {ks : List (Key × V)} {kvs : List (PyData × PyData)}, RDk K H ms more → RDk K H ks kvs → RDk K H (mergeK ks ms) (dMerge kvs more)
  | _, _, _, _, .nil, h => h
  | _, _, _, _, @RDk.cons _ _ k _ _ _ _ r t, h => by
    have z := RDk.merge t (h.put k r)
    exact z
theorem RDn.merge {K : Frag} {H : Hp} : ∀ {ms : List (NestedKey × Addr × V)} {more : List (PyData × PyData)} {ks : List (NestedKey × Addr × V)} {kvs : List (PyData × PyData)}, RDn K H ms more → RDn K H ks kvs → RDn K H (mergeX ks ms) (dMerge kvs more)
  | _, _, _, _, .nil, h => h
  | _, _, _, _, .cons r1 r2 r3 r4 t, h => by
    have z := RDn.merge t (h.put r2 r3 r1 r4)
    exact z
theorem US.merge : ∀ {ms : List (NestedKey × Addr × V)} {more : List (NestedKey × Addr × Value)} {xs : List (NestedKey × Addr × V)} {us : List (NestedKey × Addr × Value)}, US ms more → US xs us → US (mergeX xs ms) (storedAllH us more)
  | _, _, _, _, .nil, h => h
  | p :: ms, q :: more, xs, us, .cons ⟨r1, r2, r3⟩ t, h => by
    have z := h.put p.1 p.2.1 r3
    show US (mergeX (putX xs p.1 p.2.1 p.2.2) ms) (storedAllH (storedH us q.1 q.2.1 q.2.2) more)
    rw [← r1, ← r2]
    exact US.merge t z
theorem pairItems {h : Heap} {its : List Value} {ts : List Addr} {ws : List (Value × Value)} (e1 : its = ts.map Value.ref) (e2 : ws.length = ts.length) (e3 : ∀ (j : Nat) (T : Addr) (k v : Value), ts[j]? = some T → ws[j]? = some (k, v) → PairAt h T k v) :
    PairItems h its.toArray (fun j => ts.getD j 0) ws := by
  refine ⟨by rw [List.size_toArray, e1, List.length_map, e2], fun j k v hj => ?_⟩
  have hl : j < ts.length := by rw [← e2]; exact (List.getElem?_eq_some_iff.mp hj).1
  have ht : ts[j]? = some ts[j] := List.getElem?_eq_getElem hl
  have hg : ts.getD j 0 = ts[j] := by rw [List.getD_eq_getElem?_getD, ht]; rfl
  show _ = some (Value.ref (ts.getD j 0)) ∧ PairAt h (ts.getD j 0) k v
  rw [hg]
  refine ⟨?_, e3 j _ k v ht hj⟩
  rw [List.getElem?_toArray, e1, List.getElem?_map, ht]; rfl
section
variable {X : Cx}
def rDictL (K : Frag) : List V → Hp → VK → Prop := fun xs H Q => ∃ Hs p vs ds ps, Same Hs H ∧ xs = [.ref p] ∧ Lp K H p vs ∧ RDs K Hs vs ds ∧ gPairs ds = some ps ∧ kindOK ps = true ∧ ds.length ≤ LIM ∧
  ∀ q ob, H q = none → OwnD K Hs (upd H q ob) q (dMerge [] ps) → Q (.ref q) (upd H q ob)
theorem call_dictL (hc : X.calm = true) (hu : X.A.units + 64 < cLine) : CallR X (.type "dict") (rDictL X.K) := by
  intro pins s σ H xs us0 Q I r ⟨Hs, p, vs, ds, ps, sb, ex, hp, rd, ep, kd, hl, q⟩
  subst ex
  obtain ⟨u, rfl, rx⟩ := vals1 r
  cases (show u = Value.ref p from rx)
  obtain ⟨hz, its, n, rv, hg⟩ := hp.obj I
  obtain ⟨ts, ws, kv, a1, a2, a3, a4, a5⟩ := pairs_at I sb rd rv ep
  have ok : PlainSeq "list" s.heap p its.toArray ∧ PairItems s.heap its.toArray (fun j => ts.getD j 0) ws := ⟨⟨_, n, hg, rfl, rfl, rfl⟩, pairItems a1 a2 a3⟩
  have lw : ws.length = ds.length := by
    have h1 := rv.length
    have h2 := rd.len
    rw [a1, List.length_map] at h1
    omega
  have hn : H s.heap.objs.size = none := I.hok.fresh (Nat.le_refl _)
  have hne : (s.heap.objs.size == sysModules) = false := beq_eq_false_iff_ne.mpr (Ne.symm (Nat.ne_of_lt I.big))
  have hlp : ps.length = ws.length := by
    have h1 := Paired.length a4
    have h2 := a5.len
    omega
  unfold kindOK at kd
  rw [Bool.or_eq_true, List.all_eq_true, List.all_eq_true] at kd
  by_cases kk : ∀ p ∈ ps, isKk p.1 = true
  · obtain ⟨ks, rs, b1, b2, b3, b4⟩ := byK a5 a4 kk
    refine call_dict_pairs (PairArg.list p its.toArray (fun j => ts.getD j 0) ws) (I.ok.hd hc) ok ⟨b3, b4⟩ (by rw [lw]; exact lim_line hl) fun h' tk hd' hk => ?_
    have hz' : (mergeK [] ks).length ≤ sizeLine := by
      have h1 := length_mergeK ks []
      have h2 := b2.len
      rw [List.length_nil] at h1
      exact lim_line (by omega)
    refine ⟨.ref s.heap.objs.size, _, I.laid (t' := tk) (fun b o e => hk b o (fun z => nomatch z) e) (Nat.le_refl _) (dk_new hz' hne (b1.merge .nil) hd'), rfl, q _ _ hn (.inl ⟨_, upd_same, b2.merge .nil⟩)⟩
  · have kn : ∀ p ∈ ps, isKn p.1 = true := kd.resolve_left kk
    obtain ⟨xs, us, b1, b2, b3, b4⟩ := byN I sb a5 a4 kn
    obtain ⟨his, _⟩ := us_is I sb b2 b1
    refine call_dict_pairsH (knd := nestedKind X.prog X.w) (ps := us) (PairArg.list p its.toArray (fun j => ts.getD j 0) ws) (I.ok.hd hc) (by show X.A.in1.in1.units + 8 < cLine; simp only [Around.in1_units]; omega) ok ⟨b3, b4⟩
      (fun h' hk x hx => nestedKind_stays.stays (fun b o _ _ e _ => hk b o (Nat.ne_of_lt (Heap.lt_size e)) (fun z => nomatch z) e) (his x hx)) (by rw [lw]; exact lim_line hl) fun h' tk hd' hk => ?_
    have r' : RDn X.K Hs (mergeX [] xs) (dMerge [] ps) := b2.merge .nil
    have hz' : (mergeX [] xs).length ≤ sizeLine := by
      have h1 := dMerge_len ps []
      rw [List.length_nil] at h1
      rw [r'.len]
      exact lim_line (by omega)
    obtain ⟨o, ok', ho⟩ := dn_of I sb r' (US.merge b1 .nil) hne hz' hd'
    refine ⟨.ref s.heap.objs.size, _, I.laid (t' := tk) (fun b o e => hk b o (fun z => nomatch z) e) (Nat.le_refl _) (dn_new ok'), rfl, q _ _ hn (.inr ⟨o, _, upd_same, dMerge_ne _ _ (.inr fun z => kk (by rw [z]; exact fun _ h => nomatch h)), r'⟩)⟩
end
def gDict : PyData → Option (List (PyData × PyData))
  | .list ds => (gPairs ds).bind fun ps => if kindOK ps = true ∧ ds.length ≤ LIM then some (dMerge [] ps) else none
  | _ => none
/-- what stands behind the last part: a new dict -/
def EndD (K : Frag) (H : Hp) (Q : VK) (kvs : List (PyData × PyData)) (P : (Addr → Prop) → Prop) : Prop := ∃ O : Addr → Prop, (∀ b, O b → H b ≠ none) ∧ P O ∧ ∀ p ob, H p = none → OwnD K (hid H O) (upd H p ob) p kvs → Q (.ref p) (upd H p ob)
theorem endD {K : Frag} {Z : Zt} {L : Nat → List Addr} {σ : L2.St} {H : Hp} {st : Sx} {Q : VK} {kvs : List (PyData × PyData)} {P : (Addr → Prop) → Prop} (I : Rel K Z L [] σ H st) (p : P (Hid Z L []))
    (q : ∀ v H' L' T, Rel K Z L' T σ H' st → Step (Own L []) H (Own L' T) H' → RM K (hid H' (Hid Z L' T)) H' v (.od false kvs) T → Q v H') : EndD K H Q kvs P :=
  ⟨Hid Z L [], fun b h => I.hin h, p, fun a ob ha own => by
    have sub : Same (hid H (Hid Z L [])) (hid (upd H a ob) (Hid Z L [a])) := fun b o e => by
      obtain ⟨n, e⟩ := hid_some.mp e
      refine hid_some.mpr ⟨fun h => ?_, same_upd ha b o e⟩
      rcases h with h | h | h
      · exact n (.inl h)
      · exact n (.inr (.inl h))
      · rw [List.mem_singleton] at h; rw [h, ha] at e; cases e
    refine q (.ref a) _ L [a] (I.fresh ha) (.fresh ha) ⟨a, rfl, rfl, ?_⟩
    rcases own with ⟨ks, e, r⟩ | ⟨o, xs, e, n, r⟩
    · exact .inl ⟨ks, e, r.up sub⟩
    · exact .inr ⟨o, xs, e, n, r.up sub⟩⟩
def oD1 (g : PyData → Option (List (PyData × PyData))) (f : FE) : FO := fun st => (f st).bind fun p => (dat p.2 p.1).bind fun a => (g a).bind fun d => some (.od false d, p.2)
def WD1 (K : Frag) (r : V → Hp → VK → Prop) (g : PyData → Option (List (PyData × PyData))) : Prop := ∀ (H : Hp) (x : V) (a : PyData) (d : List (PyData × PyData)) (Q : VK), g a = some d → EndD K H Q d (fun O => RX K (hid H O) H x a) → r x H Q
theorem downD1 {r : V → Hp → VK → Prop} {K : Frag} {g : PyData → Option (List (PyData × PyData))} {f : FE} (hr : WD1 K r g) (σ : L2.St) (H : Hp) (Q : VK) (h : TOv K (oD1 g f) σ H Q) : TEv K f σ H fun x H1 => r x H1 Q := by
  obtain ⟨Z, L, st, rr, st', I, e, q⟩ := h
  obtain ⟨⟨ra, s1⟩, e1, e⟩ := Option.bind_eq_some_iff.mp e
  obtain ⟨a, e2, e⟩ := Option.bind_eq_some_iff.mp e
  obtain ⟨d, e3, e⟩ := Option.bind_eq_some_iff.mp e
  cases e
  exact ⟨Z, L, st, ra, s1, I, e1, fun v H1 L1 I1 S1 rv => hr H1 v a d Q e3 (endD I1 (I1.rx rv e2) fun w H' L' T I' S' rw' => q w H' L' T I' (S1.trans S') rw')⟩
theorem w1_dict {K : Frag} : WD1 K (fun v => rDictL K [v]) gDict := fun H x a d Q e h => by
  cases a <;> first | (cases e; done) | skip
  rename_i ds
  simp only [gDict] at e
  obtain ⟨ps, e1, e⟩ := Option.bind_eq_some_iff.mp e
  split at e
  · rename_i c
    cases e
    obtain ⟨O, hO, h1, q⟩ := h
    obtain ⟨p, vs, rfl, g1, g2⟩ := h1
    exact ⟨_, p, vs, ds, ps, hid_sub, rfl, g1, g2, e1, c.1, c.2, q⟩
  · cases e
theorem k_dictL {X : Cx} {p pos : Pos} {a : Expr} {fa : FE} (hc : X.calm = true) (hu : X.A.units + 64 < cLine) (ha : PE X a (TEv X.K fa)) (hm : X.mg "dict" = none) (hg : Gl X "dict" := by rfl) (hs : starEach [a] X.env = [(false, eval a X.env)] := by rfl) :
    PE X (.Call (.Name "dict" p) [a] [] pos) (TOv X.K (oD1 gDict fa)) :=
  (pe_callTy (call_dictL hc hu) hg hm (by decide +kernel) (pa_one ha hs) (by decide) (by decide) hs rfl).wk fun σ H Q h => downD1 w1_dict σ H Q h
end Pv

namespace Pv
open PySem PySem.Spec PyProof.Rows L2
/-! ### d.update(e) -/
def dHash (d : PyData) : Int := match keyN d with
  | some k => hashP k
  | none => 0
def hashOK (more : List (PyData × PyData)) : Bool := decide ((more.map fun p => dHash p.1).Nodup)
def gUpd (kvs : List (PyData × PyData)) : PyData → Option (PyData × List (PyData × PyData))
  | .dict more => if (((kvs.all fun p => isKk p.1) && more.all fun p => isKk p.1) || ((kvs.all fun p => isKn p.1) && (more.all fun p => isKn p.1) && (!kvs.isEmpty || hashOK more))) = true ∧ kvs.length + more.length ≤ LIM then some (.none, dMerge kvs more) else none
  | _ => none
section
variable {X : Cx} {pins : List (Addr × Obj)} {σ : L2.St} {H Hs : Hp} {s : Shared} {a : Addr} {kvs : List (PyData × PyData)}
theorem dct_h (I : Inv X pins σ H s) (sb : Same Hs H) (D : DctAt X.K Hs H a kvs) (kn : ∀ p ∈ kvs, isKn p.1 = true) :
    ∃ (xs : List (NestedKey × Addr × V)) (us : List (NestedKey × Addr × Value)), RDn X.K Hs xs kvs ∧ US xs us ∧ s.heap.DictOfH (nestedKind X.prog X.w) a us ∧ (a == sysModules) = false ∧ xs.length ≤ sizeLine := by
  rcases D with ⟨ks, h, r⟩ | ⟨o, xs, h, n, r⟩
  · cases kvs with
    | nil =>
      have z : ks = [] := by cases r; rfl
      subst z
      obtain ⟨_, hd, vs, rel, dd⟩ := dk_rd I.hok h
      cases rel
      exact ⟨[], [], .nil, .nil, empty_h dd, hd, Nat.zero_le _⟩
    | cons p t => exact (notBoth (r.kinds p (by simp)) (kn p (by simp))).elim
  · obtain ⟨h2, h3, us, es, ep, u1, _, _, _, _, dd⟩ := dn_at I sb h r
    exact ⟨xs, us, r, u1, dd, h2, h3⟩
theorem dct_k (D : DctAt X.K Hs H a kvs) (kk : ∀ p ∈ kvs, isKk p.1 = true) : ∃ ks, Rd H a (.dK ks) ∧ RDk X.K Hs ks kvs := by
  rcases D with D | ⟨o, xs, h, n, r⟩
  · exact D
  · cases kvs with
    | nil => exact absurd rfl n
    | cons p t => exact (notBoth (kk p (by simp)) (r.kinds p (by simp))).elim
theorem us_hash : ∀ {xs : List (NestedKey × Addr × V)} {kvs : List (PyData × PyData)} {us : List (NestedKey × Addr × Value)}, RDn X.K Hs xs kvs → US xs us → us.map (fun x => (nestedKind X.prog X.w).hash x.1) = kvs.map (fun p => dHash p.1)
  | _, _, _, .nil, .nil => rfl
  | _, _, q :: us, @RDn.cons _ _ k b v xs dk d ds h1 h2 h3 h4 t, .cons hq tq => by
    rw [List.map_cons, List.map_cons, us_hash t tq]
    congr 1
    have e : k = q.1 := hq.1
    show NestedKey.hash X.w q.1 = dHash dk
    unfold dHash
    rw [h2, ← e]
    exact (hashP_eq X.w dk k h2).symm
end
section
variable {X : Cx}
def rUpd (K : Frag) : V → List V → Hp → VK → Prop := fun x xs H Q => ∃ Hs p kvs more y kvs', Same Hs H ∧ Hs p = none ∧ x = .ref p ∧ OwnD K Hs H p kvs ∧ xs = [y] ∧ RD K Hs y (.dict more) ∧ gUpd kvs (.dict more) = some (.none, kvs') ∧ ∀ ob, OwnD K Hs (upd H p ob) p kvs' → Q .non (upd H p ob)
theorem mt_upd (hu : X.A.units + 64 < cLine) : MtR X "dict.update" (rUpd X.K) := by
  intro pins s σ H x xs v us0 Q I rx rxs ⟨Hs, p, kvs, more, y, kvs', sb, hnp, ex, D, exs, ry, eg, q⟩
  subst ex exs
  cases (show v = Value.ref p from rx)
  obtain ⟨u, rfl, ru⟩ := rxs.one
  have DM : ∃ b, y = .ref b ∧ Hs b ≠ none ∧ DctAt X.K Hs H b more := by
    cases ry with
    | dctK h r => exact ⟨_, rfl, (by rcases h with h | ⟨o, h⟩ <;> (rw [h]; exact Option.some_ne_none _)), .inl ⟨_, sameRd sb h, r⟩⟩
    | dctN h n r => exact ⟨_, rfl, (by rw [h]; exact Option.some_ne_none _), .inr ⟨_, _, sb _ _ h, n, r⟩⟩
  obtain ⟨b, ey, hb, DM⟩ := DM
  subst ey
  cases (show u = Value.ref b from ru)
  have hne : p ≠ b := fun e => hb (by rw [← e]; exact hnp)
  have mu := D.mut
  simp only [gUpd] at eg
  split at eg
  case isFalse => cases eg
  rename_i c
  cases eg
  obtain ⟨c, hl⟩ := c
  by_cases kk : (∀ p ∈ kvs, isKk p.1 = true) ∧ ∀ p ∈ more, isKk p.1 = true
  · obtain ⟨ks, hk, r⟩ := dct_k D.at kk.1
    obtain ⟨ms, hm, rm⟩ := dct_k DM kk.2
    have e := rd_own hk mu
    obtain ⟨z, hd, vs, rel, dd⟩ := dk_of I.hok e
    obtain ⟨z2, hd2, ws, rel2, dd2⟩ := dk_rd I.hok hm
    have l1 := rel.length
    have l2 := rel2.length
    have l3 := r.len
    have l4 := rm.len
    refine call_meetsIn PySem.F.slot_dict_update dd.typeIs PySem.F.entry_dict_update (PySem.F.args_dict_update_2 _ _) (meets_dict_update (mixKind X.prog X.w) p b hne hd2) ⟨vs, ws, dd, dd2, lim_line (by omega), fun h' hd' ho' hs => ?_⟩
    have hz : (mergeK ks ms).length ≤ sizeLine := by
      have := length_mergeK ms ks
      exact lim_line (by omega)
    have he : ∃ q, h'.get? p = some q := let ⟨q, _, _, hq, _⟩ := hd'; ⟨q, hq⟩
    exact ⟨.non, _, d_write (t' := s.toks) I mu hs he (dk_new hz hd (rel2.merge rel) hd'), rfl, q _ (.inl ⟨_, upd_same, rm.merge r⟩)⟩
  · rw [Bool.or_eq_true, Bool.and_eq_true, Bool.and_eq_true, Bool.and_eq_true, List.all_eq_true, List.all_eq_true, List.all_eq_true, List.all_eq_true] at c
    obtain ⟨⟨k1, k2⟩, k3⟩ := c.resolve_left kk
    obtain ⟨xs, us, r, u1, dd, hd, z⟩ := dct_h I sb D.at k1
    obtain ⟨ms, ws, rm, u2, dd2, hd2, z2⟩ := dct_h I sb DM k2
    have l1 := Paired.length u1
    have l2 := Paired.length u2
    have l3 := r.len
    have l4 := rm.len
    obtain ⟨his, _⟩ := us_is I sb rm u2
    have hap : us ≠ [] ∨ ((∀ x ∈ ws, s.TypeIs (.ref x.2.1) "tuple") ∧ (ws.map fun x => (nestedKind X.prog X.w).hash x.1).Nodup) := by
      rw [Bool.or_eq_true] at k3
      rcases k3 with k3 | k3
      · refine .inl fun e => ?_
        rw [e] at l1
        have l1 : xs.length = 0 := l1
        have : kvs = [] := List.length_eq_zero_iff.mp (by omega)
        rw [this] at k3; cases k3
      · refine .inr ⟨fun x hx => nestedKind_stays.tuple (his x hx), ?_⟩
        rw [us_hash rm u2]
        exact of_decide_eq_true k3
    refine call_update_dictH (room_n hu) hne hd2 dd dd2 hap (lim_line (by omega)) fun h' hd' ho' hs => ?_
    have r' : RDn X.K Hs (mergeX xs ms) (dMerge kvs more) := rm.merge r
    have hz' : (mergeX xs ms).length ≤ sizeLine := by
      have h1 := dMerge_len more kvs
      rw [r'.len]
      exact lim_line (by omega)
    obtain ⟨o, ok', ho⟩ := dn_of I sb r' (US.merge u2 u1) hd hz' hd'
    have nn : kvs ≠ [] ∨ more ≠ [] := by
      by_cases e1 : kvs = []
      · refine .inr fun e2 => kk ⟨?_, ?_⟩
        · rw [e1]; exact fun _ h => nomatch h
        · rw [e2]; exact fun _ h => nomatch h
      · exact .inl e1
    exact ⟨.non, _, d_write (t' := s.toks) I mu hs ⟨o, ho⟩ (dn_new ok'), rfl, q _ (.inr ⟨o, _, upd_same, dMerge_ne _ _ nn, r'⟩)⟩
/-! a method of a dict that a name holds -/
def eDm1 (j : Nat) (g : List (PyData × PyData) → PyData → Option (PyData × List (PyData × PyData))) (f : FE) : FE := fun st => match st[j]? with
  | some (some (.od _ _)) => (f st).bind fun p => (share p.2 p.1).bind fun q => match q.2[j]? with
    | some (some (.od b kvs)) => (g kvs q.1).bind fun r => some (.val r.1, q.2.set j (some (.od b r.2)))
    | _ => none
  | _ => none
def L1D (K : Frag) (r : V → List V → Hp → VK → Prop) (g : List (PyData × PyData) → PyData → Option (PyData × List (PyData × PyData))) : Prop := ∀ (H Hs : Hp) (p : Addr) (y : V) (kvs kvs' : List (PyData × PyData)) (e d : PyData) (Q : VK), Same Hs H → Hs p = none → OwnD K Hs H p kvs → RD K Hs y e → g kvs e = some (d, kvs') →
  (∀ v ob, RD K Hs v d → OwnD K Hs (upd H p ob) p kvs' → Q v (upd H p ob)) → r (.ref p) [y] H Q
theorem l1_upd {K : Frag} : L1D K (rUpd K) gUpd := fun H Hs p y kvs kvs' e d Q sb hn D rd eg q => by
  cases e <;> first | (cases eg; done) | skip
  rename_i more
  have ed : d = .none := by
    simp only [gUpd] at eg
    split at eg
    · cases eg; rfl
    · cases eg
  subst ed
  exact ⟨Hs, p, kvs, more, y, kvs', sb, hn, rfl, D, rfl, rd, eg, fun ob own => q .non ob .non own⟩
theorem pe_bmV {o e : Expr} {es : List Expr} {to : TE} {t : TA} {name : Str} {apos cpos : Pos} {T id : String} {r : V → List V → Hp → VK → Prop} (ty : V → Hp → Prop)
    (ht : ∀ (pins : List (Addr × Obj)) (σ : L2.St) (H : Hp) (s : Shared) (x : V) (v : Value), Inv X pins σ H s → RelV x v → ty x H → s.TypeIs v T ∧ ∀ a, v = .ref a → ∃ ob, s.heap.get? a = some ob ∧ ob.dict = none)
    (pa : PlainAttrs T) (slot : Slot T name id) (hty : typeOf (.builtin id) = pure (.type "method_descriptor")) (hm : MtR X id r) (ho : PE X o to) (ha : PA X (e :: es) t)
    (q1 : attributeBase o name X.env (eval o X.env) = eval o X.env := by rfl) (q2 : ((backTo cpos (starEach (e :: es) X.env)).all (fun x => !x.1) && (backToKw cpos (keywordEach [] X.env)).all (fun x => x.1.isSome) && decide ((e :: es).length + ([] : List Keyword).length + (if ([] : List Keyword).isEmpty then 0 else 1) < 30)) = true := by rfl)
    (q3 : (apos.endLine == cpos.line) = true := by rfl) (q4 : starEach (e :: es) X.env = (false, eval e X.env) :: starEach es X.env := by rfl) (q5 : (backTo cpos (starEach es X.env)).any (·.1) = false := by rfl) : PE X (.Call (.Attribute o name apos) (e :: es) [] cpos) (fun σ H Q => to σ H fun x H1 => ty x H1 ∧ t σ H1 fun xs H2 => r x xs H2 Q) :=
  ⟨fun pins s σ H Q I h => wpAny_Call_method_late q1 q2 q3 rfl (thn (ho.run pins s σ H _ I h) fun v s1 ⟨x, H1, I1, r1, tyx, z1⟩ => ⟨T, id, pa, slot, hty, (ht pins σ H1 s1 x v I1 r1 tyx).1, (ht pins σ H1 s1 x v I1 r1 tyx).2, by
    have A0 := ha.run cpos pins s1 σ H1 _ I1 z1
    rw [q4] at A0 ⊢
    have q6 : (false || (backTo cpos (starEach es X.env)).any (·.1)) = false := by rw [q5]; rfl
    exact Calls.callWith_builtin q6 (Calls.evalArgs_plain (thn A0 fun us s2 ⟨vs, H2, I2, r2, z2⟩ => hm pins s2 σ H2 x vs v us Q I2 r1 r2 z2))⟩)⟩
def tyD (K : Frag) : V → Hp → Prop := fun x H => ∃ Hs a kvs, x = .ref a ∧ DctAt K Hs H a kvs
theorem tyD_is (pins : List (Addr × Obj)) (σ : L2.St) (H : Hp) (s : Shared) (x : V) (v : Value) (I : Inv X pins σ H s) (rx : RelV x v) (h : tyD X.K x H) : s.TypeIs v "dict" ∧ ∀ a, v = .ref a → ∃ ob, s.heap.get? a = some ob ∧ ob.dict = none := by
  obtain ⟨Hs, a, kvs, rfl, D⟩ := h
  cases (show v = Value.ref a from rx)
  obtain ⟨o, h1, h2, _⟩ := dct_obj I D
  refine ⟨⟨o, h1, h2.1⟩, fun b e => ?_⟩
  cases e
  exact ⟨o, h1, h2.2.1⟩
theorem k_dm1 {j : Nat} {x name : Str} {pp apos cpos : Pos} {a : Expr} {f : FE} {id : String} {r : V → List V → Hp → VK → Prop} {g : List (PyData × PyData) → PyData → Option (PyData × List (PyData × PyData))} (slot : Slot "dict" name id) (hty : typeOf (.builtin id) = pure (.type "method_descriptor")) (hm : MtR X id r) (hv : L1D X.K r g) (ha : PE X a (TEv X.K f))
    (hN : X.N[j]? = some x := by rfl) (hvis : Vis X.env.scope x := by first | exact Or.inl rfl | exact Or.inr (Or.inl rfl) | exact Or.inr (Or.inr rfl)) (hd : (x == ("__debug__" : Str)) = false := by decide) (hcd : (x == ("__classdict__" : Str)) = false := by decide)
    (hbase : attributeBase (.Name x pp) name X.env (eval (.Name x pp) X.env) = eval (.Name x pp) X.env := by rfl)
    (hfew : ((backTo cpos (starEach [a] X.env)).all (fun x => !x.1) && (backToKw cpos (keywordEach [] X.env)).all (fun x => x.1.isSome)
      && decide ([a].length + ([] : List Keyword).length + (if ([] : List Keyword).isEmpty then 0 else 1) < 30)) = true := by rfl)
    (hline : (apos.endLine == cpos.line) = true := by rfl) (hs : starEach [a] X.env = [(false, eval a X.env)] := by rfl) : PE X (.Call (.Attribute (.Name x pp) name apos) [a] [] cpos) (TEv X.K (eDm1 j g f)) :=
  (pe_bmV (tyD X.K) tyD_is PySem.F.plainAttrs_dict slot hty hm (pe_var hN hvis hd hcd) (pa_one ha hs) hbase hfew hline hs rfl).wk fun σ H Q ⟨Z, L, st, rr, st', I, e, q⟩ => by
    unfold eDm1 at e
    split at e
    · rename_i b0 kv0 h0
      obtain ⟨⟨ra, s1⟩, e1, e⟩ := Option.bind_eq_some_iff.mp e
      obtain ⟨⟨da, s2⟩, e2, e⟩ := Option.bind_eq_some_iff.mp e
      dsimp only at e
      split at e
      · rename_i b kvs hj
        obtain ⟨⟨d, kvs'⟩, e3, e⟩ := Option.bind_eq_some_iff.mp e
        cases e
        obtain ⟨w, hw, p0, hp0, _, own0⟩ := I.slot j _ h0
        subst hp0
        refine ⟨_, hw, ⟨_, p0, kv0, rfl, OwnD.at own0⟩, Z, L, st, ra, s1, I, e1, fun u H1 L1 I1 S1 ru => ?_⟩
        obtain ⟨L2, I2, S2, rd⟩ := I1.share ru e2
        obtain ⟨p, g1, own, hp, put⟩ := I2.dct hj hw
        cases g1
        have hnp : hid H1 (Hid Z L2 []) p0 = none := by
          cases z : hid H1 (Hid Z L2 []) p0 with
          | none => rfl
          | some o => exact absurd hp (hid_some.mp z).1
        refine hv H1 _ p0 u kvs kvs' da d Q hid_sub hnp own rd e3 fun v ob rv own' => ?_
        obtain ⟨I3, S3⟩ := put ob _ own'
        exact q v _ L2 I3 (S1.trans (S2.trans S3)) (RD.up rv (hid_keep hp))
      · cases e
    · cases e
end
end Pv

namespace Pv
open PySem PySem.Spec PyProof.Rows L2
/-! ### sum(t) of a tuple of ints -/
section
variable {X : Cx}
def rSumT (K : Frag) : List V → Hp → VK → Prop := fun vs H Q => ∃ (a : Addr) (ns : List Int), vs = [V.ref a] ∧ SqT K H a (ns.map V.int) ∧ Q (.int ns.sum) H
theorem cr_sumT (hc : X.calm = true) : CallR X (.builtin "sum") (rSumT X.K) := by
  intro pins s σ H vs us Q I r ⟨a, ns, ex, hs, q⟩
  subst ex
  obtain ⟨u, rfl, rx⟩ := vals1 r
  cases (show u = Value.ref a from rx)
  obtain ⟨its, rv, ⟨o, ho, hcl, n, hd⟩, _⟩ := I.tuple hs
  have hl : s.heap.IsTuple a its.toArray := ⟨o, ho, hcl, n, hd⟩
  have hi := rv.ints
  obtain ⟨xs, hx⟩ := hi.allInts.items
  have hn : numsOf its.toArray.toList = ns := by rw [show its.toArray.toList = its from rfl, hi.numsOf]
  rw [hx] at hl hn
  rw [nums_intItems] at hn
  refine PySem.W.ktm_sumG (I.ok.hd hc) hl fun h' tk t' hk => ?_
  rw [preSum_eq, List.take_of_length_le (by simp), hn]
  exact ⟨.int ns.sum, H, I.kept hk, ⟨_, rfl⟩, q⟩
def gSum2 : PyData → Option PyData
  | .tuple ds => (intsOf ds).map fun ns => .int ns.sum
  | d => gSum d
theorem cr_sum2 (hc : X.calm = true) : CallR X (.builtin "sum") (fun xs H Q => rSum X.K xs H Q ∨ rSumT X.K xs H Q) := (cr_sum hc).or (cr_sumT hc)
theorem v1_sum2 {K : Frag} : V1 K (fun v H Q => rSum K [v] H Q ∨ rSumT K [v] H Q) gSum2 := fun H x a d Q e h => by
  cases a with
  | tuple ds =>
    obtain ⟨ns, e1, e2⟩ := Option.map_eq_some_iff.mp e
    subst e2
    have q := endI h fun _ => RD.int ns.sum
    obtain ⟨O, hO, h1, _⟩ := h
    obtain ⟨p, vs, rfl, g1, g2⟩ := h1.tup
    exact .inr ⟨p, ns, rfl, (by rw [← g2.toInts e1]; exact sameSqT hid_sub g1.sq), q⟩
  | _ =>
    refine .inl (v1_sum H x _ d Q ?_ h)
    exact e
end
end Pv

namespace Pv
open PySem PySem.Spec PyProof.Rows L2
/-! ### max, min of a tuple of ints -/
section
variable {prog : Program} {w : World} {A : Around} {E : Value → Shared → Prop} {s : Shared} {t : Addr} {its : List Value} {ns : List Int}
theorem tup_walk {Q : Value → Shared → Prop} {xs : Array (Int × Tok)} (ht : s.heap.IsTuple t (intItems xs)) (hh : A.handled = none) (hne : 0 < xs.size) (bt : Nat → Nat → Bool) {op : CmpOp} (hc : ∀ P : Nat → Value → Prop, (∀ i v, P i v → ∃ k, v = .int (numAt xs i) k) → CmpOf prog w A.in1 op P bt)
    (h : ∀ v h' tk, (intItems xs)[argBest bt (xs.size - 1)]? = some v → (∀ b o, s.heap.get? b = some o → h'.get? b = some o) → Q v { s with heap := h', toks := tk }) :
    wpAny (model prog w) A.in1 (pyIter (.ref t)) (fun it s₂ => ∃ I fp wr n P St bt, it = .ref I ∧ Walks prog w A.in1 I fp wr n P St ∧ St 0 s₂.heap ∧ (∀ b ∈ fp, b < s₂.heap.objs.size) ∧ 0 < n ∧ CmpOf prog w A.in1 op P bt ∧
      ∀ v h' tk, P (argBest bt (n - 1)) v → (∀ b o, b ∉ wr → s₂.heap.get? b = some o → h'.get? b = some o) → Q v { s₂ with heap := h', toks := tk }) E s := by
  obtain ⟨o, ho, hc1, n, hd⟩ := id ht
  have ne : t ≠ s.heap.objs.size := Nat.ne_of_lt (Heap.lt_size ho)
  have hsz : (intItems xs).size = xs.size := by simp [intItems]
  refine wpAny_pyIter_tuple ht ⟨_, _, _, _, _, _, bt, rfl, Walks.tuple (A := A.in1) hh s.heap.objs.size t ne (intItems xs), ⟨⟨_, Heap.get?_push_size _ rfl, rfl, rfl⟩, ht.at fun o e => Heap.get?_push_of_some _ e⟩, fun b hb => ?_, by rw [hsz]; exact hne, hc _ fun i v hv => intItems_at hv, fun v h' tk hv hk => ?_⟩
  · rcases List.mem_cons.mp hb with rfl | hb
    · exact Heap.lt_size (Heap.get?_push_size _ rfl)
    · obtain rfl := List.mem_singleton.mp hb
      exact Heap.lt_size (Heap.get?_push_of_some _ ho)
  · rw [hsz] at hv
    exact h v h' tk hv fun b o e => hk b o (fun hb => Nat.lt_irrefl _ ((List.mem_singleton.mp hb) ▸ Heap.lt_size e)) (Heap.get?_push_of_some _ e)
theorem max_tup {Q : Value → Shared → Prop} (hh : A.handled = none) (hl : s.heap.IsTuple t its.toArray) (hi : IntsAre its ns) (hne : 0 < ns.length)
    (h : ∀ h' tk M t', (∀ b o, s.heap.get? b = some o → h'.get? b = some o) → M ∈ ns → (∀ a, a ∈ ns → a ≤ M) → Q (.int M t') { s with heap := h', toks := tk }) : wpAny (model prog w) A (call (.builtin "max") [.ref t]) Q E s := by
  obtain ⟨xs, e⟩ := hi.allInts.items
  have hn : numsOf (intItems xs).toList = ns := by rw [← e]; exact hi.numsOf
  rw [nums_intItems] at hn
  subst hn
  have hl' : s.heap.IsTuple t (intItems xs) := by rw [← e]; exact hl
  have hsz : 0 < xs.size := by simpa using hne
  refine call_max_walk (tup_walk hl' hh hsz _ (fun P hP => CmpOf.ints_gt (numAt xs) hP) fun v h' tk hv hk => ?_)
  obtain ⟨t', rfl⟩ := intItems_at hv
  obtain ⟨h1, h2⟩ := argBest_gt (numAt xs) (xs.size - 1)
  refine h h' tk _ t' hk ?_ fun a ha => ?_
  · rw [numAt_eq]; exact PySem.getD_mem (by rw [List.length_map, Array.length_toList]; omega)
  · obtain ⟨j, hj, rfl⟩ := mem_getD ha
    rw [List.length_map, Array.length_toList] at hj
    rw [← numAt_eq]; exact h2 j (by omega)
theorem min_tup {Q : Value → Shared → Prop} (hh : A.handled = none) (hl : s.heap.IsTuple t its.toArray) (hi : IntsAre its ns) (hne : 0 < ns.length)
    (h : ∀ h' tk M t', (∀ b o, s.heap.get? b = some o → h'.get? b = some o) → M ∈ ns → (∀ a, a ∈ ns → M ≤ a) → Q (.int M t') { s with heap := h', toks := tk }) : wpAny (model prog w) A (call (.builtin "min") [.ref t]) Q E s := by
  obtain ⟨xs, e⟩ := hi.allInts.items
  have hn : numsOf (intItems xs).toList = ns := by rw [← e]; exact hi.numsOf
  rw [nums_intItems] at hn
  subst hn
  have hl' : s.heap.IsTuple t (intItems xs) := by rw [← e]; exact hl
  have hsz : 0 < xs.size := by simpa using hne
  refine call_min_walk (tup_walk hl' hh hsz _ (fun P hP => CmpOf.ints_lt (numAt xs) hP) fun v h' tk hv hk => ?_)
  obtain ⟨t', rfl⟩ := intItems_at hv
  obtain ⟨h1, h2⟩ := argBest_lt (numAt xs) (xs.size - 1)
  refine h h' tk _ t' hk ?_ fun a ha => ?_
  · rw [numAt_eq]; exact PySem.getD_mem (by rw [List.length_map, Array.length_toList]; omega)
  · obtain ⟨j, hj, rfl⟩ := mem_getD ha
    rw [List.length_map, Array.length_toList] at hj
    rw [← numAt_eq]; exact h2 j (by omega)
end
section
variable {X : Cx}
def rMaxT (K : Frag) : List V → Hp → VK → Prop := fun vs H Q => ∃ (a : Addr) (ns : List Int), vs = [V.ref a] ∧ SqT K H a (ns.map V.int) ∧ 0 < ns.length ∧ ∀ m, m ∈ ns → (∀ y, y ∈ ns → y ≤ m) → Q (.int m) H
def rMinT (K : Frag) : List V → Hp → VK → Prop := fun vs H Q => ∃ (a : Addr) (ns : List Int), vs = [V.ref a] ∧ SqT K H a (ns.map V.int) ∧ 0 < ns.length ∧ ∀ m, m ∈ ns → (∀ y, y ∈ ns → m ≤ y) → Q (.int m) H
theorem cr_maxT (hc : X.calm = true) : CallR X (.builtin "max") (rMaxT X.K) := by
  intro pins s σ H vs us Q I r ⟨a, ns, ex, hs, hne, q⟩
  subst ex
  obtain ⟨u, rfl, rx⟩ := vals1 r
  cases (show u = Value.ref a from rx)
  obtain ⟨its, rv, ⟨o, ho, hcl, n, hd⟩, _⟩ := I.tuple hs
  exact max_tup (I.ok.hd hc) ⟨o, ho, hcl, n, hd⟩ rv.ints hne fun h' tk m t' hk h1 h2 => ⟨.int _, H, I.kept hk, ⟨_, rfl⟩, q m h1 h2⟩
theorem cr_minT (hc : X.calm = true) : CallR X (.builtin "min") (rMinT X.K) := by
  intro pins s σ H vs us Q I r ⟨a, ns, ex, hs, hne, q⟩
  subst ex
  obtain ⟨u, rfl, rx⟩ := vals1 r
  cases (show u = Value.ref a from rx)
  obtain ⟨its, rv, ⟨o, ho, hcl, n, hd⟩, _⟩ := I.tuple hs
  exact min_tup (I.ok.hd hc) ⟨o, ho, hcl, n, hd⟩ rv.ints hne fun h' tk m t' hk h1 h2 => ⟨.int _, H, I.kept hk, ⟨_, rfl⟩, q m h1 h2⟩
def gMaxS : PyData → Option PyData
  | .tuple ds => (intsOf ds).bind fun ns => (topI ns).map .int
  | d => gMaxL d
def gMinS : PyData → Option PyData
  | .tuple ds => (intsOf ds).bind fun ns => (lowI ns).map .int
  | d => gMinL d
theorem cr_maxS (hc : X.calm = true) : CallR X (.builtin "max") (fun xs H Q => rMax X.K xs H Q ∨ rMaxT X.K xs H Q) := (cr_max hc).or (cr_maxT hc)
theorem cr_minS (hc : X.calm = true) : CallR X (.builtin "min") (fun xs H Q => rMin X.K xs H Q ∨ rMinT X.K xs H Q) := (cr_min hc).or (cr_minT hc)
theorem v1_maxS {K : Frag} : V1 K (fun v H Q => rMax K [v] H Q ∨ rMaxT K [v] H Q) gMaxS := fun H x a d Q e h => by
  cases a with
  | tuple ds =>
    obtain ⟨ns, e1, e2⟩ := Option.bind_eq_some_iff.mp e
    obtain ⟨m, e3, e4⟩ := Option.map_eq_some_iff.mp e2
    subst e4
    have q := endI h fun _ => RD.int m
    obtain ⟨O, hO, h1, _⟩ := h
    obtain ⟨p, vs, rfl, g1, g2⟩ := h1.tup
    obtain ⟨t1, t2⟩ := topI_is e3
    refine .inr ⟨p, ns, rfl, (by rw [← g2.toInts e1]; exact sameSqT hid_sub g1.sq), List.length_pos_of_mem t1, fun k k1 k2 => ?_⟩
    rw [show k = m from Int.le_antisymm (t2 k k1) (k2 m t1)]; exact q
  | _ =>
    refine .inl (v1_maxL H x _ d Q ?_ h)
    exact e
theorem v1_minS {K : Frag} : V1 K (fun v H Q => rMin K [v] H Q ∨ rMinT K [v] H Q) gMinS := fun H x a d Q e h => by
  cases a with
  | tuple ds =>
    obtain ⟨ns, e1, e2⟩ := Option.bind_eq_some_iff.mp e
    obtain ⟨m, e3, e4⟩ := Option.map_eq_some_iff.mp e2
    subst e4
    have q := endI h fun _ => RD.int m
    obtain ⟨O, hO, h1, _⟩ := h
    obtain ⟨p, vs, rfl, g1, g2⟩ := h1.tup
    obtain ⟨t1, t2⟩ := lowI_is e3
    refine .inr ⟨p, ns, rfl, (by rw [← g2.toInts e1]; exact sameSqT hid_sub g1.sq), List.length_pos_of_mem t1, fun k k1 k2 => ?_⟩
    rw [show k = m from Int.le_antisymm (k2 m t1) (t2 k k1)]; exact q
  | _ =>
    refine .inl (v1_minL H x _ d Q ?_ h)
    exact e
end
end Pv

namespace Pv
open PySem PySem.Spec PyProof.Rows L2
/-! ### sorted(t) of a tuple, sorted(d) of a dict -/
section
variable {prog : Program} {w : World} {A : Around} {E : Value → Shared → Prop} {s : Shared}
theorem collect_tup {l : Addr} {vs : List Value} {R : List Value → Shared → Prop} (hl : s.heap.IsTuple l vs.toArray) (hz : vs.length ≤ sizeLine)
    (h : ∀ h' tk, s.heap.objs.size ≤ h'.objs.size → (∀ b o, s.heap.get? b = some o → h'.get? b = some o) → R vs { s with heap := h', toks := tk }) : wpAny (model prog w) A (collect (.ref l)) R E s := by
  obtain ⟨o, ho, hc, n, hd⟩ := id hl
  have keep : ∀ b ob, s.heap.get? b = some ob → ((s.heap.push (seqObj "list" #[] 0)).update s.heap.objs.size (Obj.mapSeq (· ++ vs.toArray))).get? b = some ob := fun b ob e => by
    rw [Heap.get?_update_ne _ _ _ _ (Nat.ne_of_lt (Heap.lt_size e))]
    exact Heap.get?_push_of_some _ e
  unfold collect
  refine wpAny_bind (wpAny_runValue (codeAny_builtin entry_proto_collect' ?_))
  show wpAny _ _ (do again (.builtin "list.__iadd__" ⟨[← newList [], .ref l], []⟩)) _ _ s
  refine wpAny_bind (wpAny_newList (wpAny_pure ⟨Code.quiet_builtin _ (by decide +kernel), codeAny_builtin entry_list_iadd' ?_⟩))
  show wpAny _ _ (Builtin.List.listExtendWith (.ref s.heap.objs.size) (.ref l) (.ref s.heap.objs.size)) _ _ { s with heap := s.heap.push (seqObj "list" #[] 0) }
  unfold Builtin.List.listExtendWith
  have ho' : (s.heap.push (seqObj "list" #[] 0)).get? l = some o := Heap.get?_push_of_some _ ho
  refine wpAny_bind (wpAny_typeOf (T := "tuple") ⟨o, ho', hc⟩ ?_)
  have ht : (Value.type "tuple" == Value.type "tuple") = true := by rfl
  rw [if_pos (by rw [ht]; simp)]
  refine wpAny_bind (listItems_at ho' hd (wpAny_bind (listItems_at (xs := #[]) (n := 0) (Heap.get?_push_size _ rfl) rfl ?_)))
  rw [if_neg (by simp)]
  refine wpAny_bind (listUpdate_at (xs := #[]) (n := 0) (Heap.get?_push_size _ rfl) rfl (wpAny_pure ?_) (Nat.zero_le _) (by show (#[] ++ vs.toArray).size ≤ sizeLine + 1; simp only [Array.size_append, List.size_toArray, List.length_nil]; omega))
  show wpAny (model prog w) A (do
      let o ← load s.heap.objs.size
      match o.data with
      | .seq xs _ => pure xs.toList
      | _ => unsupported "internal:collect") R E { s with heap := (s.heap.push (seqObj "list" #[] 0)).update s.heap.objs.size (Obj.mapSeq (· ++ vs.toArray)) }
  refine wpAny_bind (wpAny_load (get?_update_seq (Heap.get?_push_size _ rfl) _) ?_)
  show wpAny _ _ (pure ((#[] : Array Value) ++ vs.toArray).toList) R E _
  rw [show ((#[] : Array Value) ++ vs.toArray).toList = vs by simp]
  exact wpAny_pure (h _ s.toks (by rw [Heap.size_update, size_push']; exact Nat.le_succ _) keep)
theorem collect_kdl {T : String} {r d : Addr} {n : Nat} {P : Nat → Value → Prop} {OK : Heap → Prop} {R : List Value → Shared → Prop} (K : PySem.W.KdlSrc prog w T r d n P OK) (hh : A.handled = none) (hok : OK s.heap) (hn : n ≤ sizeLine)
    (h : ∀ h' tk acc, (∀ b o, s.heap.get? b = some o → h'.get? b = some o) → ItemsOf P acc n → R acc.toList { s with heap := h', toks := tk }) : wpAny (model prog w) A (collect (.ref r)) R E s := by
  have hlt := K.there _ hok
  unfold collect
  refine wpAny_bind (wpAny_runValue (codeAny_builtin entry_proto_collect' ?_))
  rw [Around.under_plainId PySem.F.plain_proto_collect _]
  show wpAny _ A.in1 (newList [] >>= fun l => again (.builtin "list.__iadd__" ⟨[l, .ref r], []⟩)) _ _ s
  refine wpAny_bind (wpAny_newObj_type (wpAny_pure ⟨plainId_quiet PySem.F.plain_list_iadd _, codeAny_builtin entry_list_iadd' ?_⟩))
  rw [Around.under_plainId PySem.F.plain_list_iadd _]
  have hS₁ : (s.heap.push { cls := .type "list", data := .seq ([] : List Value).toArray }).get? s.heap.objs.size = some { cls := .type "list", data := .seq #[] } := Heap.get?_push_size _ rfl
  show wpAny _ A.in1 (Builtin.List.listExtendWith (.ref s.heap.objs.size) (.ref r) (.ref s.heap.objs.size)) _ _ _
  have key := PySem.W.kdl_extend (prog := prog) (w := w) (A := A) (s := { s with heap := s.heap.push { cls := .type "list", data := .seq ([] : List Value).toArray } })
    (R := fun (q : Result) (s' : Shared) => ∃ (h' : Heap) (tk : Nat) (acc' : Array Value) (c' : Nat), q = .ok (.ret (.ref s.heap.objs.size)) ∧ s' = { s with heap := h', toks := tk } ∧
      (∀ b o, s.heap.get? b = some o → h'.get? b = some o) ∧ h'.get? s.heap.objs.size = some { cls := .type "list", dict := none, data := .seq acc' c', slots := #[] } ∧ ItemsOf P acc' n)
    K hh (K.keep _ _ hok fun b _ o e => Heap.get?_push_of_some _ e) s.heap.objs.size (Nat.ne_of_gt hlt.1) (Nat.ne_of_gt hlt.2) (.ref s.heap.objs.size) 0 hS₁
    (fun h' tk acc' c' hk hS' hacc => ⟨h', tk, acc', c', rfl, rfl, fun b o e => hk b o (Nat.ne_of_lt (Heap.lt_size e)) (Heap.get?_push_of_some _ e), hS', hacc⟩) hn
  have fin : ∀ (q : Result) (s' : Shared), (∃ (h' : Heap) (tk : Nat) (acc' : Array Value) (c' : Nat), q = .ok (.ret (.ref s.heap.objs.size)) ∧ s' = { s with heap := h', toks := tk } ∧
      (∀ b o, s.heap.get? b = some o → h'.get? b = some o) ∧ h'.get? s.heap.objs.size = some { cls := .type "list", dict := none, data := .seq acc' c', slots := #[] } ∧ ItemsOf P acc' n) → ∃ f, q = .ok f ∧ ∃ h' tk acc' c', f = .ret (.ref s.heap.objs.size) ∧ s' = { s with heap := h', toks := tk } ∧ h'.get? s.heap.objs.size = some { cls := .type "list", dict := none, data := .seq acc' c', slots := #[] } ∧ R acc'.toList s' := fun q s' ⟨h', tk, acc', c', e1, e2, hk, hS', hacc⟩ => ⟨_, e1, h', tk, acc', c', rfl, e2, hS', by rw [e2]; exact h h' tk acc' hk hacc⟩
  refine wpAny_mono key (fun f s' x => ?_) fun e s' x => ?_
  · cases f with
    | done f =>
      obtain ⟨f2, e2, h', tk, acc', c', e3, e4, hS', hr⟩ := fin _ _ x
      cases e2
      subst e3 e4
      exact wpAny_bind (wpAny_load hS' (wpAny_pure hr))
    | again c₁ =>
      refine ⟨x.1, codeAny_mono x.2 fun q s₂ y => ?_⟩
      obtain ⟨f2, e2, h', tk, acc', c', e3, e4, hS', hr⟩ := fin _ _ y
      subst e2 e3 e4
      exact wpAny_bind (wpAny_load hS' (wpAny_pure hr))
  · obtain ⟨_, _, _, _, e', _⟩ := x
    cases e'
/-- sorted(x), by what x's items are -/
theorem sorted_gen {G : List Value → Prop} {x : Value} {vs : List Value} {Q : Value → Shared → Prop} (hz : vs.length ≤ sizeLine) (hcol : ∀ (E : Value → Shared → Prop) (R : List Value → Shared → Prop), (∀ h' tk, s.heap.objs.size ≤ h'.objs.size → (∀ b o, s.heap.get? b = some o → h'.get? b = some o) → R vs { s with heap := h', toks := tk }) → wpAny (model prog w) A.in1 (collect x) R E s)
    (hS : ∀ h' tk, (∀ b o, s.heap.get? b = some o → h'.get? b = some o) → ∃ κ, PySem.W.SortsAt prog w A.in1.in1 { s with heap := h', toks := tk } κ vs ∧ G (PySem.W.sortVals κ false vs vs))
    (h : ∀ h' tk a out c, (∀ b o, s.heap.get? b = some o → h'.get? b = some o) → s.heap.objs.size ≤ a → G out → h'.get? a = some (seqObj "list" out.toArray c) → Q (.ref a) { s with heap := h', toks := tk }) : wpAny (model prog w) A (call (.builtin "sorted") [x]) Q E s := by
  refine Calls.call_function_entry kind_sorted plain_sorted entry_sorted (args_sorted1 _) ?_
  unfold Builtin.«sorted»
  refine wpAny_bind (m := checkCount "sorted" 1 1 _) (wpAny_pure (wpAny_bind (hcol _ _ fun h' tk hle hk => wpAny_bind (wpAny_newList ?_ hz))))
  have at1 : (h'.push (seqObj "list" vs.toArray 0)).get? h'.objs.size = some (seqObj "list" vs.toArray 0) := Heap.get?_push_size _ rfl
  have k1 : ∀ b o, s.heap.get? b = some o → (PySem.W.sortingHeap (h'.push (seqObj "list" vs.toArray 0)) h'.objs.size vs).get? b = some o := fun b o e =>
    PySem.W.sortingHeap_old (Nat.ne_of_lt (Heap.lt_size (hk b o e))) (Heap.get?_push_of_some _ (hk b o e))
  obtain ⟨κ, S, g⟩ := hS _ tk k1
  have k2 : ∀ b o, s.heap.get? b = some o → (sortedHeap (h'.push (seqObj "list" vs.toArray 0)) h'.objs.size vs (PySem.W.sortVals κ false vs vs).toArray).get? b = some o := fun b o e => by
    have z := Heap.lt_size (hk b o e)
    rw [sortedHeap_old (Nat.ne_of_lt z) (by rw [size_push']; exact Nat.lt_succ_of_lt z)]
    exact Heap.get?_push_of_some _ (hk b o e)
  obtain ⟨c, hc⟩ := sortedHeap_at (vs := vs) (out := (PySem.W.sortVals κ false vs vs).toArray) at1
  refine wpAny_bind (wpAny_holding (wpAny_call_entry_kw slot_list_sort ⟨_, at1, rfl⟩ entry_list_sort ?_ (args_list_sort _)))
  refine wpAny_mono (PySem.W.list_sort_vals (P := fun f s' => f = .done (.ret .none) ∧ Q (.ref h'.objs.size) s') at1 S hz ⟨rfl, h _ tk _ _ c k2 hle g hc⟩) (fun f s' hf => ?_) fun _ _ e => e
  obtain ⟨rfl, hq⟩ := hf
  exact ⟨_, rfl, wpAny_pure ⟨_, rfl, hq⟩⟩
end
section
variable {X : Cx}
/-- sorted(t), t's items alike -/
def rSortT (K : Frag) : List V → Hp → VK → Prop := fun xs H Q => ∃ Hs p vs ds, Same Hs H ∧ xs = [.ref p] ∧ SqT K H p vs ∧ RDs K Hs vs ds ∧ sOK ds = true ∧ ∀ q ws, H q = none → RDs K Hs ws (sortD ds) → Q (.ref q) (upd H q (.lst ws))
theorem cr_sortT (hu : X.A.units + 64 < cLine) : CallR X (.builtin "sorted") (rSortT X.K) := by
  intro pins s σ H xs us Q I r ⟨Hs, p, vs, ds, sb, ex, hp, rd, ok, q⟩
  subst ex
  obtain ⟨u, rfl, rx⟩ := vals1 r
  cases (show u = Value.ref p from rx)
  obtain ⟨its, rv, pt, hz⟩ := I.tuple hp
  obtain ⟨o1, o2, o3, o4⟩ := sOK_ok ok
  have e := rvd_of rv rd
  have em : ds.map id = ds := List.map_id _
  have hz' : its.length ≤ sizeLine := by rw [← rv.length]; exact hz
  refine sorted_gen (G := fun out => out.length = ds.length ∧ PySem.W.EachIs (RVD X.K Hs) out (ds.mergeSort (PySem.W.dataLe false id))) hz' (fun E R k => collect_tup pt hz' fun h' tk a b => k h' tk a b) (fun h' tk hk => ?_) fun h' tk a out c hk ha g hc => ?_
  · have er := rvd_reads I sb o3 e
    have er' : PySem.W.EachIs (fun v d => ∃ as, Reads h' v (id d) as) its ds := er.mono fun _ _ ⟨as, z⟩ => ⟨as, PyProof.Rows.Reads.keeps hk z⟩
    have e2 := PySem.W.each_map (R := fun v d => ∃ as, Reads h' v d as) id er'
    rw [em] at e2
    have hl : its.length = ds.length := e.length
    refine ⟨_, PySem.W.SortsAt.data (s := { s with heap := h', toks := tk }) e2 o1 o2 fun b hb => ?_, (PySem.W.sortVals_length false rfl).trans hl, ?_⟩
    · have := (okD_ok _ _ (o3 b hb)).2
      show X.A.units + 2 + b.depth < cLine
      omega
    · have z := PySem.W.sortVals_data (h' := h') (enc := id) false e er' (by rw [em]; exact o1)
      rw [em] at z
      exact z
  · obtain ⟨ws, w1, w2⟩ := of_rvd g.2
    have hlen : ws.length ≤ sizeLine := by rw [w1.length, g.1]; exact lim_line o4
    have hn : H a = none := I.hok.fresh ha
    exact ⟨.ref a, _, I.laid (t' := tk) (o := .lst ws) hk ha ⟨hlen, out, c, w1, hc⟩, rfl, q _ _ hn (by rw [sortD_ms]; exact w2)⟩
def gSort3 : PyData → Option (List PyData)
  | .tuple ds => if sOK ds = true then some (sortD ds) else none
  | d => gSort2 d
def rSort3 (K : Frag) : List V → Hp → VK → Prop := fun xs H Q => rSort2 K xs H Q ∨ rSortT K xs H Q
theorem cr_sort3 (hu : X.A.units + 64 < cLine) : CallR X (.builtin "sorted") (rSort3 X.K) := (cr_sort2 hu).or (cr_sortT hu)
theorem w1_sort3 {K : Frag} : W1 K (fun v => rSort3 K [v]) gSort3 := fun H x a d Q e h => by
  cases a with
  | tuple ds =>
    simp only [gSort3] at e
    split at e
    · rename_i c
      cases e
      obtain ⟨O, hO, h1, q⟩ := h
      obtain ⟨p, vs, rfl, g1, g2⟩ := h1.tup
      exact .inr ⟨_, p, vs, ds, hid_sub, rfl, sameSqT hid_sub g1.sq, g2, c, fun t ws ht rw' => q t ws ht rw'⟩
    · cases e
  | _ =>
    refine .inl (w1_sort2 H x _ d Q ?_ h)
    exact e
theorem sOK_ints {ns : List Int} (h : ns.length ≤ LIM) : sOK (ns.map PyData.int) = true := by
  unfold sOK
  simp only [Bool.and_eq_true, Bool.or_eq_true, List.all_eq_true, decide_eq_true_eq, List.length_map]
  refine ⟨⟨⟨fun d hd e he => ?_, .inr fun d hd => ?_⟩, fun d hd => ?_⟩, h⟩
  · obtain ⟨a, _, rfl⟩ := List.mem_map.mp hd
    obtain ⟨b, _, rfl⟩ := List.mem_map.mp he
    simp [PySem.W.alike]
  · obtain ⟨a, _, rfl⟩ := List.mem_map.mp hd
    rfl
  · obtain ⟨a, _, rfl⟩ := List.mem_map.mp hd
    rfl
theorem sortD_ints (ns : List Int) : sortD (ns.map PyData.int) = (sortI ns).map .int := by
  rw [sortD_ms]
  have hle : PySem.W.dataLe false (id : PyData → PyData) = PySem.W.dataLe false id := rfl
  have e1 : (ns.mergeSort (PySem.W.dataLe false PyData.int)).map PyData.int = (ns.map PyData.int).mergeSort (PySem.W.dataLe false id) :=
    List.map_mergeSort (fun a _ b _ => rfl)
  rw [← e1, show PySem.W.dataLe false PyData.int = (fun a b : Int => decide (a ≤ b)) from PySem.W.dataLe_int id]
  congr 1
  refine asc_unique ((List.mergeSort_perm _ _).trans (sortI_perm ns).symm) ?_ (sortI_asc ns)
  have z := List.pairwise_mergeSort (le := fun a b : Int => decide (a ≤ b)) (fun a b c h1 h2 => by simp only [decide_eq_true_eq] at *; omega) (fun a b => by simp only [Bool.or_eq_true, decide_eq_true_eq]; omega) ns
  exact z.imp fun h => by simpa using h
theorem gSort3_ints {ns : List Int} (h : ns.length ≤ LIM) : gSort3 (.tuple (ns.map .int)) = some ((sortI ns).map .int) := by
  show (if sOK (ns.map PyData.int) = true then some (sortD (ns.map PyData.int)) else none) = _
  rw [if_pos (sOK_ints h), sortD_ints]
end
end Pv

namespace Pv
open PySem PySem.Spec PyProof.Rows L2
/-! ### a, b = x, y where one of the names is kept in a cell: stored from the left -/
section
variable {X : Cx}
theorem ps_parC {i j : Nat} {x y : Str} {a b : Expr} {ta : TA} {px py pt pos : Pos} {kt k2 pt2} (hc : X.calm = true) (hN : X.N.Nodup) (hi : X.N[i]? = some x) (hj : X.N[j]? = some y)
    (hx : Loc X.env.scope x) (hy : Loc X.env.scope y) (fx : X.fn x = true ∨ X.env.scope.names.lookup x = some .local) (fy : X.fn y = true ∨ X.env.scope.names.lookup y = some .local) (ha : PA X [a, b] ta)
    (hw : swappedStores [.Tuple [.Name x px, .Name y py] kt pt] (.Tuple [a, b] k2 pt2) X.env = pure none)
    (hs : swapsWithSole [.Tuple [.Name x px, .Name y py] kt pt] (.Tuple [a, b] k2 pt2) pos.line X.env = pure false)
    (h1 : (assignEach [.Tuple [.Name x px, .Name y py] kt pt] X.env).map (·.2) = [assign (.Tuple [.Name x px, .Name y py] kt pt) X.env])
    (h2 : (assignEach [.Name x px, .Name y py] X.env).length = 2) (h3 : (assignEach [.Name x px, .Name y py] X.env).findIdx? (·.1) = none)
    (h4 : (assignEach (.Name x px :: [.Name y py]) X.env).map (·.2) = assign (.Name x px) X.env :: (assignEach [.Name y py] X.env).map (·.2)) (h5 : (assignEach (.Name y py :: []) X.env).map (·.2) = assign (.Name y py) X.env :: (assignEach [] X.env).map (·.2)) :
    PS X (.Assign [.Tuple [.Name x px, .Name y py] kt pt] (.Tuple [a, b] k2 pt2) pos) (tPar i j ta) := by
  refine ⟨fun pins s σ H D I h => ?_⟩
  refine wpAny_Assign_stores (Tuple_ (thn (ha.run _ pins s σ H _ I h) fun us s1 ⟨vs, H1, I1, r1, q1⟩ => ?_)) hs hw
  obtain ⟨v, w, e1, q1⟩ := q1
  subst e1
  obtain ⟨u1, u2, rfl, rv, rw'⟩ : ∃ u1 u2, us = [u1, u2] ∧ RelV v u1 ∧ RelV w u2 := by
    cases r1 with
    | cons p q =>
      cases q with
      | cons p' q' =>
        cases q'
        exact ⟨_, _, rfl, p, p'⟩
  refine wpAny_newObj_type ?_ (by show 2 ≤ sizeLine; decide)
  have I2 : Inv X pins σ H1 { s1 with heap := s1.heap.push { cls := .type "tuple", data := .seq [u1, u2].toArray } } := I1.kept (t' := s1.toks) fun b o e => Heap.get?_push_of_some _ e
  rw [h1]
  refine assign_Tuple_tuple (items := #[u1, u2]) (I2.ok.hd hc) (IsTup.new s1.heap _) h2.symm h3 fun h' hx' => ?_
  have I3 := I2.kept (h' := h') (t' := s1.toks) fun b o e => hx' b o (Nat.ne_of_lt (Heap.lt_size e)) e
  exact thn ((pgs_cons (pg_name hN hi hx fx) (pgs_cons (pg_name hN hj hy fy) pgs_nil h5) h4).run pins _ σ H1 [v, w] _ (fun σ' H' => D.nx σ' H') I3 (.cons rv (.cons rw' .nil)) ⟨v, [w], rfl, ⟨w, [], rfl, rfl, q1⟩⟩) fun _ s2 q => q
theorem k_parC {i j : Nat} {x y : Str} {a b : Expr} {f g : FO} {px py pt pos : Pos} {kt k2 pt2} (hc : X.calm = true) (hN : X.N.Nodup) (hx : Loc X.env.scope x) (hy : Loc X.env.scope y) (ha : PE X a (TOv X.K f)) (hb : PE X b (TOv X.K g))
    (hw : swappedStores [.Tuple [.Name x px, .Name y py] kt pt] (.Tuple [a, b] k2 pt2) X.env = pure none)
    (hi : X.N[i]? = some x := by rfl) (hj : X.N[j]? = some y := by rfl) (hij : i ≠ j := by decide)
    (fx : X.fn x = true ∨ X.env.scope.names.lookup x = some .local := by first | exact .inl rfl | exact .inr rfl | assumption) (fy : X.fn y = true ∨ X.env.scope.names.lookup y = some .local := by first | exact .inl rfl | exact .inr rfl | assumption)
    (hs : swapsWithSole [.Tuple [.Name x px, .Name y py] kt pt] (.Tuple [a, b] k2 pt2) pos.line X.env = pure false := by rfl)
    (s1 : starEach [a, b] X.env = (false, eval a X.env) :: starEach [b] X.env := by rfl) (s2 : starEach [b] X.env = [(false, eval b X.env)] := by rfl)
    (h1 : (assignEach [.Tuple [.Name x px, .Name y py] kt pt] X.env).map (·.2) = [assign (.Tuple [.Name x px, .Name y py] kt pt) X.env] := by rfl)
    (h2 : (assignEach [.Name x px, .Name y py] X.env).length = 2 := by rfl) (h3 : (assignEach [.Name x px, .Name y py] X.env).findIdx? (·.1) = none := by rfl)
    (h4 : (assignEach (.Name x px :: [.Name y py]) X.env).map (·.2) = assign (.Name x px) X.env :: (assignEach [.Name y py] X.env).map (·.2) := by rfl) (h5 : (assignEach (.Name y py :: []) X.env).map (·.2) = assign (.Name y py) X.env :: (assignEach [] X.env).map (·.2) := by rfl) :
    PS X (.Assign [.Tuple [.Name x px, .Name y py] kt pt] (.Tuple [a, b] k2 pt2) pos) (TSv X.K (sPar i j f g)) :=
  (ps_parC hc hN hi hj hx hy fx fy (pa_two ha hb s1 s2) hw hs h1 h2 h3 h4 h5).wk fun D σ H ⟨Z, L, st, o, st', I, e, q⟩ => by
    obtain ⟨⟨m1, t1⟩, e1, e⟩ := Option.bind_eq_some_iff.mp e
    obtain ⟨⟨m2, t2⟩, e2, e⟩ := Option.bind_eq_some_iff.mp e
    obtain ⟨t3, e3, e⟩ := Option.bind_eq_some_iff.mp e
    obtain ⟨t4, e4, e⟩ := Option.bind_eq_some_iff.mp e
    cases e
    obtain ⟨o3, rfl⟩ := putS_some e3
    obtain ⟨o4, rfl⟩ := putS_some e4
    refine ⟨Z, L, st, m1, t1, I, e1, fun v H1 L1 T1 I1 S1 rm1 => ?_⟩
    refine ⟨Z.plusL T1, L1, t1, m2, t2, I1.holdL, e2, fun w H2 L2 T2 I2 S2 rm2 => ⟨v, w, rfl, ?_⟩⟩
    have I3 := I2.put o3 rm2
    have S3 : Step (Own L1 []) H1 (Own (upL L2 j T2) []) H2 := S2.put j
    have I4 := I1.give rm1 I3 S3 o4
    rw [List.set_comm _ _ hij]
    exact q _ H2 _ I4 (S1.give S3 i)
/-- (a, b, ..) = a tuple or a list of that length -/
def gTp2 (n : Nat) (g : FGs) : FG := fun d st => match d with
  | .list ds => if ds.length = n then g ds st else none
  | d => gTp n g d st
theorem k_gtp2 {es : List Expr} {k n : Nat} {pos : Pos} {g : FGs} (hc : X.calm = true) (h : PGs X es (TGsv X.K g)) (hn : (assignEach es X.env).length = n := by rfl) (hst : (assignEach es X.env).findIdx? (·.1) = none := by rfl) : PG X (.Tuple es k pos) (TGv X.K (gTp2 n g)) := by
  refine ⟨fun pins s σ H v u Q I0 r ⟨Z, L, st, d, st', I, rd, e, q⟩ => ?_⟩
  cases d with
  | list ds =>
    simp only [gTp2] at e
    split at e
    · rename_i c
      refine (pg_unl hc h hn hst).run pins s σ H v u Q I0 r ?_
      obtain ⟨p, vs, e1, g1, g2⟩ := show ∃ p vs, v = V.ref p ∧ Lp X.K (hid H (Hid Z L [])) p vs ∧ RDs X.K (hid H (Hid Z L [])) vs ds from by
        cases rd with
        | lst a r => exact ⟨_, _, rfl, a, r⟩
      exact ⟨p, vs, e1, (g1.up hid_sub).sq, by rw [g2.len]; exact c, Z, L, st, ds, st', I, g2, e, q⟩
    · cases e
  | _ => exact (k_gtp hc h hn hst).run pins s σ H v u Q I0 r ⟨Z, L, st, _, st', I, rd, e, q⟩
end
end Pv

namespace Pv
open PySem PySem.Spec PyProof.Rows L2
/-! ### {k: v for ..}, keys of every kind that a dict here may have -/
section
variable {X : Cx} {pins : List (Addr × Obj)} {σ : L2.St} {H Hs : Hp} {s : Shared} {a : Addr}
theorem d_put2 {E : Value → Shared → Prop} {Q : Unit → Shared → Prop} (hu : X.A.units + 64 < cLine) (I : Inv X pins σ H s) (sb : Same Hs H) {kvs : List (PyData × PyData)} (D : OwnD X.K Hs H a kvs) {y v : V} {u w' : Value} {dk d : PyData} (rk : RD X.K Hs y dk) (ry : RelV y u)
    (ok : dOK kvs dk = true) (rd : RD X.K Hs v d) (rv : RelV v w') (hl : kvs.length < LIM) (h : ∀ s' ob, OwnD X.K Hs (upd H a ob) a (dPut kvs dk d) → Inv X pins σ (upd H a ob) s' → Q () s') : wpAny (model X.prog X.w) X.A (dictSet a u w') Q E s := by
  rcases dct_case I sb D.at rk ry ok with ⟨ks, k, hk, r, e1, e2⟩ | ⟨b, k, xs, us, e1, e2, e3, e4, is, hd, dd, u1, r, hz⟩
  · subst e1 e2
    exact d_dictSet I (rd_own hk D.mut) (by rw [r.len]; exact lim_lt (Nat.le_of_lt hl)) ry rv fun s' I' => h s' _ (.inl ⟨_, upd_same, r.put k rd⟩) I'
  · subst e1 e2
    have room : (nestedKind X.prog X.w).room X.A := by
      show X.A.units + 8 < cLine
      omega
    refine wpAny_dictSet_heap (hsz := by rw [← Paired.length u1]; exact hz) room is dd fun h' dd' hs => ?_
    have r' := r.put e3 e4 rk rd
    have len' : (putX xs k b v).length ≤ sizeLine := by
      rw [r'.len]
      have := dPut_len kvs dk d
      exact lim_line (by omega)
    obtain ⟨o, good, there⟩ := dn_of I sb r' (u1.put k b rv) hd len' dd'
    exact h _ (DN a o (putX xs k b v)) (.inr ⟨o, _, upd_same, dPut_ne _ _ _, r'⟩) (d_write I D.mut hs ⟨o, there⟩ (dn_new good))
end
/-- in the block of a comprehension -/
abbrev InBlk (X : Cx) (sc : Scope) (P : Cx → Prop) : Prop := ∀ (s : Shared) (H : Hp) (C : Addr) (cl : List (Str × Addr)) (fp : List Addr), P (X.blk s H sc (compEnvC sc cl C X.env) fp)
/-- what a turn that passes does -/
def turnD (K : Frag) (tk tv : TE) (D : Addr) (Nx : Hp → Prop) (σ : L2.St) (H : Hp) : Prop :=
  tk σ H fun y H1 => tv σ H1 fun z H2 => ∃ Hs kvs dk d, Same Hs H2 ∧ OwnD K Hs H2 D kvs ∧ RD K Hs y dk ∧ dOK kvs dk = true ∧ RD K Hs z d ∧ kvs.length < LIM ∧ ∀ ob, OwnD K Hs (upd H2 D ob) D (dPut kvs dk d) → Nx (upd H2 D ob)
def turnsD (K : Frag) (J : It) (g : TG) (tt : TT) (tk tv : TE) (vs : List Nat) (σ : L2.St) (D : Addr) (Qd : Hp → Prop) (W : Nat → Nat → Hp → Prop) : Prop := ∀ i m H, W i m H → (J.stop i H ∧ Qd H) ∨ (J.go i H ∧ ∃ Nx : Hp → Prop, (∀ H', Nx H' → ∃ m', m' < m ∧ W (i + 1) m' H') ∧
  ∀ x H', J.yld i H x H' → g x (wipe σ vs) H' fun σ2 H2 => wipe σ2 vs = wipe σ vs ∧ tt σ2 H2 fun b H3 => if b = true then turnD K tk tv D Nx σ2 H3 else Nx H3)
def tDcG (K : Frag) (wi : TI) (g : TG) (tt : TT) (tk tv : TE) (vs : List Nat) : TE := fun σ H Q => wi σ H fun J H1 => ∀ D, H1 D = none → ∃ W : Nat → Nat → Hp → Prop, (∃ m, W 0 m (upd H1 D (.dK []))) ∧ turnsD K J g tt tk tv vs σ D (fun H => Q (.ref D) H) W
/-- the block of {k: v for target in iter if ..}: each turn puts one into the new dict -/
theorem dcg_loop {X : Cx} {kx vx tg iter : Expr} {ifs : List Expr} {scope : Scope} {own : List (Str × Nat)} {pos : Pos} {g : TG} {tt : TT} {tk tv : TE} (hu : X.A.units + 64 < cLine) (hc : X.calm = true)
    (Bg : InBlk X scope fun B => PG B tg g) (Bt : InBlk X scope fun B => PTs B ifs tt) (Bk : InBlk X scope fun B => PE B kx tk) (Bv : InBlk X scope fun B => PE B vx tv)
    {σ : L2.St} {H0 : Hp} {s0 s1 : Shared} {C D it : Addr} {cl : List (Str × Addr)} {fp : List Addr} {tn : Nat → Heap → Prop} {J : It} {Qd : Hp → Prop} {W : Nat → Nat → Hp → Prop} {R : Result → Shared → Prop}
    (T : Turn X.prog X.w X.K tg J fp it tn) (start : ∃ m, W 0 m H0) (turn : turnsD X.K J g tt tk tv (own.map (·.2)) σ D Qd W)
    (I1 : Inv (X.blk s0 H0 scope (compEnvC scope cl C X.env) fp) [] (wipe σ (own.map (·.2))) H0 s1) (t1 : tn 0 s1.heap) (clear : ∀ b ∈ fp, H0 b = none)
    (done : ∀ s2 H2, Inv (X.blk s0 H0 scope (compEnvC scope cl C X.env) fp) [] (wipe σ (own.map (·.2))) H2 s2 → Qd H2 → R (.ok .next) s2) :
    codeAny (model X.prog X.w) X.A (.compLoop (.DictComp kx vx [⟨tg, iter, ifs, 0⟩] scope pos) 0 (.ref it) (.ref D) (compEnvC scope cl C X.env)) R s1 := by
  have bg := Bg s0 H0 C cl fp
  have bt := Bt s0 H0 C cl fp
  have bk := Bk s0 H0 C cl fp
  have bv := Bv s0 H0 C cl fp
  generalize hB : X.blk s0 H0 scope (compEnvC scope cl C X.env) fp = B at *
  have eP : B.prog = X.prog := by rw [← hB]
  have eW : B.w = X.w := by rw [← hB]
  have eK : B.K = X.K := by rw [← hB]
  have eA : B.A = X.A := by rw [← hB]
  have eX : B.xe = fun _ _ => False := by rw [← hB]
  have eC : B.calm = true := by rw [← hB]; exact hc
  have eE : B.env = compEnvC scope cl C X.env := by rw [← hB]
  have feet : ∀ {σ2 : L2.St} {H2 : Hp} {s2 : Shared}, Inv B [] σ2 H2 s2 → (∀ b ∈ fp, H2 b = none) → ∀ b ∈ fp, FpOk B [] H2 b := by
    subst hB
    intro σ2 H2 s2 I2 free b hb
    exact ⟨free b hb, (I2.ok.exf b hb).1, I2.ok.exfs b hb, .inl hb, fun x c e => (I2.ok.exf b hb).2 x c e, fun p hp => by cases hp⟩
  obtain ⟨m0, w0⟩ := start
  rw [← eP, ← eW, ← eK] at T
  rw [← eP, ← eW, ← eA, ← eE]
  rw [← eA] at hu
  rw [← eK] at turn
  refine compLoop_anyD (fun n s' => ∃ i H', Inv B [] (wipe σ (own.map (·.2))) H' s' ∧ tn i s'.heap ∧ (∀ b ∈ fp, H' b = none) ∧ W i n H') (fun n sT hT => ?_) m0 ⟨0, H0, I1, t1, clear, w0⟩
  obtain ⟨i, HT, IT, tT, noT, wT⟩ := hT
  rcases turn i n HT wT with ⟨over, qd⟩ | ⟨more, Nx, nx, step⟩
  · refine thnF (T.done B rfl rfl rfl eC i [] sT _ HT (fun _ _ => False) IT (feet IT noT) tT over) fun r sN hN => ?_
    obtain ⟨rfl, IN⟩ := hN
    exact done sN HT IN qd
  · refine thnF (T.item B rfl rfl rfl eC i [] sT _ HT (fun _ _ => False) IT (feet IT noT) tT more) fun r sN hN => ?_
    obtain ⟨u, rfl, next⟩ := hN
    refine thnF next fun _ sV hV => ?_
    obtain ⟨x, HV, IV, ru, yl, tV, noV⟩ := hV
    have pinned := IV.pinned (feet IV noV) (T.obj _ _ tV)
    have run1 := bg.run _ sV _ HV x u _ pinned ru (step x HV yl)
    rw [eX] at run1
    refine thnF run1 fun _ sG hG => ?_
    obtain ⟨σG, HG, IG, same, tests⟩ := hG
    have run2 := bt.run _ sG σG HG _ IG tests
    rw [eX] at run2
    refine thnF run2 fun b sB hB' => ?_
    obtain ⟨HB, IB, rest⟩ := hB'
    have close : ∀ {s' : Shared} {H' : Hp}, Inv B ([] ++ pinsAt fp sV.heap) σG H' s' → Nx H' → ∃ m, m < n ∧ ∃ i H', Inv B [] (wipe σ (own.map (·.2))) H' s' ∧ tn i s'.heap ∧ (∀ b ∈ fp, H' b = none) ∧ W i m H' := fun {s' H'} I' good => by
      obtain ⟨m', lt, w'⟩ := nx H' good
      have stays : ∀ b ∈ fp, ∀ o, sV.heap.get? b = some o → s'.heap.get? b = some o ∧ H' b = none := fun b hb o e => by
        have z := I'.pin (b, o) (List.mem_append_right _ (List.mem_append_right _ (mem_pinsAt hb e)))
        exact ⟨z.1, z.2.1⟩
      have len : (wipe σ (own.map (·.2))).length = σG.length := by rw [← same, wipe_length]
      have back : Inv B [] (wipe σ (own.map (·.2))) H' s' := (I'.unpinned (pins := [])).weak len fun j v e => by
        rw [← same] at e
        exact (wipe_some e).1
      exact ⟨m', lt, i + 1, H', back, T.keep _ _ _ tV fun b hb o e => (stays b hb o e).1, fun b hb => (T.obj _ _ tV b hb).elim fun o e => (stays b hb o e.1).2, w'⟩
    cases b with
    | false =>
      rw [if_neg Bool.false_ne_true] at rest ⊢
      exact close IB rest
    | true =>
      rw [if_pos rfl] at rest ⊢
      have run3 := bk.run _ sB σG HB _ IB rest
      rw [eX] at run3
      refine thnF run3 fun kv sK hK => ?_
      obtain ⟨y, HK, IK, rk, rest2⟩ := hK
      have run4 := bv.run _ sK σG HK _ IK rest2
      rw [eX] at run4
      refine thnF run4 fun vv sW hW => ?_
      obtain ⟨z, HW, IW, rz, Hs, kvs, dk, d, sb, owned, ry, ok, rd, room, good⟩ := hW
      exact d_put2 hu IW sb owned ry rk ok rd rz room fun sE ob owned' IE => close IE (good ob owned')
theorem dcg_core {X : Cx} {pins : List (Addr × Obj)} {s : Shared} {σ : L2.St} {H : Hp} {Q : VK} {kx vx tg iter : Expr} {ifs : List Expr} {scope : Scope} {own : List (Str × Nat)} {pos pos' : Pos} {wi : TI} {g : TG} {tt : TT} {tk tv : TE} {use : Option (Value → Sem Unit)} {Qf : Value → Shared → Prop}
    (hu : X.A.units + 64 < cLine) (hc : X.calm = true) (hN : X.N.Nodup) (I : Inv X pins σ H s) (hi : PI X tg iter wi) (ok : BlkOk X.N X.env.scope scope own)
    (Bg : InBlk X scope fun B => PG B tg g) (Bt : InBlk X scope fun B => PTs B ifs tt) (Bk : InBlk X scope fun B => PE B kx tk) (Bv : InBlk X scope fun B => PE B vx tv) (hs : ∀ x, foldedSetIterable iter X.env x = pure x)
    (spec : tDcG X.K wi g tt tk tv (own.map (·.2)) σ H Q)
    (last : ∀ D C s' m H', Inv X pins σ H' s' → Q (.ref D) H' → s'.heap.Ns C m → FpOk X pins H' C → compPost (model X.prog X.w) X.A X.xe use Qf (.ref D) C (.ok .next) s') :
    wpAny (model X.prog X.w) X.A (comprehension (.DictComp kx vx [⟨tg, iter, ifs, 0⟩] scope pos) scope X.env pos' newDict false (eval iter X.env) use) Qf X.xe s := by
  have outer : ∀ y ∈ scope.names, y.2 = .free → ∃ c, X.env.cells.lookup y.1 = some c := fun y hy e => (ok.free y hy e).elim (fun z => I.ok.has _ (.inl z)) fun z => I.ok.has _ (.inr z)
  have itOk := hi.run pins s σ H _ I spec
  refine wpAny_comprehension_free (use := use) rfl hs (closure_ok outer) ok.kind (fun y hy e => (ok.uniq y hy).trans (congrArg some e)) (thn itOk fun xv sA hA => thn hA fun iv sI hI => ?_)
  obtain ⟨it, fp, tn, J, HI, rfl, II, T, tI, foot, rest⟩ := hI
  obtain ⟨D, hD⟩ : ∃ D, sI.heap.objs.size = D := ⟨_, rfl⟩
  have nD : HI D = none := II.hok.fresh (Nat.le_of_eq hD)
  obtain ⟨W, start, turn⟩ := rest D nD
  refine wpAny_newObj_type (newEnv_comp ?_)
  obtain ⟨sD, hsD⟩ : ∃ sD : Shared, ({ sI with heap := sI.heap.push { cls := .type "dict", data := .dict #[] } } : Shared) = sD := ⟨_, rfl⟩
  have heapD : sD.heap = sI.heap.push { cls := .type "dict", data := .dict #[] } := by rw [← hsD]
  have ID : Inv X pins σ (upd HI D (.dK [])) sD := by
    subst hsD hD
    exact II.laid (t' := sI.toks) (fun b o e => Heap.get?_push_of_some _ e) (Nat.le_refl _) (dk_empty sI.heap II.big)
  have lowFoot : ∀ b ∈ fp, b < D := fun b hb => by
    obtain ⟨o, e, _⟩ := T.obj _ _ tI b hb
    rw [← hD]
    exact Heap.lt_size e
  have footD : ∀ b ∈ fp, FpOk X pins (upd HI D (.dK [])) b ∧ b < sD.heap.objs.size := fun b hb => by
    have lt := lowFoot b hb
    have old := foot b hb
    refine ⟨⟨(upd_ne (Nat.ne_of_lt lt)).trans old.1, old.2⟩, ?_⟩
    rw [heapD, Heap.size_push, hD]
    exact Nat.lt_succ_of_lt lt
  have tD : tn 0 sD.heap := T.keep _ _ _ tI fun b _ o e => by rw [heapD]; exact Heap.get?_push_of_some _ e
  have IB := block_start ID ok hN footD
  show codeAny _ _ (.compStart _ 0 (.ref it) (.ref sI.heap.objs.size) (compEnvC scope (cellsFrom ((sI.heap.push { cls := .type "dict", data := .dict #[] }).objs.size + 1) scope.names (cloFrom X.env.cells scope.names [])) (sI.heap.push { cls := .type "dict", data := .dict #[] }).objs.size X.env)) (compPost (model X.prog X.w) X.A X.xe use Qf (.ref sI.heap.objs.size) (sI.heap.push { cls := .type "dict", data := .dict #[] }).objs.size) { sI with heap := pushCells ((sI.heap.push { cls := .type "dict", data := .dict #[] }).push { cls := .type "dict", data := .dict #[] }) scope.names }
  rw [hD, ← heapD]
  have eqS : ({ sI with heap := pushCells (sD.heap.push { cls := .type "dict", data := .dict #[] }) scope.names } : Shared) = { sD with heap := pushCells (sD.heap.push { cls := .type "dict", data := .dict #[] }) scope.names } := by rw [← hsD]
  rw [eqS]
  have tB : tn 0 (pushCells (sD.heap.push { cls := .type "dict", data := .dict #[] }) scope.names) := T.keep _ _ _ tD fun b _ o e => pushCells_keeps _ _ _ _ (Heap.get?_push_of_some _ e)
  have loop := dcg_loop (kx := kx) (vx := vx) (iter := iter) (pos := pos) (R := compPost (model X.prog X.w) X.A X.xe use Qf (.ref D) sD.heap.objs.size) hu hc Bg Bt Bk Bv T start turn IB tB (fun b hb => (footD b hb).1.1) fun s2 H2 I2 q2 => by
    have IX : Inv X pins σ H2 s2 := ID.call' (ch := fp) I2.os I2.base I2.hok I2.bare fun b hb => ⟨(footD b hb).1.2.2.2.1, (footD b hb).1.2.1, (footD b hb).1.2.2.2.2.1, (footD b hb).1.2.2.2.2.2⟩
    have hid : H2 sD.heap.objs.size = none := I2.free
    obtain ⟨m, ns, _⟩ := I2.loc
    exact last D sD.heap.objs.size s2 m H2 IX q2 ns (ID.fpOk (Nat.le_refl _) hid)
  exact codeAny_compStart_dict loop (T.self X.A 0 _ _ _ tB loop)
theorem pe_dcG {X : Cx} {kx vx tg iter : Expr} {ifs : List Expr} {scope : Scope} {own : List (Str × Nat)} {pos : Pos} {wi : TI} {g : TG} {tt : TT} {tk tv : TE} (hu : X.A.units + 64 < cLine) (hc : X.calm = true) (hN : X.N.Nodup) (hi : PI X tg iter wi) (ok : BlkOk X.N X.env.scope scope own)
    (Bg : InBlk X scope fun B => PG B tg g) (Bt : InBlk X scope fun B => PTs B ifs tt) (Bk : InBlk X scope fun B => PE B kx tk) (Bv : InBlk X scope fun B => PE B vx tv) (hs : ∀ x, foldedSetIterable iter X.env x = pure x := by intro _; rfl) :
    PE X (.DictComp kx vx [⟨tg, iter, ifs, 0⟩] scope pos) (tDcG X.K wi g tt tk tv (own.map (·.2))) := by
  constructor
  intro pins s σ H Q I spec
  rw [arm_eval_DictComp]
  refine dcg_core hu hc hN I hi ok Bg Bt Bk Bv hs spec fun D C s' m H' I' q ns f => ⟨m, ns, fun h2 sb => ?_⟩
  exact ⟨.ref D, H', I'.turned (t' := s'.toks) (fun b o hb e => (sb.2 b hb).trans e) f.1 f.2.1 f.2.2.2.1 f.2.2.2.2.1 f.2.2.2.2.2, rfl, q⟩
def runDC (vs : List Nat) (h : FG) (t : FT) (ek ev : FE) : List PyData → List (PyData × PyData) → Sx → Option (List (PyData × PyData) × Sx)
  | [], kvs, st => some (kvs, st)
  | d :: ds, kvs, st => (h d st).bind fun s1 => (t s1).bind fun p =>
    if p.1 = true then (ek p.2).bind fun q => (share q.2 q.1).bind fun k => (ev k.2).bind fun r => (share r.2 r.1).bind fun v => if vs.all (noOwn v.2) = true ∧ dOK kvs k.1 = true ∧ kvs.length < LIM then runDC vs h t ek ev ds (dPut kvs k.1 v.1) (wipeS v.2 vs) else none
    else if vs.all (noOwn p.2) = true then runDC vs h t ek ev ds kvs (wipeS p.2 vs) else none
def oDC (vs : List Nat) (fi : FI) (h : FG) (t : FT) (ek ev : FE) : FO := fun st => (fi st).bind fun p => if p.1.length ≤ LIM ∧ vs.all (noOwn p.2) = true then (runDC vs h t ek ev p.1 [] (wipeS p.2 vs)).bind fun r => some (.od false r.1, back p.2 r.2 vs) else none
theorem dc_down {K : Frag} {vs : List Nat} {fi : FI} {h : FG} {t : FT} {ek ev : FE} (σ : L2.St) (H : Hp) (Q : VK) (hh : TOv K (oDC vs fi h t ek ev) σ H Q) : tDcG K (TIv K fi) (TGc K vs h) (TTv K t) (TEv K ek) (TEv K ev) vs σ H Q := by
  obtain ⟨Z, L, st, m, st', I, e, q⟩ := hh
  obtain ⟨⟨ds, s1⟩, e1, e⟩ := Option.bind_eq_some_iff.mp e
  dsimp only at e
  split at e
  case isFalse => cases e
  rename_i c
  obtain ⟨⟨rs, s2⟩, e2, e⟩ := Option.bind_eq_some_iff.mp e
  cases e
  refine ⟨Z, L, st, ds, s1, I, e1, fun J H1 L1 I1 S1 Y D hD => ?_⟩
  have nZ : ¬ Z.h D := fun z => I1.zin D z hD
  refine ⟨fun i m H' => m = ds.length - i ∧ i ≤ ds.length ∧ ∃ L' s' ad, Rel K (Z.plus D) L' [] (wipe σ vs) H' s' ∧ Step (Own L1 []) H1 (Own L' []) H' ∧ Same (hid H1 (Hid Z L1 [])) (hid H' (Hid (Z.plus D) L' [])) ∧ OwnD K (hid H' (Hid (Z.plus D) L' [])) H' D ad ∧
    (∀ i, i ∈ vs → ∀ m, s'[i]? ≠ some (some m)) ∧ runDC vs h t ek ev (ds.drop i) ad s' = some (rs, s2), ⟨ds.length, by simp, Nat.zero_le _, L1, wipeS s1 vs, [], (I1.wipe c.2).hide hD, (Step.refl _ _).upd hD, ?_, .inl ⟨[], upd_same, .nil⟩, wipeS_none, e2⟩, ?_⟩
  · intro b x eb
    obtain ⟨n, eb⟩ := hid_some.mp eb
    refine hid_some.mpr ⟨fun z => ?_, same_upd hD b x eb⟩
    rcases z with (z | z) | z
    · exact n (.inl z)
    · rw [z, hD] at eb; cases eb
    · exact n (.inr z)
  rintro i m H' ⟨rfl, hi, L', s', ad, I', S', see, rd, hs, er⟩
  obtain ⟨y1, y2, y3⟩ := Y _ H' see hid_sub
  by_cases hlt : i < ds.length
  · have hd : ds[i]? = some ds[i] := List.getElem?_eq_getElem hlt
    rw [List.drop_eq_getElem_cons hlt] at er
    obtain ⟨s3, e3, er⟩ := Option.bind_eq_some_iff.mp er
    obtain ⟨⟨b, s4⟩, e4, er⟩ := Option.bind_eq_some_iff.mp er
    refine .inr ⟨y1 i hlt, fun H' => ∃ L' s' ad, Rel K (Z.plus D) L' [] (wipe σ vs) H' s' ∧ Step (Own L1 []) H1 (Own L' []) H' ∧ Same (hid H1 (Hid Z L1 [])) (hid H' (Hid (Z.plus D) L' [])) ∧ OwnD K (hid H' (Hid (Z.plus D) L' [])) H' D ad ∧
      (∀ i, i ∈ vs → ∀ m, s'[i]? ≠ some (some m)) ∧ runDC vs h t ek ev (ds.drop (i + 1)) ad s' = some (rs, s2), fun H2 h2 => ⟨_, by omega, rfl, hlt, h2⟩, fun x H3 hy => ?_⟩
    obtain ⟨g1, g2⟩ := y3 i x H3 _ hd hy
    have rdx := g2 (hid H3 (Hid (Z.plus D) L' [])) (hid_grow g1) fun b o hb ho => hid_some.mpr ⟨fun z => I'.hin z hb, ho⟩
    refine ⟨_, L', s', ds[i], s3, I'.grow g1, rdx, e3, fun σ4 I4 w4 => ⟨w4.trans (wipe_ext (wipe_length _ _) fun j hj => wipe_out σ hj), _, L', s3, b, s4, I4, e4, fun H5 L5 I5 S5 => ?_⟩⟩
    have ww : wipe σ4 vs = wipe σ vs := w4.trans (wipe_ext (wipe_length _ _) fun j hj => wipe_out σ hj)
    have nO : ∀ {L : Nat → List Addr} {σ : L2.St} {H : Hp} {st : Sx}, Rel K (Z.plus D) L [] σ H st → ¬ Own L [] D := fun I z => I.dz D z (.inr rfl)
    have keepD : ∀ {Hs Hs' Ha Hb : Hp}, OwnD K Hs Ha D ad → (∀ o, Ha D = some o → Hb D = some o) → Same Hs Hs' → OwnD K Hs' Hb D ad := fun r k s => by
      rcases r with ⟨ks, e, r⟩ | ⟨o, xs, e, n, r⟩
      · exact .inl ⟨ks, k _ e, r.up s⟩
      · exact .inr ⟨o, xs, k _ e, n, r.up s⟩
    have SA : Step (Own L1 []) H1 (Own L5 []) H5 := S'.trans ((Step.grow g1).trans S5)
    have see5 : Same (hid H' (Hid (Z.plus D) L' [])) (hid H5 (Hid (Z.plus D) L5 [])) := ((Step.grow g1).trans S5).see
    have k5 : ∀ o, H' D = some o → H5 D = some o := fun o e => S5.keep D _ (g1 _ _ e) (nO I4)
    cases b with
    | false =>
      simp only [Bool.false_eq_true, if_false] at er ⊢
      split at er
      · rename_i c2
        have I6 := I5.wipe c2
        rw [ww] at I6
        exact ⟨L5, wipeS s4 vs, ad, I6, SA, see.trans see5, keepD rd k5 see5, wipeS_none, er⟩
      · cases er
    | true =>
      simp only [if_true] at er ⊢
      obtain ⟨⟨r6, s6⟩, e6, er⟩ := Option.bind_eq_some_iff.mp er
      obtain ⟨⟨dk, s7⟩, e7, er⟩ := Option.bind_eq_some_iff.mp er
      obtain ⟨⟨r8, s8⟩, e8, er⟩ := Option.bind_eq_some_iff.mp er
      obtain ⟨⟨dv, s9⟩, e9, er⟩ := Option.bind_eq_some_iff.mp er
      dsimp only at er
      split at er
      case isFalse => cases er
      rename_i c2
      refine ⟨_, L5, s4, r6, s6, I5, e6, fun u H6 L6 I6 S6 ru => ?_⟩
      obtain ⟨L7, I7, S7, rdk⟩ := I6.share ru e7
      refine ⟨_, L7, s7, r8, s8, I7, e8, fun w H8 L8 I8 S8 rw' => ?_⟩
      obtain ⟨L9, I9, S9, rdv⟩ := I8.share rw' e9
      have see7 := (S6.trans S7).see (Z := Z.plus D)
      have see9 := (S8.trans S9).see (Z := Z.plus D)
      have k9 : ∀ o, H' D = some o → H8 D = some o := fun o e => S8.keep D _ (S6.keep D _ (k5 o e) (nO I5)) (nO I7)
      have rd9 := keepD rd k9 (see5.trans (see7.trans see9))
      refine ⟨hid H8 (Hid (Z.plus D) L9 []), ad, dk, dv, hid_sub, rd9, rdk.up see9, c2.2.1, rdv, c2.2.2, fun ob rr => ?_⟩
      have IA := (I9.rehide (D := D) (o := ob) (.inr rfl)).wipe c2.1
      rw [ww] at IA
      have hk : Same (hid H8 (Hid (Z.plus D) L9 [])) (hid (upd H8 D ob) (Hid (Z.plus D) L9 [])) := hid_keep (.inl (.inr rfl))
      have rr' : OwnD K (hid (upd H8 D ob) (Hid (Z.plus D) L9 [])) (upd H8 D ob) D (dPut ad dk dv) := by
        rcases rr with ⟨ks, e, r⟩ | ⟨o, xs, e, n, r⟩
        · exact .inl ⟨ks, e, r.up hk⟩
        · exact .inr ⟨o, xs, e, n, r.up hk⟩
      exact ⟨L9, wipeS s9 vs, _, IA, (SA.trans ((S6.trans S7).trans (S8.trans S9))).upd hD, (see.trans (see5.trans (see7.trans see9))).trans hk, rr', wipeS_none, er⟩
  · have ei : i = ds.length := by omega
    subst ei
    rw [List.drop_length] at er
    cases er
    have SD : Step (Own L1 []) H1 (Own L' [D]) H' := ⟨S'.keep, fun b h => by
      rcases h with h | h
      · exact S'.young b (.inl h)
      · rw [List.mem_singleton] at h; rw [h]; exact .inr hD⟩
    refine .inl ⟨y2 _ rfl, q (.ref D) H' L' [D] (I1.back c.2 (I'.unhide nZ) SD hs) (S1.trans SD) ⟨D, rfl, rfl, ?_⟩⟩
    rw [← hid_one]
    exact rd
section
variable {X : Cx}
theorem k_dc {kx vx tg iter : Expr} {ifs : List Expr} {scope : Scope} {own : List (Str × Nat)} {pos : Pos} {fi : FI} {h : FG} {t : FT} {ek ev : FE} (hc : X.calm = true) (hN : X.N.Nodup) (ok : blkC X.N X.env.scope scope own = true) (hu : X.A.units + 64 < cLine) (hi : PI X tg iter (TIv X.K fi))
    (Bg : InBlk X scope fun B => PG B tg (TGc X.K (own.map (·.2)) h)) (Bt : InBlk X scope fun B => PTs B ifs (TTv X.K t)) (Bk : InBlk X scope fun B => PE B kx (TEv X.K ek)) (Bv : InBlk X scope fun B => PE B vx (TEv X.K ev)) (hs : ∀ x, foldedSetIterable iter X.env x = pure x := by intro _; rfl) :
    PE X (.DictComp kx vx [⟨tg, iter, ifs, 0⟩] scope pos) (TOv X.K (oDC (own.map (·.2)) fi h t ek ev)) := (pe_dcG hu hc hN hi (blkOk_by ok) Bg Bt Bk Bv hs).wk fun σ H Q => dc_down σ H Q
end
end Pv

namespace Pv
open PySem PySem.Spec PyProof.Rows L2
/-! ### a, b, c = x, y, z -/
def sPar3 (i j l : Nat) (f g h : FO) : FS := fun st => (f st).bind fun p => (g p.2).bind fun q => (h q.2).bind fun r => (putS r.2 l r.1).bind fun s1 => (putS s1 j q.1).bind fun s2 => (putS s2 i p.1).bind fun s3 => some (.next, s3)
section
variable {X : Cx}
theorem pa_three {t u w : TE} {a b c : Expr} (ha : PE X a t) (hb : PE X b u) (hc : PE X c w) (hs : starEach [a, b, c] X.env = (false, eval a X.env) :: starEach [b, c] X.env := by rfl) (hs2 : starEach [b, c] X.env = (false, eval b X.env) :: starEach [c] X.env := by rfl) (hs3 : starEach [c] X.env = [(false, eval c X.env)] := by rfl) :
    PA X [a, b, c] (fun σ H Q => t σ H fun v H1 => u σ H1 fun v2 H2 => w σ H2 fun v3 H3 => Q [v, v2, v3] H3) := (pa_cons ha (pa_cons hb (pa_cons hc pa_nil hs3) hs2) hs).wk fun _ _ _ h => h
theorem k_par3 {i j l : Nat} {x y z : Str} {a b c : Expr} {f g h : FO} {px py pz pt pos : Pos} {kt k2 pt2} (hcm : X.calm = true) (hN : X.N.Nodup) (ha : PE X a (TOv X.K f)) (hb : PE X b (TOv X.K g)) (hc : PE X c (TOv X.K h))
    (hx : X.env.scope.names.lookup x = some .local) (hy : X.env.scope.names.lookup y = some .local) (hz : X.env.scope.names.lookup z = some .local)
    (hw : swappedStores [.Tuple [.Name x px, .Name y py, .Name z pz] kt pt] (.Tuple [a, b, c] k2 pt2) X.env = pure (some [x, y, z]))
    (hi : X.N[i]? = some x := by rfl) (hj : X.N[j]? = some y := by rfl) (hl : X.N[l]? = some z := by rfl) (hij : i ≠ j := by decide) (hil : i ≠ l := by decide) (hjl : j ≠ l := by decide)
    (hs : swapsWithSole [.Tuple [.Name x px, .Name y py, .Name z pz] kt pt] (.Tuple [a, b, c] k2 pt2) pos.line X.env = pure false := by rfl)
    (s1 : starEach [a, b, c] X.env = (false, eval a X.env) :: starEach [b, c] X.env := by rfl) (s2 : starEach [b, c] X.env = (false, eval b X.env) :: starEach [c] X.env := by rfl) (s3 : starEach [c] X.env = [(false, eval c X.env)] := by rfl) :
    PS X (.Assign [.Tuple [.Name x px, .Name y py, .Name z pz] kt pt] (.Tuple [a, b, c] k2 pt2) pos) (TSv X.K (sPar3 i j l f g h)) :=
  (ps_par3 hcm hN hi hj hl hij hil hjl hx hy hz (pa_three ha hb hc s1 s2 s3) hw hs).wk fun D σ H ⟨Z, L, st, o, st', I, e, q⟩ => by
    obtain ⟨⟨m1, t1⟩, e1, e⟩ := Option.bind_eq_some_iff.mp e
    obtain ⟨⟨m2, t2⟩, e2, e⟩ := Option.bind_eq_some_iff.mp e
    obtain ⟨⟨m3, t3⟩, e3, e⟩ := Option.bind_eq_some_iff.mp e
    obtain ⟨t4, e4, e⟩ := Option.bind_eq_some_iff.mp e
    obtain ⟨t5, e5, e⟩ := Option.bind_eq_some_iff.mp e
    obtain ⟨t6, e6, e⟩ := Option.bind_eq_some_iff.mp e
    cases e
    obtain ⟨o4, rfl⟩ := putS_some e4
    obtain ⟨o5, rfl⟩ := putS_some e5
    obtain ⟨o6, rfl⟩ := putS_some e6
    refine ⟨Z, L, st, m1, t1, I, e1, fun v H1 L1 T1 I1 S1 rm1 => ?_⟩
    refine ⟨Z.plusL T1, L1, t1, m2, t2, I1.holdL, e2, fun w H2 L2 T2 I2 S2 rm2 => ?_⟩
    refine ⟨(Z.plusL T1).plusL T2, L2, t2, m3, t3, I2.holdL, e3, fun u H3 L3 T3 I3 S3 rm3 => ⟨v, w, u, rfl, ?_⟩⟩
    have I4 := I3.put o4 rm3
    have S4 : Step (Own L2 []) H2 (Own (upL L3 l T3) []) H3 := S3.put l
    have I5 := I2.give rm2 I4 S4 o5
    have S5 := S2.give S4 j
    have I6 := I1.give rm1 I5 S5 o6
    rw [List.set_comm _ _ hij, List.set_comm _ _ hil, List.set_comm _ _ hjl]
    exact q _ H3 _ I6 (S1.give S5 i)
end
end Pv

namespace Pv
open PySem PySem.Spec PyProof.Rows L2
/-! ### found[a:c] = .. where the cut may go past the end -/
theorem bounds_min (a c n : Nat) : sliceBounds (some (a : Int)) (some (c : Int)) none n = (((min a n : Nat) : Int), ((min c n : Nat) : Int), 1) := by
  have na : ¬ ((a : Int) < 0) := by omega
  have nc : ¬ ((c : Int) < 0) := by omega
  simp only [sliceBounds, Option.getD_none, na, nc, if_false, show (1 : Int) > 0 by decide, if_true]
  rw [show min (a : Int) (n : Int) = ((min a n : Nat) : Int) by omega, show min (c : Int) (n : Int) = ((min c n : Nat) : Int) by omega, show max (0 : Int) ((min a n : Nat) : Int) = ((min a n : Nat) : Int) by omega, show max (0 : Int) ((min c n : Nat) : Int) = ((min c n : Nat) : Int) by omega]
section
variable {prog : Program} {w : World} {A : Around} {E : Value → Shared → Prop} {s : Shared}
theorem setItem_cut {l b sl : Addr} {xs ys : Array Value} {n n2 : Nat} {vl vu : Value} {a c : Nat} {Q : Unit → Shared → Prop} (e : s.heap.get? l = some { cls := .type "list", data := .seq xs n }) (e2 : s.heap.get? b = some { cls := .type "list", data := .seq ys n2 }) (hne : l ≠ b)
    (hs : s.heap.IsSliceOf sl vl vu .none) (pl : IsPart vl (some (a : Int))) (pu : IsPart vu (some (c : Int))) (hac : a ≤ c) (hsz : xs.size + ys.size ≤ sizeLine)
    (h : Q () { s with heap := s.heap.update l (Obj.mapSeq fun q => q.extract 0 (min a xs.size) ++ ys ++ q.extract (min c xs.size) q.size) }) : wpAny (model prog w) A (setItem (.ref l) (.ref sl) (.ref b)) Q E s := by
  have isL : s.heap.IsList l xs := PySem.IsL.isList e
  have isB : s.heap.IsList b ys := PySem.IsL.isList e2
  obtain ⟨os, hos, hcs, hds⟩ := id hs
  have isS : s.TypeIs (.ref sl) "slice" := ⟨os, hos, hcs⟩
  have other : Builtin.List.listSameRef (.ref l) (.ref b) = false := beq_eq_false_iff_ne.mpr hne
  have top : (max ((min a xs.size : Nat) : Int) ((min c xs.size : Nat) : Int)).toNat = min c xs.size := by omega
  have small : ((fun q : Array Value => q.extract 0 (min a xs.size) ++ ys ++ q.extract (min c xs.size) q.size) xs).size ≤ sizeLine + 1 := by
    simp only [Array.size_append, Array.size_extract]
    omega
  have step1 : ¬ ((rawPart none == rawInt 0) = true) := fun z => by cases z
  have parts := (sliceIndices_raw (some (a : Int)) (some (c : Int)) none xs.size (by simp)).trans (congrArg (pure : Int × Int × Int → Sem (Int × Int × Int)) (bounds_min a c xs.size))
  unfold setItem
  try with_reducible refine wpAny_holding ?_
  first | refine wpAny_bind (wpAny_pure ?_) | skip
  refine wpAny_bind (wpAny_sequenceKey isL.typeIs (by decide) (wpAny_bind (wpAny_callSpecial?_slot (name := Str.ofString "__setitem__") isL.typeIs slot_list_setitem (wpAny_call_entry slot_list_setitem isL.typeIs entry_list_setitem ?_ (args_list_setitem _ _ _)))))
  refine wpAny_bind (m := Builtin.List.listSubscript? (.ref sl)) ?_
  unfold Builtin.List.listSubscript?
  refine wpAny_bind (wpAny_specialOf isS slice_no_index ?_)
  rw [if_pos (show (none : Option Value).isNone = true from rfl)]
  refine wpAny_pure (wpAny_bind (m := typeOf (.ref sl)) (wpAny_typeOf isS ?_))
  refine PySem.W.KFB.if_not (by decide) ?_
  rw [listSliceParts_eq]
  refine wpAny_bind (wpAny_bind (wpAny_field hos hds (x := .none) rfl (wpAny_bind (wpAny_listPart .none ?_))))
  rw [if_neg step1]
  refine wpAny_bind (wpAny_field hos hds (x := vl) rfl (wpAny_bind (wpAny_listPart pl (wpAny_bind (wpAny_field hos hds (x := vu) rfl (wpAny_bind (wpAny_listPart pu (wpAny_pure ?_))))))))
  simp only [other, Bool.false_eq_true, if_false]
  refine wpAny_bind (m := Builtin.List.listAllItems (.ref b) "must assign iterable to extended slice") ?_
  unfold Builtin.List.listAllItems
  refine wpAny_bind (wpAny_typeOf isB.typeIs (PySem.W.KFB.if_so (by decide) ?_))
  unfold Builtin.List.listItems
  refine wpAny_bind (wpAny_seqItems e2 rfl (wpAny_pure (wpAny_bind (wpAny_bind (wpAny_seqItems e rfl (wpAny_pure (wpAny_bind (wpAny_of_eq parts ?_))))))))
  refine PySem.W.KFB.if_so (show ((1 : Int) == 1) = true by decide) (wpAny_bind (wpAny_rule (PySem.W.KFB.if_not (notLongL hsz) ?_)))
  first | refine wpAny_bind (wpAny_pure ?_) | skip
  show wpAny _ _ (updateSeq l (fun q => q.extract 0 (((min a xs.size : Nat) : Int)).toNat ++ ys ++ q.extract (max ((min a xs.size : Nat) : Int) ((min c xs.size : Nat) : Int)).toNat q.size) >>= _) _ _ s
  rw [top, Int.toNat_natCast]
  refine wpAny_bind (wpAny_updateSeq (hz := Nat.le_trans (Nat.le_add_right _ _) hsz) (_hz' := small) e rfl (wpAny_bind (wpAny_letGo ?_)))
  first
    | exact wpAny_bind (wpAny_pure (wpAny_pure ⟨.none, rfl, wpAny_pure h⟩))
    | exact wpAny_pure ⟨.none, rfl, wpAny_pure h⟩
end
theorem drop_min {α : Type} (xs : List α) (c : Nat) : xs.drop (min c xs.length) = xs.drop c := by
  by_cases h : c ≤ xs.length
  · rw [Nat.min_eq_left h]
  · rw [Nat.min_eq_right (by omega), List.drop_length, List.drop_eq_nil_of_le (by omega)]
section
variable {X : Cx}
/-- found[a:c] = .. of the name's own list -/
def gSlC (j : Nat) (fl fh : FP) : FG := fun d st => if Pv.has st j = true then (fl st).bind fun p => (fh p.2).bind fun q => match d, p.1, q.1, q.2[j]? with
  | .list es, some a, some c, some (some (.ol b ds)) => if 0 ≤ a ∧ a ≤ c ∧ ds.length + es.length ≤ LIM then some (q.2.set j (some (.ol b (ds.take a.toNat ++ es ++ ds.drop c.toNat)))) else none
  | _, _, _, _ => none
  else none
theorem k_gslC {j : Nat} {x : Str} {pp p2 pos : Pos} {lo hi : Option Expr} {fl fh : FP} (hl : PO X lo (TPv X.K fl)) (hh : PO X hi (TPv X.K fh)) (hN : X.N[j]? = some x := by rfl) (hv : Vis X.env.scope x := by first | exact Or.inl rfl | exact Or.inr (Or.inl rfl) | exact Or.inr (Or.inr rfl)) (hd : (x == ("__debug__" : Str)) = false := by decide) (hcd : (x == ("__classdict__" : Str)) = false := by decide)
    (ha : ∀ v, assign (.Subscript (.Name x pp) (.Slice lo hi none p2) pos) X.env v = (do
      let ov ← holding [v] (eval (.Name x pp) X.env)
      let iv ← holding [v, ov] (eval (.Slice lo hi none p2) X.env)
      standAt pos
      holding [v, ov, iv] (setItem ov iv v)
      release [iv, v, ov] []) := by intro _; rfl) : PG X (.Subscript (.Name x pp) (.Slice lo hi none p2) pos) (TGv X.K (gSlC j fl fh)) := by
  refine ⟨fun pins s σ H v u Q I0 r ⟨Z, L, st, d, st', I, rd, e, q⟩ => ?_⟩
  rw [ha]
  unfold gSlC at e
  split at e
  case isFalse => cases e
  rename_i hc
  obtain ⟨w, hw⟩ := I.has hc
  obtain ⟨⟨a0, s1⟩, e1, ea⟩ := Option.bind_eq_some_iff.mp e
  clear e
  obtain ⟨⟨c0, s2⟩, e2, e⟩ := Option.bind_eq_some_iff.mp ea
  clear ea
  dsimp only at e e2
  cases d <;> first | (simp only at e; cases e; done) | skip
  rename_i es
  cases a0 <;> first | (simp only at e; cases e; done) | skip
  rename_i a
  cases c0 <;> first | (simp only at e; cases e; done) | skip
  rename_i c
  cases hj : s2[j]? with
  | none => simp only [hj] at e; cases e
  | some o =>
    cases o with
    | none => simp only [hj] at e; cases e
    | some m =>
      cases m <;> simp only [hj] at e <;> first | (cases e; done) | skip
      rename_i b ds
      split at e
      case isFalse => cases e
      rename_i cond
      cases e
      refine wpAny_bind (wpAny_holding (thn ((pe_var hN hv hd hcd).run pins s σ H (fun v' H' => v' = w ∧ H' = H) I0 ⟨w, hw, rfl, rfl⟩) fun ov s3 ⟨x1, H1, I1, r1, q1⟩ => ?_))
      obtain ⟨rfl, rfl⟩ := q1
      refine wpAny_bind (wpAny_holding (wpAny_Slice (thn (hl.run pins s3 σ H1 (fun l H2 => l = some a ∧ TPv X.K fh σ H2 fun u H3 => u = some c ∧ ∃ L3, Rel X.K Z L3 [] σ H3 s2 ∧ Step (Own L []) H1 (Own L3 []) H3) I1 ⟨Z, L, st, some a, s1, I, e1, fun H2 L2 I2 S2 => ⟨rfl, Z, L2, s1, some c, s2, I2, e2, fun H3 L3 I3 S3 => ⟨rfl, L3, I3, S2.trans S3⟩⟩⟩) fun vl s4 ⟨l, H2, J2, pl, q2⟩ => ?_)))
      obtain ⟨rfl, q2⟩ := q2
      refine thn (hh.run pins s4 σ H2 _ J2 q2) fun vu s5 ⟨u', H3, J3, pu, q3⟩ => ?_
      obtain ⟨rfl, L3, I3, S3⟩ := q3
      rw [evalPart_none]
      refine wpAny_pure ?_
      have J4 : Inv X pins σ H3 { s5 with heap := s5.heap.push { cls := .type "slice", data := .fields #[vl, vu, .none] } } := J3.kept (t' := s5.toks) fun b ob q => Heap.get?_push_of_some _ q
      obtain ⟨p, vs, g1, g2, g3, g4⟩ := I3.lst (ds' := ds.take a.toNat ++ es ++ ds.drop c.toNat) hj hw
      subst g1
      cases r1
      have rd' := rd.up S3.see
      obtain ⟨bb, ys, rfl, la, lb⟩ := RX.of (fun _ _ e => e) rd'
      cases r
      have hp : Hid Z L3 [] p := by
        obtain ⟨_, h1, p', _, h2, _, _, h3⟩ := I3.slot j _ hj
        rw [hw] at h1; cases h1; cases h2
        exact .inr (.inl ⟨j, by rw [h3]; simp⟩)
      obtain ⟨z, its, n, rr, hlen, ee⟩ := J4.lstM g2
      obtain ⟨z2, its2, n2, rr2, ee2⟩ := (la.up hid_sub).obj J4
      have hne : p ≠ bb := fun z => by
        subst z
        rcases la with (h | ⟨_, h⟩) | ⟨_, _, h, _⟩
        · exact (hid_some.mp h).1 hp
        · exact (hid_some.mp h).1 hp
        · have := (J4.bs _ _ (J4.mod.kin _ _ h)).2
          rw [g2] at this; cases this
      have hl2 := rr2.length
      have dl := g3.len
      obtain ⟨a', rfl⟩ := Int.eq_ofNat_of_zero_le cond.1
      obtain ⟨c', rfl⟩ := Int.eq_ofNat_of_zero_le (Int.le_trans cond.1 cond.2.1)
      have lb2 := lb.len
      have cl := cond.2.2
      have sz := lim_line cl
      have vl1 := rr.length
      refine wpAny_bind (wpAny_standAt (wpAny_bind (wpAny_holding (setItem_cut (a := a') (c := c') ee ee2 hne (Heap.IsSliceOf.new ..) pl pu (by omega) (by rw [List.size_toArray, List.size_toArray]; omega) ?_))))
      obtain ⟨I4, S4⟩ := g4 (vs.take a' ++ ys ++ vs.drop c') (RDs.app (RDs.app (g3.take _) lb) (g3.drop _))
      refine wpAny_release ⟨σ, _, ?_, q σ _ L3 I4 (S3.trans S4)⟩
      refine J4.lset (its' := its.take a' ++ its2 ++ its.drop c') (t' := s5.toks) g2 ee ?_ (Vals.append (Vals.append (rr.take _) rr2) (rr.drop _)) ?_
      · have sp := splice_eq its its2 (min a' its.toArray.size) (min c' its.toArray.size)
        rw [show its.take (min a' its.toArray.size) = its.take a' by rw [List.size_toArray]; exact (List.take_eq_take_min ..).symm, show its.drop (min c' its.toArray.size) = its.drop c' by rw [List.size_toArray]; exact drop_min its c'] at sp
        exact sp
      · rw [List.length_append, List.length_append, List.length_take, List.length_drop]
        omega
end
end Pv

namespace Pv
open PySem PySem.Spec PyProof.Rows L2
/-! ### isinstance(x, T), T one of int, bool, str, tuple, list -/
def tyN : PyData → Option String
  | .none => some "NoneType"
  | .bool _ => some "bool"
  | .int _ => some "int"
  | .str _ => some "str"
  | .list _ => some "list"
  | .tuple _ => some "tuple"
  | .dict [] => some "dict"
  | _ => none
theorem kit_tab (K : Frag) : (∀ t ∈ ["NoneType", "bool", "int", "str", "list", "tuple", "dict"], ∀ T ∈ ["int", "bool", "str", "tuple", "list"], PySem.W.kitOne K (.type t) (.type T) = some (t == T || (t == "bool" && T == "int"))) := by
  intro t ht T hT
  simp only [List.mem_cons, List.not_mem_nil, or_false] at ht hT
  rcases ht with rfl | rfl | rfl | rfl | rfl | rfl | rfl <;> rcases hT with rfl | rfl | rfl | rfl | rfl <;> kernel_rfl
def gIsI (T : String) (d : PyData) : Option PyData := (tyN d).map fun t => .bool (t == T || (t == "bool" && T == "int"))
theorem ty_mem {d : PyData} {t : String} (h : tyN d = some t) : t ∈ ["NoneType", "bool", "int", "str", "list", "tuple", "dict"] := by
  unfold tyN at h
  split at h <;> first | (cases h; simp; done) | (cases h)
theorem RD.ty {K : Frag} {H : Hp} {v : V} {d : PyData} {t : String} (h : RD K H v d) (e : tyN d = some t) : TyX K H v (.type t) := by
  cases h with
  | non => cases e; exact .base .non
  | bl b => cases e; exact .base (.bl b)
  | int i => cases e; exact .base (.int i)
  | str x => cases e; exact .base (.str x)
  | lst a r =>
    cases e
    rcases a with (h | ⟨o, h⟩) | ⟨its, n, h, _⟩
    · exact .base (.lst h)
    · exact .base (.frz h)
    · exact .kList h rfl
  | tup a r =>
    cases e
    rcases a with ⟨o, d, h⟩ | ⟨o, its, n, _, h, c, _⟩
    · exact .fTuple h
    · exact .kTuple h c
  | dctK h r =>
    cases r with
    | nil =>
      cases e
      rcases h with h | ⟨o, h⟩
      · exact .base (.dK h)
      · exact .fDict h
    | cons => cases e
  | dctN h n r =>
    cases r with
    | nil => exact absurd rfl n
    | cons => cases e
theorem v1_isI {K : Frag} (T : String) (hT : T ∈ ["int", "bool", "str", "tuple", "list"]) : V1 K (fun v => rIsi K [v, .ty T]) (gIsI T) := fun H x a d Q e h => by
  obtain ⟨t, e1, e2⟩ := Option.map_eq_some_iff.mp e
  subst e2
  have q := endI h fun _ => RD.bl (t == T || (t == "bool" && T == "int"))
  obtain ⟨O, hO, h1, _⟩ := h
  exact ⟨x, .ty T, .type t, .type T, _, rfl, .ty T, (h1.full hid_sub).ty e1, kit_tab K t (ty_mem e1) T hT, q⟩
section
variable {X : Cx}
theorem k_isi {T : String} {y : Str} {p p2 pos : Pos} {a : Expr} {fa : FE} (ha : PE X a (TEv X.K fa)) (hm : X.mg "isinstance" = none) (hm2 : X.mg y = none) (hT : T ∈ ["int", "bool", "str", "tuple", "list"] := by decide) (hb2 : bootBuiltins y = some (.type T) := by decide +kernel) (hg : Gl X "isinstance" := by rfl) (hg2 : Gl X y := by rfl) (hn2 : y ≠ "__name__" := by decide) (hd2 : (y == ("__debug__" : Str)) = false := by decide)
    (hs : starEach [a, .Name y p2] X.env = (false, eval a X.env) :: starEach [.Name y p2] X.env := by rfl) (hs2 : starEach [.Name y p2] X.env = [(false, eval (.Name y p2) X.env)] := by rfl) : PE X (.Call (.Name "isinstance" p) [a, .Name y p2] [] pos) (TEv X.K (e1 (gIsI T) fa)) :=
  (pe_callB call_isi hg hm (by decide +kernel) (pa_two ha (pe_bltn hg2 hm2 hb2 (show RelV (.ty T) (.type T) from rfl) hn2 hd2) hs hs2) (by decide) (by decide) hs (by rw [hs2]; rfl)).wk fun σ H Q h => down1 (v1_isI T hT) σ H Q h
end
end Pv

namespace Pv
open PySem PySem.Spec PyProof.Rows L2
/-! ### what no rule serves has no meaning -/
def eNone : FE := fun _ => none
def sNone : FS := fun _ => none
section
variable {X : Cx}
theorem k_eNone {e : Expr} : PE X e (TEv X.K eNone) := ⟨fun pins s σ H Q I h => by
  obtain ⟨_, _, _, _, _, _, e, _⟩ := h
  cases e⟩
theorem k_sNone {st : Stmt} : PS X st (TSv X.K sNone) := ⟨fun pins s σ H D I h => by
  obtain ⟨_, _, _, _, _, _, e, _⟩ := h
  cases e⟩
/-! ### the module's whole numbers -/
theorem k_gi {x : Str} {i : Int} {pos : Pos} (hm : ∃ t, X.mg x = some (.int i t)) (hg : Gl X x := by rfl) (hd : (x == ("__debug__" : Str)) = false := by decide) : PE X (.Name x pos) (TEv X.K (eCst (.int i))) := by
  obtain ⟨t, hm⟩ := hm
  exact k_cst (pe_glob hg hm (show RelV (.int i) (.int i t) from ⟨t, rfl⟩) hd) fun _ => .int i
end
/-! ### >>, & -/
def gShr : PyData → PyData → Option PyData
  | .int i, .int j => if 0 ≤ j then some (.int (i / 2 ^ j.toNat)) else none
  | _, _ => none
def gAnd : PyData → PyData → Option PyData
  | .int i, .int j => some (.int (Builtin.bitAnd i j))
  | _, _ => none
theorem v2_and {K : Frag} : V2 K (rI0 fun i j => .int (Builtin.bitAnd i j)) gAnd := v2_ii (F := fun i j => .int (Builtin.bitAnd i j)) (fun i j H Q q => ⟨i, j, rfl, rfl, q⟩) fun a b d e => by
  cases a <;> cases b <;> first | (cases e; exact ⟨_, _, rfl, rfl, fun _ => .int _⟩) | cases e
theorem v2_shr {K : Frag} : V2 K (rI (fun _ j => 0 ≤ j) fun i j => .int (i / 2 ^ j.toNat)) gShr := fun H x y a b d Q e h => by
  cases a <;> cases b <;> first | (cases e; done) | skip
  rename_i i j
  simp only [gShr] at e
  split at e
  · rename_i c
    cases e
    have q := endI h fun _ => RD.int (i / 2 ^ j.toNat)
    obtain ⟨O, _, ⟨h1, h2⟩, _⟩ := h
    cases h1.int
    cases h2.int
    exact ⟨i, j, rfl, rfl, c, q⟩
  · cases e
/-! ### *range(..) in a display -/
section
variable {X : Cx}
theorem pa_starRg {te : L2.St → Hp → (Int → Int → Hp → Prop) → Prop} {e : Expr} {es : List Expr} {t : TA} {p : Pos} (hc : X.calm = true) (he : PRg X e te) (hr : PA X es t) (hs : starEach (.Starred e p :: es) X.env = (true, eval e X.env) :: starEach es X.env := by rfl) :
    PA X (.Starred e p :: es) (fun σ H Q => te σ H fun a b H1 => RgOk a b ∧ t σ H1 fun ys H2 => Q (rgV a b ++ ys) H2) := by
  refine ⟨fun pos pins s σ H Q I h => ?_⟩
  refine PySem.W.items_star (thn (he pins s σ H _ I h) fun v s1 ⟨r, a, b, t', u', v', H1, ex, hr', I1, ok, q⟩ => ?_) hs
  subst ex
  have ok' := ok
  obtain ⟨b1, b2, b3, b4, b5⟩ := ok
  have z : wpAny (model X.prog X.w) X.A (collect (.ref r)) (fun here s₂ => wpAny (model X.prog X.w) X.A (spliced (backTo pos (starEach es X.env))) (fun vs s₃ => ∃ vs_1 H', Inv X pins σ H' s₃ ∧ Vals vs_1 (here ++ vs) ∧ Q vs_1 H') X.xe s₂) X.xe s1 := by
    refine collect_range (n := (b - a).toNat) (I1.ok.hd hc) hr' (small_one b1 b2 b3 b4) (rangeSize_nat a b) b5 fun h' tk acc hk hi => ?_
    have I2 : Inv X pins σ H1 { s1 with heap := h', toks := tk } := I1.kept hk
    exact thn (hr.run pos pins _ σ H1 _ I2 q) fun ws s3 ⟨vs, H3, I3, r3, q3⟩ => ⟨rgV a b ++ vs, H3, I3, (vals_rg hi).append r3, q3⟩
  unfold PySem.W.StarOf notIterableAtAll

  exact wpAny_bind (wpAny_specialOf ⟨_, hr', rfl⟩ PySem.F.slot_range_iter.lookup (wpAny_pure ⟨rfl, z⟩))
def aStarRg (lo : Option FE) (hi : FE) (g : FA) : FA := fun st => (oRgL lo hi st).bind fun p => match p.1 with
  | .ol false ds => (g p.2).bind fun r => some (ds.map R.val ++ r.1, r.2)
  | _ => none
theorem k_starRg {e : Expr} {es : List Expr} {p : Pos} {lo : Option FE} {hi : FE} {g : FA} (hc : X.calm = true) (he : PRg X e (TRv X.K lo hi)) (hr : PA X es (TAv X.K g)) (hs : starEach (.Starred e p :: es) X.env = (true, eval e X.env) :: starEach es X.env := by rfl) : PA X (.Starred e p :: es) (TAv X.K (aStarRg lo hi g)) :=
  (pa_starRg hc he hr hs).wk fun σ H Q ⟨Z, L, st, rs, st', I, e, q⟩ => by
    obtain ⟨⟨m, s1⟩, e1, e⟩ := Option.bind_eq_some_iff.mp e
    obtain ⟨ds, rfl⟩ := oRgL_ol e1
    obtain ⟨⟨r2, s3⟩, e3, ec⟩ := Option.bind_eq_some_iff.mp e
    cases ec
    refine ⟨Z, L, st, ds, _, I, e1, fun m n H1 L1 I1 S1 ok ed => ⟨ok, ?_⟩⟩
    subst ed
    exact ⟨Z, L1, s1, r2, _, I1, e3, fun vs H3 L3 I3 S3 rvs => q _ H3 L3 I3 (S1.trans S3) (Rvs.vals (rgV_rd m n) rvs)⟩
end
end Pv

namespace Pv
open PySem PySem.Spec PyProof.Rows L2
/-! ### a dict that nobody else has, walked by its keys -/
def FzD (K : Frag) (H : Hp) (a : Addr) (o : Obj) (kvs : List (PyData × PyData)) : Prop := (∃ ks, H a = some (.frz o (.dK ks)) ∧ RDk K H ks kvs) ∨ (∃ xs, H a = some (DN a o xs) ∧ kvs ≠ [] ∧ RDn K H xs kvs)
def Jdk (K : Frag) (Hs : Hp) (kvs : List (PyData × PyData)) : It := ⟨fun i H => Same Hs H ∧ i < kvs.length, fun i H x H' => H' = H ∧ ∃ d, (dKeys kvs)[i]? = some d ∧ RD K Hs x d, fun i H => Same Hs H ∧ kvs.length ≤ i⟩
theorem fz_at {X : Cx} {pins : List (Addr × Obj)} {σ : L2.St} {H Hs : Hp} {s : Shared} {a : Addr} {o : Obj} {kvs : List (PyData × PyData)} (I : Inv X pins σ H s) (sb : Same Hs H) (hz : FzD X.K Hs a o kvs) :
    ∃ (es : Array DictEntry) (ep : Nat) (ys : List V), s.heap.get? a = some o ∧ o.ExactDict ∧ (a == sysModules) = false ∧ o.data = .dict es ep ∧ es.size = kvs.length ∧ Vals ys (es.toList.map (·.key)) ∧ RDs X.K Hs ys (dKeys kvs) := by
  have D : DctAt X.K Hs H a kvs := by
    rcases hz with ⟨ks, h, r⟩ | ⟨xs, h, n, r⟩
    · exact .inl ⟨ks, .inr ⟨o, sb _ _ h⟩, r⟩
    · exact .inr ⟨o, xs, sb _ _ h, n, r⟩
  have ho : s.heap.get? a = some o := by
    rcases hz with ⟨ks, h, r⟩ | ⟨xs, h, n, r⟩
    · exact (I.frzK (sb _ _ h)).2.1
    · exact (dn_at I sb (sb _ _ h) r).2.2.choose_spec.choose_spec.choose_spec.2.1
  obtain ⟨o', es, ep, ys, ho', hx, hd, hdt, rv, rd, hz'⟩ := dct_keys I sb D
  rw [ho] at ho'
  cases ho'
  refine ⟨es, ep, ys, ho, hx, hd, hdt, ?_, rv, rd⟩
  have h1 := rv.length
  have h2 := rd.len
  unfold dKeys at h2
  have h3 : es.toList.length = es.size := Array.length_toList
  rw [List.length_map] at h1 h2
  omega
theorem vals_get : ∀ {ys : List V} {us : List Value} {i : Nat} {u : Value}, Vals ys us → us[i]? = some u → ∃ y, ys[i]? = some y ∧ RelV y u
  | _, _, _, _, .nil, e => by simp at e
  | _, _, 0, _, .cons h _, e => by simp at e; subst e; exact ⟨_, rfl, h⟩
  | _, _, i + 1, _, .cons _ t, e => by
    obtain ⟨v, h1, h2⟩ := vals_get (i := i) t (by simpa using e)
    exact ⟨v, by simpa using h1, h2⟩
theorem turn_dk {P : Program} {w : World} {K : Frag} {tg : Expr} {Hs : Hp} {a : Addr} {o : Obj} {kvs : List (PyData × PyData)} {es : Array DictEntry} {ep : Nat} (it : Addr) (hz : FzD K Hs a o kvs) (hod : o.data = .dict es ep) :
    Turn P w K tg (Jdk K Hs kvs) [it] it (fun i h => h.IsKeyIter it a i kvs.length ep) where
  mem := by simp
  obj := fun i h st b hb => by
    have e : b = it := by simpa using hb
    subst e
    obtain ⟨oi, e, c, dd⟩ := st
    exact ⟨oi, e, fun v z => by rw [dd] at z; cases z⟩
  keep := fun i h h' st k => st.at fun oi e => k it (by simp) oi e
  item := by
    intro X hP hw hK hc i pins s σ H E I hf st hg
    subst hP hw hK
    obtain ⟨sb, hi⟩ := hg
    obtain ⟨f0, f1, f2, f3, f4, f5⟩ := hf it (by simp)
    obtain ⟨es', ep', ys, ho, hx, hd, hdt, hsz, rv, rd⟩ := fz_at I sb hz
    obtain ⟨rfl, rfl⟩ := dict_ep hod hdt
    have hie : i < es'.size := by rw [hsz]; exact hi
    have hen : es'[i]? = some es'[i] := Array.getElem?_eq_getElem hie
    have hdk : (dKeys kvs)[i]? = some (kvs[i]).1 := by unfold dKeys; rw [List.getElem?_map, List.getElem?_eq_getElem hi]; rfl
    obtain ⟨y, hy, ry⟩ := vals_get (u := es'[i].key) rv (by rw [List.getElem?_map, Array.getElem?_toList, hen]; rfl)
    obtain ⟨y', hy', rd'⟩ := rd.get hdk
    rw [hy] at hy'; cases hy'
    refine next_key_item st ho hdt hsz hen fun h' st' sb' => ?_
    have I1 : Inv X pins σ H { s with heap := h' } := I.turned (t' := s.toks) (fun b ob hb e => (sb'.2 b hb).trans e) f0 f1 f3 f4 f5
    obtain ⟨oi, e, c, dd⟩ := id st'
    exact ⟨es'[i].key, rfl, go_of (s := { s with heap := h' }) e c dd (by decide) ⟨y, H, I1, ry, ⟨rfl, _, hdk, rd'⟩, st', fun b hb => (hf b hb).1⟩⟩
  done := by
    intro X hP hw hK hc i pins s σ H E I hf st hg
    subst hP hw hK
    obtain ⟨sb, hi⟩ := hg
    obtain ⟨f0, f1, f2, f3, f4, f5⟩ := hf it (by simp)
    obtain ⟨es', ep', ys, ho, hx, hd, hdt, hsz, rv, rd⟩ := fz_at I sb hz
    obtain ⟨rfl, rfl⟩ := dict_ep hod hdt
    exact next_key_end (I.ok.hd hc) st ho hdt hsz hi fun h' eb => ⟨rfl, I.turned (t' := s.toks) (fun b ob hb e => eb b ob hb e) f0 f1 f3 f4 f5⟩
  self := fun A i s Q E st h => wpAny_pyIter_keyiter st h
def iDctA (K : Frag) (te : TE) : TI := fun σ H R => te σ H fun x H1 => ∃ a kvs, x = .ref a ∧ ((∃ Hs o, FzD K Hs a o kvs ∧ Same Hs H1 ∧ R (Jdk K Hs kvs) H1) ∨ (∃ ks, H1 a = some (.dK ks) ∧ ∀ od, ∃ Hs, FzD K Hs a od kvs ∧ Same Hs (upd H1 a (.frz od (.dK ks))) ∧ R (Jdk K Hs kvs) (upd H1 a (.frz od (.dK ks)))))
theorem pi_dct {X : Cx} {tg e : Expr} {te : TE} (he : PE X e te) : PI X tg e (iDctA X.K te) := by
  refine ⟨fun pins s σ H R I h => thn (he.run pins s σ H _ I h) fun v s1 ⟨x, H1, I1, r1, q1⟩ => ?_⟩
  obtain ⟨a, kvs, e, q1⟩ := q1
  subst e
  obtain rfl : v = Value.ref a := r1
  have go : ∀ {Hs o H2}, FzD X.K Hs a o kvs → Same Hs H2 → Inv X pins σ H2 s1 → R (Jdk X.K Hs kvs) H2 → wpAny (model X.prog X.w) X.A (pyIter (.ref a)) (PIE X pins σ tg R) X.xe s1 := fun {Hs o H2} hz sb I2 q => by
    obtain ⟨es, ep, ys, ho, hx, hd, hdt, hsz, rv, rd⟩ := fz_at I2 sb hz
    refine iter_keys hd ho hx hdt (pi_one (tk := s1.toks) I2 _ (turn_dk _ hz hdt) ⟨_, Heap.get?_push_size _ rfl, rfl, ?_⟩ q)
    rw [hsz] <;> rfl
  rcases q1 with ⟨Hs, o, hz, sb, q⟩ | ⟨ks, hk, q⟩
  · exact go hz sb I1 q
  · obtain ⟨od, I2⟩ := I1.lock hk True.intro
    obtain ⟨Hs, hz, sb, q⟩ := q od
    exact go hz sb I2 q
theorem yl_dk {K : Frag} {S0 Hs : Hp} {kvs : List (PyData × PyData)} (e : Same Hs S0) : Yl K (Jdk K Hs kvs) (dKeys kvs) S0 := fun S H s1 s2 => by
  have l : (dKeys kvs).length = kvs.length := by unfold dKeys; rw [List.length_map]
  refine ⟨fun i hi => ⟨(e.trans s1).trans s2, by rw [l] at hi; exact hi⟩, fun i hi => ⟨(e.trans s1).trans s2, by rw [l] at hi; exact Nat.le_of_eq hi.symm⟩, fun i x H' d hd ⟨e2, d', hd', r⟩ => ?_⟩
  subst e2
  rw [hd] at hd'; cases hd'
  exact ⟨fun _ _ e => e, fun S' s3 _ => r.up (e.trans (s1.trans s3))⟩
def iDk (f : FO) : FI := fun st => (f st).bind fun p => match p.1 with
  | .od _ kvs => some (dKeys kvs, p.2)
  | .ol _ ds => none
  | .sh _ => none
  | .src _ => none
theorem Rel.lockT {K : Frag} {Z : Zt} {L : Nat → List Addr} {σ : L2.St} {H : Hp} {st : Sx} {p : Addr} {o : HO} (I : Rel K Z L [p] σ H st) : Rel K Z L [] σ (upd H p o) st ∧ Same (hid H (Hid Z L [p])) (hid (upd H p o) (Hid Z L [])) := by
  have np : ∀ i, p ∉ L i := fun i h => I.dt i p h List.mem_cons_self
  have nz : ¬ Z.h p := I.dz p (.inr List.mem_cons_self)
  have sm : Same (hid H (Hid Z L [p])) (hid (upd H p o) (Hid Z L [])) := fun b u q => by
    obtain ⟨n, q⟩ := hid_some.mp q
    have ne : b ≠ p := fun z => n (.inr (.inr (by rw [z]; exact List.mem_cons_self)))
    refine hid_some.mpr ⟨fun w => n ?_, by rw [upd_ne ne]; exact q⟩
    rcases w with w | ⟨i, w⟩ | w
    · exact .inl w
    · exact .inr (.inl ⟨i, w⟩)
    · cases w
  have thr : ∀ b, H b ≠ none → upd H p o b ≠ none := fun b hb => by
    by_cases e : b = p
    · rw [e, upd_same]; exact Option.some_ne_none _
    · rw [upd_ne e]; exact hb
  refine ⟨⟨I.len, fun i m q => ?_, I.emp, I.dis, (fun i b _ hb => by cases hb), fun b hb => I.dz b ?_, fun b hb => thr b (I.zin b hb), (fun b hb => by cases hb), I.pn⟩, sm⟩
  · obtain ⟨v, h1, h2⟩ := I.slot i m q
    refine ⟨v, h1, h2.up sm fun b u hb hu => ?_⟩
    rw [upd_ne (fun z => np i (by rw [← z]; exact hb))]
    exact hu
  · rcases hb with hb | hb
    · exact .inl hb
    · cases hb
theorem k_idk {X : Cx} {tg e : Expr} {f : FO} (h : PE X e (TOv X.K f)) : PI X tg e (TIv X.K (iDk f)) :=
  (pi_dct h).wk fun σ H R ⟨Z, L, st, ds, st', I, e, q⟩ => by
    obtain ⟨⟨m, s1⟩, e1, e⟩ := Option.bind_eq_some_iff.mp e
    cases m <;> first | (cases e; done) | skip
    rename_i lent kvs
    cases e
    refine ⟨Z, L, st, _, s1, I, e1, fun v H1 L1 T I1 S1 rm => ?_⟩
    obtain ⟨p, rfl, rfl, rm⟩ := rm
    rcases rm with ⟨ks, h1, h2⟩ | ⟨o, xs, h1, hn, h2⟩
    · refine ⟨p, kvs, rfl, .inr ⟨ks, h1, fun od => ?_⟩⟩
      obtain ⟨I2, sm⟩ := I1.lockT (o := .frz od (.dK ks))
      have nh : ¬ Hid Z L1 [] p := fun w => by
        rcases w with w | ⟨i, w⟩ | w
        · exact I1.dz p (.inr List.mem_cons_self) w
        · exact I1.dt i p w List.mem_cons_self
        · cases w
      have see : hid (upd H1 p (.frz od (.dK ks))) (Hid Z L1 []) p = some (.frz od (.dK ks)) := hid_some.mpr ⟨nh, upd_same⟩
      refine ⟨hid (upd H1 p (.frz od (.dK ks))) (Hid Z L1 []), .inl ⟨ks, see, h2.up sm⟩, hid_sub, q _ _ L1 I2 ⟨fun b u hb nb => ?_, fun b hb => ?_⟩ (yl_dk fun _ _ e => e)⟩
      · have k := S1.keep b u hb nb
        rw [upd_ne ?_]
        · exact k
        · intro z
          subst z
          rcases S1.young b (.inr List.mem_cons_self) with w | w
          · exact nb w
          · rw [w] at hb; cases hb
      · rcases hb with hb | hb
        · exact S1.young b (.inl hb)
        · cases hb
    · refine ⟨p, kvs, rfl, .inl ⟨hid H1 (Hid Z L1 []), o, .inr ⟨xs, hid_some.mpr ⟨fun w => ?_, h1⟩, hn, h2.up see_drop⟩, hid_sub, q _ _ L1 I1.drop S1.drop (yl_dk fun _ _ e => e)⟩⟩
      rcases w with w | ⟨i, w⟩ | w
      · exact I1.dz p (.inr List.mem_cons_self) w
      · exact I1.dt i p w List.mem_cons_self
      · cases w
end Pv

namespace Pv
open PySem PySem.Spec PyProof.Rows L2
/-- what is fresh becomes data for good -/
def oShF (f : FO) : FO := fun st => (f st).bind fun p => if p.1.free = true then p.1.dat.bind fun d => some (.sh d, p.2) else none
/-- a name that is never changed holds its list for good -/
theorem k_setSh {X : Cx} {s : Stmt} {i : Nat} {f : FO} (h : PS X s (TSv X.K (sSet i f))) : PS X s (TSv X.K (sSet i (oShF f))) :=
  h.wk fun D σ H ⟨Z, L, st, o, st', I, e, q⟩ => by
    obtain ⟨⟨m0, s1⟩, e1, e⟩ := Option.bind_eq_some_iff.mp e
    obtain ⟨⟨m, s3⟩, e3, e1⟩ := Option.bind_eq_some_iff.mp e1
    dsimp only at e1
    by_cases hfree : m.free = true
    case neg => rw [if_neg hfree] at e1; cases e1
    rw [if_pos hfree] at e1
    obtain ⟨d, e4, e2⟩ := Option.bind_eq_some_iff.mp e1
    cases e2
    dsimp only at e
    split at e
    · rename_i c
      cases e
      have hi := open_lt c
      refine ⟨Z, L, st, .next, s1.set i (some m), I, ?_, fun σ' H' L' I' S' => ?_⟩
      · show (f st).bind _ = _
        rw [e3, Option.bind_some]
        exact if_pos c
      · cases m with
        | sh d' => cases e4; exact q σ' H' L' I' S'
        | src s => cases e4
        | ol b ds =>
          cases e4
          have hm : (s1.set i (some (.ol b ds)))[i]? = some (some (.ol b ds)) := List.getElem?_set_self hi
          obtain ⟨v, hv, _⟩ := I'.slot i _ hm
          cases b with
          | false =>
            obtain ⟨L2, I2, S2, _⟩ := I'.share1 hv hm rfl rfl
            rw [List.set_set] at I2
            exact q σ' H' L2 I2 (S'.trans S2)
          | true =>
            cases hfree
        | od b ds =>
          cases e4
          have hm : (s1.set i (some (.od b ds)))[i]? = some (some (.od b ds)) := List.getElem?_set_self hi
          obtain ⟨v, hv, _⟩ := I'.slot i _ hm
          cases b with
          | false =>
            obtain ⟨L2, I2, S2, _⟩ := I'.share1 hv hm rfl rfl
            rw [List.set_set] at I2
            exact q σ' H' L2 I2 (S'.trans S2)
          | true =>
            cases hfree
    · cases e
end Pv

namespace Pv
open PySem PySem.Spec PyProof.Rows L2
/-! ### the meanings, applied -/
section
variable (st : Sx) (f f1 f2 f3 f4 g : FE) (t t2 : FT) (b b2 : FS) (o o2' : FO) (a : FA) (i j : Nat)
@[simp] theorem a_bNil : bNil st = some (.next, st) := rfl
@[simp] theorem a_bCons : bCons b b2 st = (b st).bind fun p => match p.1 with
  | .next => b2 p.2
  | _ => some p := rfl
@[simp] theorem a_sPass : sPass st = some (.next, st) := rfl
@[simp] theorem a_sExpr : sExpr f st = (f st).bind fun p => some (.next, p.2) := rfl
@[simp] theorem a_sRet : sRet o st = (o st).bind fun p => some (.ret p.1, p.2) := rfl
@[simp] theorem a_sIf : sIf t b b2 st = (t st).bind fun p => if p.1 = true then b p.2 else b2 p.2 := rfl
@[simp] theorem a_sSet : sSet i o st = (o st).bind fun p => if open1 p.2 i = true then some (.next, p.2.set i (some p.1)) else none := rfl
@[simp] theorem a_sPar : sPar i j o o2' st = (o st).bind fun p => (o2' p.2).bind fun q => (putS q.2 j q.1).bind fun s1 => (putS s1 i p.1).bind fun s2 => some (.next, s2) := rfl
@[simp] theorem a_sAsg (h : FG) : sAsg o h st = (o st).bind fun p => match p.1 with
  | .sh d => (h d p.2).bind fun s => some (.next, s)
  | _ => none := rfl
@[simp] theorem a_sFor (fi : FI) (h : FG) : sFor fi h b st = (fi st).bind fun p => runFor h b p.1 p.2 := rfl
@[simp] theorem a_sWhile : sWhile t b st = runWhile t b WF st := rfl
@[simp] theorem a_eCst (d : PyData) : eCst d st = some (.val d, st) := rfl
theorem a_eVar {m : M} (h : st[i]? = some (some m)) : eVar i st = some (.var i, st) := by unfold eVar; rw [h]
@[simp] theorem a_eFr : eFr o st = (o st).bind fun p => p.1.dat.bind fun d => some (.val d, p.2) := rfl
@[simp] theorem a_oSh : oSh f st = (f st).bind fun p => (share p.2 p.1).bind fun q => some (.sh q.1, q.2) := rfl
@[simp] theorem a_e1 (h : PyData → Option PyData) : e1 h f st = (f st).bind fun p => (dat p.2 p.1).bind fun a => (h a).bind fun d => some (.val d, p.2) := rfl
@[simp] theorem a_e2 (h : PyData → PyData → Option PyData) : e2 h f1 f2 st = (f1 st).bind fun p => (f2 p.2).bind fun q => (dat q.2 p.1).bind fun a => (dat q.2 q.1).bind fun b => (h a b).bind fun d => some (.val d, q.2) := rfl
@[simp] theorem a_e3 (h : PyData → Option Int → Option Int → Option PyData) (fl fh : FP) : e3 h f fl fh st = (f st).bind fun p => (fl p.2).bind fun l => (fh l.2).bind fun k => (dat k.2 p.1).bind fun a => (h a l.1 k.1).bind fun d => some (.val d, k.2) := rfl
@[simp] theorem a_o1 (h : PyData → Option (List PyData)) : o1 h f st = (f st).bind fun p => (dat p.2 p.1).bind fun a => (h a).bind fun d => some (.ol false d, p.2) := rfl
@[simp] theorem a_o2 (h : PyData → PyData → Option (List PyData)) : o2 h f1 f2 st = (f1 st).bind fun p => (f2 p.2).bind fun q => (dat q.2 p.1).bind fun a => (dat q.2 q.1).bind fun b => (h a b).bind fun d => some (.ol false d, q.2) := rfl
@[simp] theorem a_aNil : aNil st = some ([], st) := rfl
@[simp] theorem a_aCons : aCons f a st = (f st).bind fun p => (a p.2).bind fun q => some (p.1 :: q.1, q.2) := rfl
@[simp] theorem a_eTup : eTup a st = (a st).bind fun p => (shares p.2 p.1).bind fun q => if q.1.length ≤ LIM then some (.val (.tuple q.1), q.2) else none := rfl
@[simp] theorem a_oLst : oLst a st = (a st).bind fun p => (shares p.2 p.1).bind fun q => if q.1.length ≤ LIM then some (.ol false q.1, q.2) else none := rfl
@[simp] theorem a_fpNone : fpNone st = some (none, st) := rfl
@[simp] theorem a_fpSome : fpSome f st = (f st).bind fun p => (dat p.2 p.1).bind fun a => match a with
  | .int i => some (some i, p.2)
  | _ => none := rfl
@[simp] theorem a_tBl : tBl f st = (f st).bind fun p => (dat p.2 p.1).bind fun a => match a with
  | .bool b => some (b, p.2)
  | _ => none := rfl
@[simp] theorem a_tAn : tAn t t2 st = (t st).bind fun p => if p.1 = true then t2 p.2 else some (false, p.2) := rfl
@[simp] theorem a_tOr : tOr' t t2 st = (t st).bind fun p => if p.1 = true then some (true, p.2) else t2 p.2 := rfl
@[simp] theorem a_tNo : tNo t st = (t st).bind fun p => some (!p.1, p.2) := rfl
@[simp] theorem a_tYe : tYe st = some (true, st) := rfl
@[simp] theorem a_oIf : oIf t o o2' st = (t st).bind fun p => if p.1 = true then o p.2 else o2' p.2 := rfl
@[simp] theorem a_eIf : eIf t f g st = (t st).bind fun p => if p.1 = true then f p.2 else g p.2 := rfl
@[simp] theorem a_oCall (s : Sem') : oCall s a st = (a st).bind fun p => (shares p.2 p.1).bind fun q => (s (q.1.map M.sh)).bind fun r => some (r.1, q.2) := rfl
@[simp] theorem a_toTup : toTup o st = (o st).bind fun p => match p.1 with
  | .ol false ds => some (.val (.tuple ds), p.2)
  | _ => none := rfl
@[simp] theorem a_rgL : oRgL none f st = (f st).bind fun q => (dat q.2 q.1).bind fun b => match b with
    | .int n => if n ≤ LIM ∧ -(2 ^ 62) ≤ n then some (.ol false (rgD 0 n.toNat), q.2) else none
    | _ => none := rfl
@[simp] theorem a_iSeq : iSeq f st = (f st).bind fun p => (share p.2 p.1).bind fun q => match q.1 with
  | .list ds => some (ds, q.2)
  | .tuple ds => some (ds, q.2)
  | _ => none := rfl
theorem a_iRg1 : iRg1 f st = (f st).bind fun p => (dat p.2 p.1).bind fun a => match a with
  | .int n => if -(2 ^ 62) ≤ n ∧ n < 2 ^ 62 then some (rgD 0 n.toNat, p.2) else none
  | _ => none := rfl
@[simp] theorem a_gTp (n : Nat) (h : FGs) (ds : List PyData) : gTp n h (.tuple ds) st = if ds.length = n then h ds st else none := rfl
@[simp] theorem a_gTCons (h : FG) (k : FGs) (d : PyData) (r : List PyData) : gTCons h k (d :: r) st = (h d st).bind fun s1 => k r s1 := rfl
@[simp] theorem a_gTNil : gTNil [] st = some st := rfl
@[simp] theorem a_gNm (d : PyData) : gNm i d st = if open1 st i = true then some (st.set i (some (.sh d))) else none := rfl
@[simp] theorem a_gC (d : PyData) : gC i d st = if noOwn st i = true then some (st.set i (some (.sh d))) else none := rfl
@[simp] theorem a_oComp (vs : List Nat) (fi : FI) (h : FG) (el : FE) : oComp vs fi h t el st = (fi st).bind fun p => if p.1.length ≤ LIM ∧ vs.all (noOwn p.2) = true then (runComp vs h t el p.1 (wipeS p.2 vs)).bind fun r => some (.ol false r.1, back p.2 r.2 vs) else none := rfl
@[simp] theorem a_em1 (ty : Ty) (h : PyData → PyData → Option PyData) : em1 ty h f g st = (f st).bind fun p => (dat p.2 p.1).bind fun a0 => if ty.has a0 = true then (g p.2).bind fun q => (dat q.2 p.1).bind fun a => (dat q.2 q.1).bind fun b => (h a b).bind fun d => some (.val d, q.2) else none := rfl
@[simp] theorem a_val (d : PyData) : dat st (.val d) = some d := rfl
theorem a_var {m : M} (h : st[i]? = some (some m)) : dat st (.var i) = m.dat := by simp only [dat, h]
@[simp] theorem a_shVal (d : PyData) : share st (.val d) = some (d, st) := rfl
theorem a_shVar {d : PyData} (h : st[i]? = some (some (.sh d))) : share st (.var i) = some (d, st) := by simp only [share, h]
theorem a_shVarL {d : List PyData} (h : st[i]? = some (some (.ol false d))) : share st (.var i) = some (.list d, st.set i (some (.sh (.list d)))) := by simp only [share, h]
@[simp] theorem a_shs0 : shares st [] = some ([], st) := rfl
@[simp] theorem a_shs (r : R) (rs : List R) : shares st (r :: rs) = (share st r).bind fun p => (shares p.2 rs).bind fun q => some (p.1 :: q.1, q.2) := rfl
@[simp] theorem a_putS (m : M) : putS st i m = if open1 st i = true then some (st.set i (some m)) else none := rfl
theorem a_gIn (n : Int) : gInt (.int n) = some (.int n) := rfl
end
@[simp] theorem d_sh (d : PyData) : (M.sh d).dat = some d := rfl
@[simp] theorem d_ol (b : Bool) (d : List PyData) : (M.ol b d).dat = some (.list d) := rfl
/-! ### going through -/
theorem runFor_ind {h : FG} {body : FS} {P : Nat → Sx → Prop} : ∀ (ds : List PyData) (k : Nat) (st : Sx), (∀ i d st, ds[i]? = some d → P (k + i) st → ∃ s1 st2, h d st = some s1 ∧ body s1 = some (.next, st2) ∧ P (k + i + 1) st2) → P k st → ∃ st', runFor h body ds st = some (.next, st') ∧ P (k + ds.length) st'
  | [], k, st, _, p => ⟨st, rfl, p⟩
  | d :: ds, k, st, step, p => by
    obtain ⟨s1, st2, e1, e2, p2⟩ := step 0 d st rfl p
    obtain ⟨st', e3, p3⟩ := runFor_ind (h := h) (body := body) (P := P) ds (k + 1) st2 (fun i d st e q => by
      have := step (i + 1) d st (by simpa using e) (by rw [show k + (i + 1) = k + 1 + i by omega]; exact q)
      rw [show k + (i + 1) + 1 = k + 1 + i + 1 by omega] at this
      exact this) p2
    refine ⟨st', ?_, by rw [List.length_cons, show k + (ds.length + 1) = k + 1 + ds.length by omega]; exact p3⟩
    show (h d st).bind _ = _
    rw [e1]
    show (body s1).bind _ = _
    rw [e2]
    exact e3
theorem runFor_go {h : FG} {body : FS} {P : Nat → Sx → Prop} (ds : List PyData) (st : Sx) (step : ∀ i d st, ds[i]? = some d → P i st → ∃ s1 st2, h d st = some s1 ∧ body s1 = some (.next, st2) ∧ P (i + 1) st2) (p : P 0 st) : ∃ st', runFor h body ds st = some (.next, st') ∧ P ds.length st' := by
  have := runFor_ind (h := h) (body := body) (P := P) ds 0 st (fun i d st e q => by rw [Nat.zero_add] at q ⊢; exact step i d st e q) p
  rwa [Nat.zero_add] at this
theorem runWhile_go {t : FT} {body : FS} {P : Nat → Sx → Prop} {R : Sx → Prop} (step : ∀ m st, P m st → (∃ s, t st = some (false, s) ∧ R s) ∨ (∃ s s2 m', m' < m ∧ t st = some (true, s) ∧ body s = some (.next, s2) ∧ P m' s2)) : ∀ (n m : Nat) (st : Sx), m < n → P m st → ∃ st', runWhile t body n st = some (.next, st') ∧ R st'
  | 0, m, st, hm, _ => absurd hm (Nat.not_lt_zero _)
  | n + 1, m, st, hm, p => by
    rcases step m st p with ⟨s, e1, r⟩ | ⟨s, s2, m', hl, e1, e2, p2⟩
    · refine ⟨s, ?_, r⟩
      show (t st).bind _ = _
      rw [e1]; rfl
    · obtain ⟨st', e3, r⟩ := runWhile_go step n m' s2 (by omega) p2
      refine ⟨st', ?_, r⟩
      show (t st).bind _ = _
      rw [e1]
      show (body s).bind _ = _
      rw [e2]
      exact e3
theorem a_runComp (vs : List Nat) (h : FG) (t : FT) (el : FE) (d : PyData) (ds : List PyData) (st : Sx) : runComp vs h t el (d :: ds) st = (h d st).bind fun s1 => (t s1).bind fun p =>
    if p.1 = true then (el p.2).bind fun q => (share q.2 q.1).bind fun y => if vs.all (noOwn y.2) = true then (runComp vs h t el ds (wipeS y.2 vs)).bind fun r => some (y.1 :: r.1, r.2) else none
    else if vs.all (noOwn p.2) = true then runComp vs h t el ds (wipeS p.2 vs) else none := rfl
theorem runComp_ind {vs : List Nat} {h : FG} {t : FT} {el : FE} {P : Nat → List PyData → Sx → Prop} : ∀ (ds : List PyData) (k : Nat) (pre : List PyData) (st : Sx),
    (∀ i d st out, ds[i]? = some d → P (k + i) out st → ∃ s1, h d st = some s1 ∧ ((∃ s2 r s3 y s4, t s1 = some (true, s2) ∧ el s2 = some (r, s3) ∧ share s3 r = some (y, s4) ∧ vs.all (noOwn s4) = true ∧ P (k + i + 1) (out ++ [y]) (wipeS s4 vs)) ∨ (∃ s2, t s1 = some (false, s2) ∧ vs.all (noOwn s2) = true ∧ P (k + i + 1) out (wipeS s2 vs)))) →
    P k pre st → ∃ out st', runComp vs h t el ds st = some (out, st') ∧ P (k + ds.length) (pre ++ out) st'
  | [], k, pre, st, _, p => ⟨[], st, rfl, by rw [List.append_nil]; exact p⟩
  | d :: ds, k, pre, st, step, p => by
    obtain ⟨s1, e1, c⟩ := step 0 d st pre rfl p
    have nx' : ∀ i d st out, ds[i]? = some d → P (k + 1 + i) out st → ∃ s1, h d st = some s1 ∧ ((∃ s2 r s3 y s4, t s1 = some (true, s2) ∧ el s2 = some (r, s3) ∧ share s3 r = some (y, s4) ∧ vs.all (noOwn s4) = true ∧ P (k + 1 + i + 1) (out ++ [y]) (wipeS s4 vs)) ∨ (∃ s2, t s1 = some (false, s2) ∧ vs.all (noOwn s2) = true ∧ P (k + 1 + i + 1) out (wipeS s2 vs))) := fun i d st out e q => by
      have := step (i + 1) d st out (by simpa using e) (by rw [show k + (i + 1) = k + 1 + i by omega]; exact q)
      rw [show k + (i + 1) + 1 = k + 1 + i + 1 by omega] at this
      exact this
    have el' : k + (d :: ds).length = k + 1 + ds.length := by rw [List.length_cons]; omega
    rcases c with ⟨s2, r, s3, y, s4, e2, e3, e4, e5, p2⟩ | ⟨s2, e2, e5, p2⟩
    · obtain ⟨out, st', e6, p3⟩ := runComp_ind ds (k + 1) (pre ++ [y]) _ nx' p2
      refine ⟨y :: out, st', ?_, by rw [el']; rw [List.append_assoc] at p3; exact p3⟩
      rw [a_runComp, e1, Option.bind_some, e2, Option.bind_some, if_pos rfl, e3, Option.bind_some, e4, Option.bind_some, if_pos e5, e6, Option.bind_some]
    · obtain ⟨out, st', e6, p3⟩ := runComp_ind ds (k + 1) pre _ nx' p2
      refine ⟨out, st', ?_, by rw [el']; exact p3⟩
      rw [a_runComp, e1, Option.bind_some, e2, Option.bind_some, if_neg Bool.false_ne_true, if_pos e5]
      exact e6
theorem runComp_go {vs : List Nat} {h : FG} {t : FT} {el : FE} {P : Nat → List PyData → Sx → Prop} (ds : List PyData) (st : Sx)
    (step : ∀ i d st out, ds[i]? = some d → P i out st → ∃ s1, h d st = some s1 ∧ ((∃ s2 r s3 y s4, t s1 = some (true, s2) ∧ el s2 = some (r, s3) ∧ share s3 r = some (y, s4) ∧ vs.all (noOwn s4) = true ∧ P (i + 1) (out ++ [y]) (wipeS s4 vs)) ∨ (∃ s2, t s1 = some (false, s2) ∧ vs.all (noOwn s2) = true ∧ P (i + 1) out (wipeS s2 vs))))
    (p : P 0 [] st) : ∃ out st', runComp vs h t el ds st = some (out, st') ∧ P ds.length out st' := by
  have := runComp_ind (vs := vs) (h := h) (t := t) (el := el) (P := P) ds 0 [] st (fun i d st out e q => by rw [Nat.zero_add] at q ⊢; exact step i d st out e q) p
  simpa using this
/-- each item makes one, nothing else changes -/
theorem runComp_map {vs : List Nat} {h : FG} {t : FT} {el : FE} (F : PyData → PyData) (st : Sx) : ∀ (ds : List PyData), (∀ d, d ∈ ds → ∃ s1 r s4, h d st = some s1 ∧ t s1 = some (true, s1) ∧ el s1 = some (r, s1) ∧ share s1 r = some (F d, s4) ∧ vs.all (noOwn s4) = true ∧ wipeS s4 vs = st) → runComp vs h t el ds st = some (ds.map F, st)
  | [], _ => rfl
  | d :: ds, step => by
    obtain ⟨s1, r, s4, e1, e2, e3, e4, e5, e6⟩ := step d List.mem_cons_self
    have ih := runComp_map F st ds fun x hx => step x (List.mem_cons_of_mem _ hx)
    rw [a_runComp, e1, Option.bind_some, e2, Option.bind_some, if_pos rfl, e3, Option.bind_some, e4, Option.bind_some, if_pos e5, e6, ih, Option.bind_some]
    rfl
/-- .. or none -/
theorem runComp_filter {vs : List Nat} {h : FG} {t : FT} {el : FE} (q : PyData → Bool) (F : PyData → PyData) (st : Sx) : ∀ (ds : List PyData), (∀ d, d ∈ ds → ∃ s1 r s4, h d st = some s1 ∧ t s1 = some (q d, s1) ∧ vs.all (noOwn s1) = true ∧ wipeS s1 vs = st ∧ (q d = true → el s1 = some (r, s1) ∧ share s1 r = some (F d, s4) ∧ vs.all (noOwn s4) = true ∧ wipeS s4 vs = st)) → runComp vs h t el ds st = some ((ds.filter q).map F, st)
  | [], _ => rfl
  | d :: ds, step => by
    obtain ⟨s1, r, s4, e1, e2, e5', e6', c⟩ := step d List.mem_cons_self
    have ih := runComp_filter q F st ds fun x hx => step x (List.mem_cons_of_mem _ hx)
    rw [a_runComp, e1, Option.bind_some, e2, Option.bind_some]
    cases hq : q d with
    | true =>
      obtain ⟨e3, e4, e5, e6⟩ := c hq
      rw [if_pos rfl, e3, Option.bind_some, e4, Option.bind_some, if_pos e5, e6, ih, Option.bind_some, List.filter_cons_of_pos hq]
      rfl
    | false =>
      rw [if_neg Bool.false_ne_true, if_pos e5', e6', ih, List.filter_cons_of_neg (by rw [hq]; decide)]
/-! ### ints in data -/
abbrev iT (r : List Int) : PyData := .tuple (r.map .int)
abbrev iL (r : List Int) : PyData := .list (r.map .int)
theorem atI_get {r : List Int} {k : Nat} (h : k < r.length) : L2.atI (r.map PyData.int) (k : Int) = some (.int (r.getD k 0)) := by
  unfold L2.atI L2.ixN
  rw [if_pos (by omega), List.length_map, if_pos (by omega)]
  show (r.map PyData.int)[(k : Int).toNat]? = _
  rw [Int.toNat_natCast, List.getElem?_map, List.getElem?_eq_getElem h, List.getD_eq_getElem?_getD, List.getElem?_eq_getElem h]
  rfl
theorem gIx_T {r : List Int} {k : Nat} (h : k < r.length) : gIx (iT r) (.int (k : Int)) = some (.int (r.getD k 0)) := atI_get h
theorem gIx_L {r : List Int} {k : Nat} (h : k < r.length) : gIx (iL r) (.int (k : Int)) = some (.int (r.getD k 0)) := atI_get h
theorem ixN_nat {n k : Nat} (h : k < n) : L2.ixN n (k : Int) = some k := by
  unfold L2.ixN
  rw [if_pos (by omega), if_pos (by omega), Int.toNat_natCast]
theorem sIx_nat' (n d k : Nat) (h : k ≤ n) : HT.sIx n d (some (k : Int)) = k := by rw [HT.sIx_nat]; omega
theorem cut_to {α : Type} {xs : List α} {k : Nat} (h : k ≤ xs.length) : cut xs none (some (k : Int)) = xs.take k := by
  unfold cut
  rw [HT.sIx_none, sIx_nat' _ _ _ h]; simp
theorem cut_from {α : Type} {xs : List α} {k : Nat} (h : k ≤ xs.length) : cut xs (some (k : Int)) none = xs.drop k := by
  unfold cut
  rw [HT.sIx_none, sIx_nat' _ _ _ h]
  exact List.take_of_length_le (by rw [List.length_drop]; omega)
theorem cut_mid {α : Type} {xs : List α} {j k : Nat} (hj : j ≤ k) (h : k ≤ xs.length) : cut xs (some (j : Int)) (some (k : Int)) = (xs.drop j).take (k - j) := by
  unfold cut
  rw [sIx_nat' _ _ _ h, sIx_nat' _ _ _ (by omega)]
theorem eqvAll_ints : ∀ (r s : List Int), PyData.eqvAll (r.map .int) (s.map .int) = decide (r = s)
  | [], [] => by simp [PyData.eqvAll]
  | [], _ :: _ => by simp [PyData.eqvAll]
  | _ :: _, [] => by simp [PyData.eqvAll]
  | a :: r, b :: s => by
    rw [List.map_cons, List.map_cons]
    unfold PyData.eqvAll PyData.eqv
    rw [eqvAll_ints r s]
    by_cases h : a = b <;> simp [h]
theorem eqv_T (r s : List Int) : PyData.eqv (iT r) (iT s) = decide (r = s) := by unfold iT PyData.eqv; exact eqvAll_ints r s
theorem eqv_L (r s : List Int) : PyData.eqv (iL r) (iL s) = decide (r = s) := by unfold iL PyData.eqv; exact eqvAll_ints r s
theorem okD_ints (n : Nat) (r : List Int) : (r.map PyData.int).all (okD n) = true := by
  rw [List.all_eq_true]
  intro x hx
  obtain ⟨i, _, rfl⟩ := List.mem_map.mp hx
  cases n <;> rfl
theorem okE_T (r : List Int) : okE (iT r) = true := by unfold okE okD; exact okD_ints _ r
theorem okE_L (r : List Int) : okE (iL r) = true := by unfold okE okD; exact okD_ints _ r
theorem okE_int (i : Int) : okE (.int i) = true := rfl
theorem okD_T (n : Nat) (r : List Int) : okD (n + 1) (iT r) = true := by unfold okD; exact okD_ints _ r
theorem rgD_map (n : Nat) : rgD 0 n = ((List.range n).map fun i => ((i : Nat) : Int)).map PyData.int := by
  unfold rgD
  rw [List.map_map]
  refine List.map_congr_left fun i _ => ?_
  simp
/-- the things 0 .. n - 1 -/
def upTo (n : Nat) : List Int := (List.range n).map fun i => ((i : Nat) : Int)
theorem upTo_len (n : Nat) : (upTo n).length = n := by unfold upTo; rw [List.length_map, List.length_range]
theorem upTo_get {n k : Nat} (h : k < n) : (upTo n).getD k 0 = (k : Int) := by
  unfold upTo
  rw [List.getD_eq_getElem?_getD, List.getElem?_map, List.getElem?_range h]
  rfl
theorem rg_upTo (n : Nat) : rgD 0 n = (upTo n).map PyData.int := rgD_map n
end Pv

namespace Pv
open PySem PySem.Spec PyProof.Rows L2
section
variable (st : Sx) (f f1 f2 f3 f4 g : FE) (t t2 : FT) (b b2 : FS) (o o2' : FO) (a : FA) (i j : Nat) (d : PyData)
@[simp] theorem r_eVar : eVar i st = match st[i]? with
  | some (some _) => some (.var i, st)
  | _ => none := rfl
@[simp] theorem r_dat : dat st (.var i) = match st[i]? with
  | some (some m) => m.dat
  | _ => none := rfl
@[simp] theorem r_share : share st (.var i) = match st[i]? with
    | some (some (.sh d)) => some (d, st)
    | some (some (.ol false ds)) => some (.list ds, st.set i (some (.sh (.list ds))))
    | some (some (.od false kvs)) => some (.dict kvs, st.set i (some (.sh (.dict kvs))))
    | _ => none := rfl
@[simp] theorem r_oMv : oMv i st = match st[i]? with
  | some (some m) => if m.free then some (m, st.set i none) else none
  | _ => none := rfl
@[simp] theorem r_gAt : gAt j f d st = if Pv.has st j = true then (f st).bind fun p => (dat p.2 p.1).bind fun a => match a, p.2[j]? with
  | .int k, some (some (.ol b ds)) => (ixN ds.length k).bind fun n => some (p.2.set j (some (.ol b (ds.set n d))))
  | _, _ => none
  else none := rfl
@[simp] theorem r_eLm1 (g : List PyData → PyData → Option (PyData × List PyData)) : eLm1 j g f st = match st[j]? with
  | some (some (.ol _ _)) => (f st).bind fun p => (share p.2 p.1).bind fun q => match q.2[j]? with
    | some (some (.ol b ds)) => (g ds q.1).bind fun r => some (.val r.1, q.2.set j (some (.ol b r.2)))
    | _ => none
  | _ => none := rfl
@[simp] theorem r_run (np nl : Nat) (ms : List M) : runDef np nl b ms = if ms.length = np then (b (ms.map some ++ List.replicate (nl - ms.length) none)).bind fun p => match p.1 with
    | .ret m => (backs ms p.2).map fun ms' => (m, ms')
    | .next => (backs ms p.2).map fun ms' => (.sh .none, ms')
    | _ => none
  else none := rfl
@[simp] theorem r_oCallS (s : Sem') : oCallS s i a st = if has st i = true then (a st).bind fun p => (shares p.2 p.1).bind fun q => match q.2[i]? with
  | some (some m) => (lend m).bind fun ml => (s (ml :: q.1.map M.sh)).bind fun r => match r.2 with
    | ml' :: _ => (unlend m ml').bind fun m3 => some (r.1, q.2.set i (some m3))
    | [] => none
  | _ => none
  else none := rfl
@[simp] theorem r_eSrc (k : SF) : eSrc j k st = match st[j]? with
  | some (some (.src s)) => some (.val (.int (k.get s)), st)
  | _ => none := rfl
@[simp] theorem r_eSrcLen : eSrcLen j st = match st[j]? with
  | some (some (.src s)) => some (.val (.int s.cells.length), st)
  | _ => none := rfl
@[simp] theorem r_eSrcPop : eSrcPop j st = match st[j]? with
  | some (some (.src s)) => (s.cells[s.cells.length - 1]?).bind fun c => some (.val (.int c), st.set j (some (.src { s with cells := s.cells.dropLast })))
  | _ => none := rfl
@[simp] theorem r_sSrc (k : SF) : sSrc j k f st = (f st).bind fun p => (dat p.2 p.1).bind fun a => match a, p.2[j]? with
  | .int i, some (some (.src s)) => some (.next, p.2.set j (some (.src (k.put s i))))
  | _, _ => none := rfl
@[simp] theorem r_gSlAt (fl fh : FP) : gSlAt j fl fh d st = if Pv.has st j = true then (fl st).bind fun p => (fh p.2).bind fun q => match d, p.1, q.1, q.2[j]? with
  | .list es, some a, some c, some (some (.ol b ds)) => if 0 ≤ a ∧ a ≤ c ∧ c ≤ ds.length ∧ ds.length + es.length ≤ LIM then some (q.2.set j (some (.ol b (ds.take a.toNat ++ es ++ ds.drop c.toNat)))) else none
  | _, _, _, _ => none
  else none := rfl
end
@[simp] theorem r_for0 (h : FG) (body : FS) (st : Sx) : runFor h body [] st = some (.next, st) := rfl
theorem r_for (h : FG) (body : FS) (d : PyData) (ds : List PyData) (st : Sx) : runFor h body (d :: ds) st = (h d st).bind fun s1 => (body s1).bind fun p => match p.1 with
    | .next => runFor h body ds p.2
    | .cont => runFor h body ds p.2
    | .brk => some (.next, p.2)
    | .ret m => some (.ret m, p.2) := rfl
theorem r_iSeq_t (f : FE) (st : Sx) : iSeq f st = (f st).bind fun p => (share p.2 p.1).bind fun q => match q.1 with
  | .list ds => some (ds, q.2)
  | .tuple ds => some (ds, q.2)
  | _ => none := rfl
theorem bc {b b2 : FS} {st st' : Sx} {r : Option (Out × Sx)} (e : b st = some (.next, st')) (e2 : b2 st' = r) : bCons b b2 st = r := by
  rw [a_bCons, e, Option.bind_some]; exact e2
theorem b1 {b : FS} {st st' : Sx} (e : b st = some (.next, st')) : bCons b bNil st = some (.next, st') := bc e rfl
theorem br {b b2 : FS} {st st' : Sx} {m : M} (e : b st = some (.ret m, st')) : bCons b b2 st = some (.ret m, st') := by
  rw [a_bCons, e, Option.bind_some]
theorem r_forC {h : FG} {body : FS} {d : PyData} {ds : List PyData} {st s1 s2 : Sx} {r : Option (Out × Sx)} (e1 : h d st = some s1) (e2 : body s1 = some (.next, s2)) (e3 : runFor h body ds s2 = r) : runFor h body (d :: ds) st = r := by
  rw [r_for, e1, Option.bind_some, e2, Option.bind_some]; exact e3
theorem runR {np nl : Nat} {b : FS} {ms ms' : List M} {st' : Sx} {m : M} (hl : ms.length = np) (e : b (ms.map some ++ List.replicate (nl - ms.length) none) = some (.ret m, st')) (eb : backs ms st' = some ms') : runDef np nl b ms = some (m, ms') := by
  rw [r_run, if_pos hl, e, Option.bind_some]
  show (backs ms st').map _ = _
  rw [eb]; rfl
@[simp] theorem s_int (n : Int) : gInt (.int n) = some (.int n) := rfl
@[simp] theorem s_tup1 (d : List PyData) : gTuple (.list d) = some (.tuple d) := rfl
@[simp] theorem s_tup2 (d : List PyData) : gTuple (.tuple d) = some (.tuple d) := rfl
@[simp] theorem s_lst1 (d : List PyData) : gList (.list d) = some d := rfl
@[simp] theorem s_lst2 (d : List PyData) : gList (.tuple d) = some d := rfl
@[simp] theorem s_len1 (d : List PyData) : gLen (.list d) = some (.int d.length) := rfl
@[simp] theorem s_len2 (d : List PyData) : gLen (.tuple d) = some (.int d.length) := rfl
@[simp] theorem s_abs (i : Int) : gAbs (.int i) = some (.int (if i < 0 then -i else i)) := rfl
@[simp] theorem s_max (i j : Int) : gMax2 (.int i) (.int j) = some (.int (if j > i then j else i)) := rfl
@[simp] theorem s_min (i j : Int) : gMin2 (.int i) (.int j) = some (.int (if j < i then j else i)) := rfl
@[simp] theorem s_add (i j : Int) : gAdd (.int i) (.int j) = some (.int (i + j)) := rfl
@[simp] theorem s_addT (i j : List PyData) : gAdd (.tuple i) (.tuple j) = if i.length + j.length ≤ LIM then some (.tuple (i ++ j)) else none := rfl
@[simp] theorem s_addL (i j : List PyData) : gAdd (.list i) (.list j) = if i.length + j.length ≤ LIM then some (.list (i ++ j)) else none := rfl
@[simp] theorem s_sub (i j : Int) : gSub (.int i) (.int j) = some (.int (i - j)) := rfl
@[simp] theorem s_neg (i : Int) : gNeg (.int i) = some (.int (-i)) := rfl
@[simp] theorem s_lt (i j : Int) : gLt (.int i) (.int j) = some (.bool (decide (i < j))) := rfl
@[simp] theorem s_le (i j : Int) : gLe (.int i) (.int j) = some (.bool (decide (i ≤ j))) := rfl
@[simp] theorem s_gt (i j : Int) : gGt (.int i) (.int j) = some (.bool (decide (j < i))) := rfl
@[simp] theorem s_ge (i j : Int) : gGe (.int i) (.int j) = some (.bool (decide (j ≤ i))) := rfl
@[simp] theorem s_ixT (d : List PyData) (i : Int) : gIx (.tuple d) (.int i) = L2.atI d i := rfl
@[simp] theorem s_ixL (d : List PyData) (i : Int) : gIx (.list d) (.int i) = L2.atI d i := rfl
@[simp] theorem s_rev (d : List PyData) : gRevL (.list d) = some d.reverse := rfl
@[simp] theorem s_slT (d : List PyData) (a b : Option Int) : gSl (.tuple d) a b = some (.tuple (cut d a b)) := rfl
@[simp] theorem s_slL (d : List PyData) (a b : Option Int) : gSl (.list d) a b = some (.list (cut d a b)) := rfl
@[simp] theorem s_apd (ds : List PyData) (d : PyData) : gAppend ds d = if ds.length < LIM then some (.none, ds ++ [d]) else none := rfl
@[simp] theorem s_fs (d : PyData) : (M.sh d).free = true := rfl
@[simp] theorem s_fo (b : Bool) (d : List PyData) : (M.ol b d).free = !b := rfl
@[simp] theorem s_fr (s : Src) : (M.src s).free = false := rfl
@[simp] theorem s_op (st : Sx) (i : Nat) : open1 st i = match st[i]? with
  | some none => true
  | some (some m) => m.free
  | none => false := rfl
@[simp] theorem s_has (st : Sx) (j : Nat) : has st j = match st[j]? with
  | some (some _) => true
  | _ => false := rfl
@[simp] theorem s_no (st : Sx) (v : Nat) : noOwn st v = match st[v]? with
  | some (some (.sh _)) => true
  | some none => true
  | _ => false := rfl
@[simp] theorem s_ld (s : Src) : lend (.src s) = some (.src s) := rfl
@[simp] theorem s_uld (s s' : Src) : unlend (.src s) (.src s') = some (.src s') := rfl
@[simp] theorem s_w0 (st : Sx) : wipeS st [] = st := rfl
@[simp] theorem s_w (st : Sx) (v : Nat) (vs : List Nat) : wipeS st (v :: vs) = (wipeS st vs).set v none := rfl
@[simp] theorem s_b0 (st s : Sx) : back st s [] = s := rfl
@[simp] theorem s_b (st s : Sx) (v : Nat) (vs : List Nat) : back st s (v :: vs) = (back st s vs).set v ((st[v]?).getD none) := rfl
@[simp] theorem s_bk0 (st : Sx) : backs [] st = some [] := rfl
@[simp] theorem s_bk1 (d : PyData) (r : List M) (o : Option M) (st : Sx) : backs (.sh d :: r) (o :: st) = (backs r st).map (.sh d :: ·) := rfl
@[simp] theorem s_bk2 (s s' : Src) (r : List M) (st : Sx) : backs (.src s :: r) (some (.src s') :: st) = (backs r st).map (.src s' :: ·) := rfl
@[simp] theorem s_mod (i j : Int) : gMod (.int i) (.int j) = if 0 < j then some (.int (i % j)) else none := rfl
@[simp] theorem s_fdiv (i j : Int) : gFdiv (.int i) (.int j) = if 0 < j ∧ j < 1073741824 then some (.int (i / j)) else none := rfl
@[simp] theorem s_mul (i j : Int) : gMul (.int i) (.int j) = if (-(2 ^ 64) < i ∧ i < 2 ^ 64) ∨ (-(2 ^ 64) < j ∧ j < 2 ^ 64) then some (.int (i * j)) else none := rfl
theorem s_popAt (ds : List PyData) (i : Int) : gPopAt ds (.int i) = if -(2 ^ 63) ≤ i ∧ i < 2 ^ 63 then (seqIndex? i ds.length).bind fun k => (ds[k]?).bind fun d => some (d, ds.eraseIdx k) else none := rfl
@[simp] theorem s_gl (s : Src) : SF.left.get s = s.left := rfl
@[simp] theorem s_gm (s : Src) : SF.mixed.get s = s.mixed := rfl
@[simp] theorem s_gt' (s : Src) : SF.turn.get s = s.turn := rfl
@[simp] theorem s_pl (s : Src) (i : Int) : SF.left.put s i = { s with left := i } := rfl
@[simp] theorem s_pm (s : Src) (i : Int) : SF.mixed.put s i = { s with mixed := i } := rfl
@[simp] theorem s_pt (s : Src) (i : Int) : SF.turn.put s i = { s with turn := i } := rfl
@[simp] theorem r_oSrc (f1 : FO) (f2 f3 f4 : FE) (st : Sx) : oSrc f1 f2 f3 f4 st = (f1 st).bind fun p1 => (f2 p1.2).bind fun p2 => (dat p2.2 p2.1).bind fun a2 => (f3 p2.2).bind fun p3 => (dat p3.2 p3.1).bind fun a3 => (f4 p3.2).bind fun p4 => (dat p4.2 p4.1).bind fun a4 => match p1.1, a2, a3, a4 with
  | .ol false ds, .int i2, .int i3, .int i4 => (intsOf ds).bind fun ns => some (.src ⟨ns, i2, i3, i4⟩, p4.2)
  | _, _, _, _ => none := rfl
@[simp] theorem s_tyL (d : List PyData) : Ty.lst.has (.list d) = true := rfl
@[simp] theorem s_tyT (d : List PyData) : Ty.tup.has (.tuple d) = true := rfl
/-- whole numbers from 0 on, as data -/
def iW (w : List Nat) : List PyData := w.map fun (k : Nat) => .int (k : Int)
theorem iW_nil : iW [] = [] := rfl
theorem iW_cons (k : Nat) (w : List Nat) : iW (k :: w) = .int (k : Int) :: iW w := rfl
theorem iW_app (v w : List Nat) : iW (v ++ w) = iW v ++ iW w := by unfold iW; rw [List.map_append]
theorem iW_len (w : List Nat) : (iW w).length = w.length := by unfold iW; rw [List.length_map]
theorem iW_take (w : List Nat) (k : Nat) : (iW w).take k = iW (w.take k) := by unfold iW; rw [List.map_take]
theorem iW_drop (w : List Nat) (k : Nat) : (iW w).drop k = iW (w.drop k) := by unfold iW; rw [List.map_drop]
theorem iW_rev (w : List Nat) : (iW w).reverse = iW w.reverse := by unfold iW; rw [List.map_reverse]
theorem iW_ints (w : List Nat) : iW w = (w.map fun k : Nat => (k : Int)).map PyData.int := by unfold iW; rw [List.map_map]; rfl
theorem rgD_W (n : Nat) : rgD 0 n = iW (List.range n) := by
  unfold rgD iW
  refine List.map_congr_left fun i _ => ?_
  simp
theorem okE_W (w : List Nat) : okE (.tuple (iW w)) = true := by rw [iW_ints]; exact okE_T _
theorem okE_WL (w : List Nat) : okE (.list (iW w)) = true := by rw [iW_ints]; exact okE_L _
theorem eqv_W (v w : List Nat) : PyData.eqvAll (iW v) (iW w) = decide (v = w) := by
  rw [iW_ints, iW_ints, eqvAll_ints]
  have : (v.map (fun k : Nat => (k : Int)) = w.map fun k : Nat => (k : Int)) ↔ v = w := by
    constructor
    · intro e
      induction v generalizing w with
      | nil => cases w with
        | nil => rfl
        | cons _ _ => cases e
      | cons a v ih => cases w with
        | nil => cases e
        | cons b w =>
          rw [List.map_cons, List.map_cons] at e
          injection e with e1 e2
          rw [ih _ e2, show a = b by omega]
    · rintro rfl; rfl
  simp [this]
theorem gIx_W {w : List Nat} {k : Nat} (h : k < w.length) : L2.atI (iW w) (k : Int) = some (.int ((w.getD k 0 : Nat) : Int)) := by
  unfold L2.atI
  rw [iW_len, ixN_nat h]
  show (iW w)[k]? = _
  unfold iW
  rw [List.getElem?_map, List.getElem?_eq_getElem h, List.getD_eq_getElem?_getD, List.getElem?_eq_getElem h]
  rfl
theorem gIx_last {ds : List PyData} {d : PyData} : L2.atI (ds ++ [d]) (-1) = some d := by
  unfold L2.atI L2.ixN
  rw [if_neg (by decide), List.length_append, if_pos (by simp; omega), Option.bind_some]
  have : (-1 + ((ds.length + [d].length : Nat) : Int)).toNat = ds.length := by simp; omega
  rw [this]; simp
theorem atI_get1 {r : List Int} {k : Nat} (h : k + 1 < r.length) : L2.atI (r.map PyData.int) ((k : Int) + 1) = some (.int (r.getD (k + 1) 0)) := by
  rw [show ((k : Int) + 1) = ((k + 1 : Nat) : Int) by omega]; exact atI_get h
theorem ixN_nat1 {n k : Nat} (h : k + 1 < n) : L2.ixN n ((k : Int) + 1) = some (k + 1) := by
  rw [show ((k : Int) + 1) = ((k + 1 : Nat) : Int) by omega]; exact ixN_nat h
/-- the drawing dict, as it stands -/
structure SI (s : Src) : Prop where
  cs : ∀ c ∈ s.cells, 0 ≤ c
  len : s.cells.length ≤ 63
  lf : 0 ≤ s.left
  m0 : 0 ≤ s.mixed
  m1 : s.mixed < 2147483648
  tn : 0 ≤ s.turn
theorem seqIx {n k : Nat} (h : k < n) : seqIndex? (k : Int) n = some k := by
  unfold seqIndex?
  rw [if_neg (show ¬ ((k : Int) < 0) by omega)]
  show (if (decide (0 ≤ (k : Int)) && decide ((k : Int) < n)) = true then some (k : Int).toNat else none) = _
  rw [if_pos (by simp; omega), Int.toNat_natCast]
theorem gPopAt_nat {r : List Int} {p : Nat} (h : p < r.length) (hl : r.length ≤ LIM) : gPopAt (r.map .int) (.int (p : Int)) = some (.int r[p], (r.eraseIdx p).map .int) := by
  have hl2 : r.length ≤ 16000000 := hl
  have q1 : -(2 ^ 63) ≤ (p : Int) ∧ (p : Int) < 2 ^ 63 := by omega
  have er : ∀ (r : List Int) (p : Nat), (r.map PyData.int).eraseIdx p = (r.eraseIdx p).map .int := fun r => by
    induction r with
    | nil => intro p; rfl
    | cons x r ih => intro p; cases p with
      | zero => rfl
      | succ p => show _ :: _ = _ :: _; rw [ih]
  rw [s_popAt, if_pos q1, List.length_map, seqIx h, Option.bind_some, List.getElem?_map, List.getElem?_eq_getElem h, er]; rfl
theorem v_lm1 {g : List PyData → PyData → Option (PyData × List PyData)} {j : Nat} {f : FE} {st s1 : Sx} {b b2 : Bool} {ds0 ds ds' : List PyData} {x d : PyData} (h0 : st[j]? = some (some (.ol b ds0))) (e1 : f st = some (.val x, s1)) (h1 : s1[j]? = some (some (.ol b2 ds))) (hg : g ds x = some (d, ds')) : eLm1 j g f st = some (.val d, s1.set j (some (.ol b2 ds'))) := by
  simp only [r_eLm1, h0, e1, Option.bind_some, a_shVal, h1, hg]
theorem v_rg1 {f : FE} {st s1 : Sx} {r : R} {n : Nat} (h : f st = some (r, s1)) (h2 : dat s1 r = some (.int (n : Int))) (hn : n ≤ LIM) : iRg1 f st = some (iW (List.range n), s1) := by
  have hn' : n ≤ 16000000 := hn
  rw [a_iRg1, h, Option.bind_some, h2, Option.bind_some]
  show (if -(2 ^ 62) ≤ (n : Int) ∧ (n : Int) < 2 ^ 62 then some (rgD 0 (n : Int).toNat, s1) else none) = _
  rw [if_pos ⟨by omega, by omega⟩, Int.toNat_natCast, rgD_W]
theorem v_comp {vs : List Nat} {fi : FI} {h : FG} {t : FT} {el : FE} {st s1 s2 : Sx} {ds out : List PyData} (h1 : fi st = some (ds, s1)) (hl : ds.length ≤ LIM) (hn : vs.all (noOwn s1) = true) (h2 : runComp vs h t el ds (wipeS s1 vs) = some (out, s2)) : oComp vs fi h t el st = some (.ol false out, back s1 s2 vs) := by
  rw [a_oComp, h1, Option.bind_some, if_pos ⟨hl, hn⟩, h2]; rfl
theorem v_fr {f : FO} {st s1 : Sx} {m : M} {d : PyData} (h : f st = some (m, s1)) (hd : m.dat = some d) : eFr f st = some (.val d, s1) := by rw [a_eFr, h, Option.bind_some, hd]; rfl
theorem v_sh {f : FE} {st s1 : Sx} {d : PyData} (h : f st = some (.val d, s1)) : oSh f st = some (.sh d, s1) := by rw [a_oSh, h]; rfl
theorem v_ret {f : FO} {st s1 : Sx} {m : M} (h : f st = some (m, s1)) : sRet f st = some (.ret m, s1) := by rw [a_sRet, h]; rfl
theorem v_set {i : Nat} {f : FO} {st s1 : Sx} {m : M} (h : f st = some (m, s1)) (ho : open1 s1 i = true) : sSet i f st = some (.next, s1.set i (some m)) := by rw [a_sSet, h, Option.bind_some, if_pos ho]
theorem v_for {fi : FI} {h : FG} {b : FS} {st s1 : Sx} {ds : List PyData} {r : Option (Out × Sx)} (h1 : fi st = some (ds, s1)) (h2 : runFor h b ds s1 = r) : sFor fi h b st = r := by rw [a_sFor, h1]; exact h2
theorem v_ifT {t : FT} {b b2 : FS} {st s1 : Sx} {r : Option (Out × Sx)} (h : t st = some (true, s1)) (h2 : b s1 = r) : sIf t b b2 st = r := by rw [a_sIf, h, Option.bind_some, if_pos rfl]; exact h2
theorem v_ifF {t : FT} {b b2 : FS} {st s1 : Sx} {r : Option (Out × Sx)} (h : t st = some (false, s1)) (h2 : b2 s1 = r) : sIf t b b2 st = r := by rw [a_sIf, h, Option.bind_some, if_neg Bool.false_ne_true]; exact h2
theorem v_par {i j : Nat} {f g : FO} {st s1 s2 : Sx} {m1 m2 : M} (h1 : f st = some (m1, s1)) (h2 : g s1 = some (m2, s2)) (q1 : open1 s2 j = true) (q2 : open1 (s2.set j (some m2)) i = true) : sPar i j f g st = some (.next, (s2.set j (some m2)).set i (some m1)) := by
  rw [a_sPar, h1, Option.bind_some, h2, Option.bind_some, a_putS, if_pos q1, Option.bind_some, a_putS, if_pos q2]; rfl
theorem one_next (m : M) (st : Sx) : (match (Out.next, st).1 with
  | .next => some (Out.next, st)
  | _ => none) = some (.next, st) := rfl
end Pv

namespace Pv
/-! ### rows and swaps, plain -/
def swp (r : List Int) (k : Nat) : List Int := (r.set k (r.getD (k + 1) 0)).set (k + 1) (r.getD k 0)
theorem swp_len (r : List Int) (k : Nat) : (swp r k).length = r.length := by unfold swp; rw [List.length_set, List.length_set]
theorem getD_set (r : List Int) (i j : Nat) (x : Int) : (r.set i x).getD j 0 = if i = j ∧ j < r.length then x else r.getD j 0 := by
  rw [List.getD_eq_getElem?_getD, List.getD_eq_getElem?_getD, List.getElem?_set]
  by_cases h : i = j
  · subst h
    by_cases h2 : i < r.length
    · simp [h2]
    · simp [h2]
  · simp [h]
theorem swp_get (r : List Int) (k j : Nat) (hk : k + 1 < r.length) : (swp r k).getD j 0 = if j = k then r.getD (k + 1) 0 else if j = k + 1 then r.getD k 0 else r.getD j 0 := by
  unfold swp
  rw [getD_set, getD_set, List.length_set]
  by_cases h1 : j = k
  · subst h1
    rw [if_neg (by omega), if_pos ⟨rfl, by omega⟩, if_pos rfl]
  · by_cases h2 : j = k + 1
    · subst h2
      rw [if_pos ⟨rfl, hk⟩, if_neg (by omega), if_pos rfl]
    · rw [if_neg (by omega), if_neg (by omega), if_neg h1, if_neg h2]
theorem ext_getD {r s : List Int} (h : r.length = s.length) (e : ∀ j, j < r.length → r.getD j 0 = s.getD j 0) : r = s := by
  refine List.ext_getElem h fun j h1 h2 => ?_
  have := e j h1
  rwa [List.getD_eq_getElem?_getD, List.getD_eq_getElem?_getD, List.getElem?_eq_getElem h1, List.getElem?_eq_getElem h2] at this
theorem swp_swp (r : List Int) (k : Nat) (hk : k + 1 < r.length) : swp (swp r k) k = r := by
  refine ext_getD (by rw [swp_len, swp_len]) fun j hj => ?_
  rw [swp_get _ _ _ (by rw [swp_len]; exact hk), swp_get _ _ _ hk, swp_get _ _ _ hk, swp_get _ _ _ hk]
  by_cases h1 : j = k
  · subst h1; simp
  · by_cases h2 : j = k + 1
    · subst h2; simp
    · simp [h1, h2]
/-- no thing stands twice -/
def Once (r : List Int) : Prop := ∀ i j, i < r.length → j < r.length → r.getD i 0 = r.getD j 0 → i = j
theorem Once.swp {r : List Int} (h : Once r) {k : Nat} (hk : k + 1 < r.length) : Once (Pv.swp r k) := fun i j hi hj e => by
  rw [swp_len] at hi hj
  let σ : Nat → Nat := fun a => if a = k then k + 1 else if a = k + 1 then k else a
  have hσ : ∀ a, a < r.length → (Pv.swp r k).getD a 0 = r.getD (σ a) 0 ∧ σ a < r.length := fun a ha => by
    have e : σ a = if a = k then k + 1 else if a = k + 1 then k else a := rfl
    rw [swp_get _ _ _ hk, e]
    by_cases a1 : a = k
    · rw [if_pos a1, if_pos a1]; exact ⟨rfl, hk⟩
    · rw [if_neg a1, if_neg a1]
      by_cases a2 : a = k + 1
      · rw [if_pos a2, if_pos a2]; exact ⟨rfl, by omega⟩
      · rw [if_neg a2, if_neg a2]; exact ⟨rfl, ha⟩
  rw [(hσ i hi).1, (hσ j hj).1] at e
  have q := h _ _ (hσ i hi).2 (hσ j hj).2 e
  have ei : σ i = if i = k then k + 1 else if i = k + 1 then k else i := rfl
  have ej : σ j = if j = k then k + 1 else if j = k + 1 then k else j := rfl
  rw [ei, ej] at q
  split at q <;> split at q <;> (try split at q) <;> (try split at q) <;> omega
/-- x stands behind y, and is less -/
def Inv (r : List Int) (x y : Int) : Prop := x < y ∧ ∃ i j, i < j ∧ j < r.length ∧ r.getD i 0 = y ∧ r.getD j 0 = x
theorem Inv.swp_iff {r : List Int} (h : Once r) {k : Nat} (hk : k + 1 < r.length) (up : r.getD k 0 < r.getD (k + 1) 0) (x y : Int) : Inv (Pv.swp r k) x y ↔ Inv r x y ∨ (x = r.getD k 0 ∧ y = r.getD (k + 1) 0) := by
  constructor
  · rintro ⟨lt, i, j, hij, hj, e1, e2⟩
    rw [swp_len] at hj
    rw [swp_get _ _ _ hk] at e1 e2
    by_cases c : i = k ∧ j = k + 1
    · obtain ⟨rfl, rfl⟩ := c
      rw [if_pos rfl] at e1
      rw [if_neg (by omega), if_pos rfl] at e2
      exact .inr ⟨e2.symm, e1.symm⟩
    · refine .inl ⟨lt, ?_⟩
      by_cases i1 : i = k
      · rw [if_pos i1] at e1
        by_cases j1 : j = k + 1
        · exact absurd ⟨i1, j1⟩ c
        · rw [if_neg (by omega), if_neg j1] at e2
          exact ⟨k + 1, j, by omega, hj, e1, e2⟩
      · rw [if_neg i1] at e1
        by_cases i2 : i = k + 1
        · rw [if_pos i2] at e1
          rw [if_neg (by omega), if_neg (by omega)] at e2
          exact ⟨k, j, by omega, hj, e1, e2⟩
        · rw [if_neg i2] at e1
          by_cases j1 : j = k
          · rw [if_pos j1] at e2
            exact ⟨i, k + 1, by omega, hk, e1, e2⟩
          · rw [if_neg j1] at e2
            by_cases j2 : j = k + 1
            · rw [if_pos j2] at e2
              exact ⟨i, k, by omega, by omega, e1, e2⟩
            · rw [if_neg j2] at e2
              exact ⟨i, j, hij, hj, e1, e2⟩
  · rintro (⟨lt, i, j, hij, hj, e1, e2⟩ | ⟨rfl, rfl⟩)
    · have nc : ¬ (i = k ∧ j = k + 1) := fun c => by
        obtain ⟨rfl, rfl⟩ := c
        omega
      let σ : Nat → Nat := fun a => if a = k then k + 1 else if a = k + 1 then k else a
      have hσ : ∀ a, a < r.length → (Pv.swp r k).getD (σ a) 0 = r.getD a 0 := fun a ha => by
        have e : σ a = if a = k then k + 1 else if a = k + 1 then k else a := rfl
        rw [swp_get _ _ _ hk, e]
        by_cases a1 : a = k
        · rw [if_pos a1, if_neg (by omega), if_pos rfl, a1]
        · rw [if_neg a1]
          by_cases a2 : a = k + 1
          · rw [if_pos a2, if_pos rfl, a2]
          · rw [if_neg a2, if_neg a1, if_neg a2]
      refine ⟨lt, σ i, σ j, ?_, ?_, by rw [hσ i (by omega), e1], by rw [hσ j hj, e2]⟩
      · show (if i = k then k + 1 else if i = k + 1 then k else i) < (if j = k then k + 1 else if j = k + 1 then k else j)
        split <;> split <;> (try split) <;> (try split) <;> omega
      · rw [swp_len]
        show (if j = k then k + 1 else if j = k + 1 then k else j) < _
        split <;> (try split) <;> omega
    · exact ⟨up, k, k + 1, by omega, by rw [swp_len]; exact hk, by rw [swp_get _ _ _ hk, if_pos rfl], by rw [swp_get _ _ _ hk, if_neg (by omega), if_pos rfl]⟩
/-- a way of rises from r -/
inductive Rise : List Int → List Nat → Prop
  | nil (r : List Int) : Rise r []
  | cons {r : List Int} {k : Nat} {w : List Nat} : k + 1 < r.length → r.getD k 0 < r.getD (k + 1) 0 → Rise (swp r k) w → Rise r (k :: w)
def ledw (r : List Int) (w : List Nat) : List Int := w.foldl swp r
/-- the pairs that are swapped -/
def prs : List Int → List Nat → List (Int × Int)
  | _, [] => []
  | r, k :: w => (r.getD k 0, r.getD (k + 1) 0) :: prs (swp r k) w
theorem prs_len : ∀ (r : List Int) (w : List Nat), (prs r w).length = w.length
  | _, [] => rfl
  | r, k :: w => by unfold prs; rw [List.length_cons, List.length_cons, prs_len]
theorem Rise.prs_iff : ∀ {r : List Int} {w : List Nat}, Rise r w → Once r → (Once (ledw r w) ∧ (prs r w).Nodup ∧ (∀ p ∈ prs r w, ¬ Inv r p.1 p.2 ∧ p.1 < p.2) ∧ ∀ x y, Inv (ledw r w) x y ↔ Inv r x y ∨ (x, y) ∈ prs r w)
  | r, _, .nil _, o => ⟨o, List.nodup_nil, fun p h => (nomatch h), fun x y => ⟨.inl, fun h => h.elim id fun h => (nomatch h)⟩⟩
  | r, _, .cons (k := k) (w := w) hk up t, o => by
    obtain ⟨o2, nd, np, iff⟩ := Rise.prs_iff t (o.swp hk)
    have key := fun x y => Inv.swp_iff o hk up x y
    refine ⟨o2, ?_, fun p hp => ?_, fun x y => ?_⟩
    · unfold prs
      refine List.nodup_cons.mpr ⟨fun h => (np _ h).1 ((key _ _).mpr (.inr ⟨rfl, rfl⟩)), nd⟩
    · unfold prs at hp
      rcases List.mem_cons.mp hp with rfl | hp
      · refine ⟨?_, up⟩
        rintro ⟨_, i, j, hij, hj, e1, e2⟩
        have := o i (k + 1) (by omega) hk e1
        have := o j k hj (by omega) e2
        omega
      · exact ⟨fun h => (np _ hp).1 ((key _ _).mpr (.inl h)), (np _ hp).2⟩
    · show Inv (ledw (swp r k) w) x y ↔ Inv r x y ∨ (x, y) ∈ (r.getD k 0, r.getD (k + 1) 0) :: prs (swp r k) w
      rw [iff, key, List.mem_cons, or_assoc, Prod.mk.injEq]
/-- two things change places -/
def flp (a b : Int) (r : List Int) : List Int := r.map fun x => if x = a then b else if x = b then a else x
theorem map_getD (f : Int → Int) (r : List Int) {j : Nat} (h : j < r.length) : (r.map f).getD j 0 = f (r.getD j 0) := by
  rw [List.getD_eq_getElem?_getD, List.getD_eq_getElem?_getD, List.getElem?_map, List.getElem?_eq_getElem h]; rfl
theorem swp_map (f : Int → Int) (r : List Int) (k : Nat) (hk : k + 1 < r.length) : swp (r.map f) k = (swp r k).map f := by
  refine ext_getD (by rw [swp_len, List.length_map, List.length_map, swp_len]) fun j hj => ?_
  rw [swp_len, List.length_map] at hj
  rw [swp_get _ _ _ (by rw [List.length_map]; exact hk), map_getD f r (by omega), map_getD f r (by omega), map_getD f r hj, map_getD f _ (by rw [swp_len]; exact hj), swp_get _ _ _ hk]
  split
  · rfl
  · split <;> rfl
theorem swp_flp (r : List Int) (k : Nat) (o : Once r) (hk : k + 1 < r.length) : swp r k = flp (r.getD k 0) (r.getD (k + 1) 0) r := by
  refine ext_getD (by unfold flp; rw [swp_len, List.length_map]) fun j hj => ?_
  rw [swp_len] at hj
  unfold flp
  rw [map_getD _ _ hj, swp_get _ _ _ hk]
  by_cases h1 : j = k
  · subst h1; simp
  · by_cases h2 : j = k + 1
    · subst h2
      rw [if_neg h1, if_pos rfl, if_neg (fun e => h1 (o _ _ hj (by omega) e)), if_pos rfl]
    · rw [if_neg h1, if_neg h2, if_neg (fun e => h1 (o _ _ hj (by omega) e)), if_neg (fun e => h2 (o _ _ hj hk e))]
theorem ledw_len (r : List Int) : ∀ w : List Nat, (ledw r w).length = r.length := fun w => by
  induction w generalizing r with
  | nil => rfl
  | cons k w ih => show (ledw (swp r k) w).length = _; rw [ih, swp_len]
theorem ledw_flp (a b : Int) : ∀ (w : List Nat) (r : List Int), (∀ k ∈ w, k + 1 < r.length) → ledw (flp a b r) w = flp a b (ledw r w)
  | [], _, _ => rfl
  | k :: w, r, h => by
    show ledw (swp (flp a b r) k) w = flp a b (ledw (swp r k) w)
    have hk := h k List.mem_cons_self
    rw [← ledw_flp a b w (swp r k) fun x hx => by rw [swp_len]; exact h x (List.mem_cons_of_mem _ hx)]
    unfold flp
    rw [swp_map _ _ _ hk]
theorem flp_flp (a b : Int) (r : List Int) : flp a b (flp a b r) = r := by
  unfold flp
  rw [List.map_map]
  have : ((fun x => if x = a then b else if x = b then a else x) ∘ fun x => if x = a then b else if x = b then a else x) = (id : Int → Int) := funext fun x => by
    show (if (if x = a then b else if x = b then a else x) = a then b else if (if x = a then b else if x = b then a else x) = b then a else (if x = a then b else if x = b then a else x)) = x
    by_cases h1 : x = a
    · subst h1
      simp
    · by_cases h2 : x = b
      · subst h2; simp [h1]
      · simp [h1, h2]
  rw [this, List.map_id]
/-- a way without one swap: the things of that swap have changed places -/
theorem led_without : ∀ (w : List Nat) (r : List Int) (i : Nat) (p : Int × Int), Once r → (∀ k ∈ w, k + 1 < r.length) → (prs r w)[i]? = some p → ledw r (w.take i ++ w.drop (i + 1)) = flp p.1 p.2 (ledw r w)
  | [], _, _, _, _, _, e => by simp [prs] at e
  | k :: w, r, 0, p, o, h, e => by
    have hk := h k List.mem_cons_self
    simp only [prs, List.getElem?_cons_zero, Option.some.injEq] at e
    subst e
    show ledw r w = flp _ _ (ledw (swp r k) w)
    rw [swp_flp r k o hk, ledw_flp _ _ w r fun x hx => h x (List.mem_cons_of_mem _ hx), flp_flp]
  | k :: w, r, i + 1, p, o, h, e => by
    have hk := h k List.mem_cons_self
    show ledw (swp r k) (w.take i ++ w.drop (i + 1)) = flp _ _ (ledw (swp r k) w)
    exact led_without w (swp r k) i p (o.swp hk) (fun x hx => by rw [swp_len]; exact h x (List.mem_cons_of_mem _ hx)) (by simpa [prs] using e)
theorem Rise.ok : ∀ {r : List Int} {w : List Nat}, Rise r w → ∀ k ∈ w, k + 1 < r.length
  | _, _, .nil _ => fun k h => (nomatch h)
  | r, _, .cons (k := k0) hk up t => fun k h => by
    rcases List.mem_cons.mp h with rfl | h
    · exact hk
    · have := Rise.ok t k h
      rwa [swp_len] at this
theorem flp_inj {r : List Int} {a b c d : Int} (o : Once r) (hab : a < b) (hdc : d < c) (ha : ∃ i, i < r.length ∧ r.getD i 0 = a) (e : flp a b r = flp c d r) : a = d ∧ b = c := by
  obtain ⟨i, hi, ea⟩ := ha
  have e2 : (flp a b r).getD i 0 = (flp c d r).getD i 0 := by rw [e]
  unfold flp at e2
  rw [map_getD _ _ hi, map_getD _ _ hi, ea] at e2
  simp only [if_true] at e2
  by_cases h1 : a = c
  · rw [if_pos h1] at e2; omega
  · rw [if_neg h1] at e2
    by_cases h2 : a = d
    · rw [if_pos h2] at e2; exact ⟨h2, e2⟩
    · rw [if_neg h2] at e2; omega
/-- the law's heart: at a drop k of the row one swap of the way alone can be left out -/
theorem place_one {s r : List Int} {w : List Nat} {k : Nat} (hs : Once s) (hz : ∀ x y, ¬ Inv s x y) (hw : Rise s w) (er : ledw s w = r) (hk : k + 1 < r.length) (dn : r.getD (k + 1) 0 < r.getD k 0) :
    ∃ i, i < w.length ∧ (prs s w)[i]? = some (r.getD (k + 1) 0, r.getD k 0) ∧ (∀ j, j < i → (prs s w)[j]? ≠ some (r.getD (k + 1) 0, r.getD k 0)) ∧ ∀ j, j < w.length → (ledw s (w.take j ++ w.drop (j + 1)) = swp r k ↔ j = i) := by
  obtain ⟨o2, nd, np, iff⟩ := hw.prs_iff hs
  rw [er] at o2 iff
  have hin : (r.getD (k + 1) 0, r.getD k 0) ∈ prs s w := by
    have := (iff (r.getD (k + 1) 0) (r.getD k 0)).mp ⟨dn, k, k + 1, by omega, hk, rfl, rfl⟩
    exact this.resolve_left (hz _ _)
  obtain ⟨i, hi, ei⟩ := List.getElem_of_mem hin
  have hi2 : i < w.length := by rwa [prs_len] at hi
  have uniq : ∀ j, (prs s w)[j]? = some (r.getD (k + 1) 0, r.getD k 0) → j = i := fun j ej => by
    obtain ⟨hj, ej⟩ := List.getElem?_eq_some_iff.mp ej
    have pw := List.pairwise_iff_getElem.mp nd
    rcases Nat.lt_trichotomy i j with c | c | c
    · exact absurd (ei.trans ej.symm) (pw i j hi hj c)
    · exact c.symm
    · exact absurd (ej.trans ei.symm) (pw j i hj hi c)
  refine ⟨i, hi2, by rw [List.getElem?_eq_getElem hi, ei], fun j hj ej => by have := uniq j ej; omega, fun j hj => ?_⟩
  have hj' : j < (prs s w).length := by rw [prs_len]; exact hj
  rw [led_without w s j _ hs hw.ok (List.getElem?_eq_getElem hj'), er, swp_flp r k o2 hk]
  constructor
  · intro e
    have hm : (prs s w)[j] ∈ prs s w := List.getElem_mem hj'
    have lt := (np _ hm).2
    have inv := (iff (prs s w)[j].1 (prs s w)[j].2).mpr (.inr hm)
    obtain ⟨_, a, b, hab, hb, e1, e2⟩ := inv
    obtain ⟨q1, q2⟩ := flp_inj o2 lt dn ⟨b, hb, e2⟩ e
    refine uniq j ?_
    rw [List.getElem?_eq_getElem hj']
    congr 1
    exact Prod.ext q1 q2
  · rintro rfl
    rw [ei]
    unfold flp
    refine List.map_congr_left fun x _ => ?_
    dsimp only
    by_cases h1 : x = r.getD (k + 1) 0 <;> by_cases h2 : x = r.getD k 0 <;> simp [h1, h2] <;> omega
end Pv

namespace Pv
open PySem PySem.Spec PyProof.Rows L2
/-! ### more equations -/
@[simp] theorem s_len3 (d : List PyData) : gLen2 (.list d) = some (.int d.length) := rfl
@[simp] theorem s_len4 (d : List PyData) : gLen2 (.tuple d) = some (.int d.length) := rfl
@[simp] theorem s_len5 (d : List (PyData × PyData)) : gLen2 (.dict d) = some (.int d.length) := rfl
@[simp] theorem s_ix3 (d : List PyData) (i : Int) : gIx2 (.tuple d) (.int i) = L2.atI d i := rfl
@[simp] theorem s_ix4 (d : List PyData) (i : Int) : gIx2 (.list d) (.int i) = L2.atI d i := rfl
@[simp] theorem s_ix5 (d : List (PyData × PyData)) (k : PyData) : gIx2 (.dict d) k = if dOK d k = true then dGet d k else none := rfl
@[simp] theorem s_lst3 (d : List PyData) : gList2 (.list d) = some d := rfl
@[simp] theorem s_lst4 (d : List PyData) : gList2 (.tuple d) = some d := rfl
@[simp] theorem s_lst5 (d : List (PyData × PyData)) : gList2 (.dict d) = some (dKeys d) := rfl
@[simp] theorem s_in5 (d : List (PyData × PyData)) (k : PyData) : gIn2 k (.dict d) = if dOK d k = true then some (.bool (dGet d k).isSome) else none := rfl
@[simp] theorem s_nin5 (d : List (PyData × PyData)) (k : PyData) : gNotIn2 k (.dict d) = if dOK d k = true then some (.bool (!(dGet d k).isSome)) else none := rfl
@[simp] theorem s_in4 (d : List PyData) (k : PyData) : gIn2 k (.tuple d) = gIn k (.tuple d) := rfl
@[simp] theorem s_in3 (d : List PyData) (k : PyData) : gIn2 k (.list d) = gIn k (.list d) := rfl
@[simp] theorem s_nin4 (d : List PyData) (k : PyData) : gNotIn2 k (.tuple d) = gNotIn k (.tuple d) := rfl
@[simp] theorem s_nin3 (d : List PyData) (k : PyData) : gNotIn2 k (.list d) = gNotIn k (.list d) := rfl
@[simp] theorem s_revT (d : List PyData) : gRevT (.tuple d) = some (.tuple d.reverse) := rfl
@[simp] theorem s_od (b : Bool) (d : List (PyData × PyData)) : (M.od b d).dat = some (.dict d) := rfl
@[simp] theorem s_fd (b : Bool) (d : List (PyData × PyData)) : (M.od b d).free = !b := rfl
theorem s_sumL (ns : List Int) : gSum2 (.list (ns.map .int)) = some (.int ns.sum) := by show (intsOf (ns.map .int)).map _ = _; rw [intsOf_map]; rfl
theorem s_sumT (ns : List Int) : gSum2 (.tuple (ns.map .int)) = some (.int ns.sum) := by show (intsOf (ns.map .int)).map _ = _; rw [intsOf_map]; rfl
@[simp] theorem s_eqS (x y : Str) : gEqS (.str x) (.str y) = some (.bool (decide (x = y))) := rfl
@[simp] theorem s_neS (x y : Str) : gNeS (.str x) (.str y) = some (.bool (!decide (x = y))) := rfl
section
variable (st : Sx) (f g : FE) (o : FO) (i j : Nat)
@[simp] theorem r_oD0 : oD0 st = some (.od false [], st) := rfl
@[simp] theorem r_oD1 (h : PyData → Option (List (PyData × PyData))) : oD1 h f st = (f st).bind fun p => (dat p.2 p.1).bind fun a => (h a).bind fun d => some (.od false d, p.2) := rfl
@[simp] theorem r_eDm1 (h : List (PyData × PyData) → PyData → Option (PyData × List (PyData × PyData))) : eDm1 j h f st = match st[j]? with
  | some (some (.od _ _)) => (f st).bind fun p => (share p.2 p.1).bind fun q => match q.2[j]? with
    | some (some (.od b kvs)) => (h kvs q.1).bind fun r => some (.val r.1, q.2.set j (some (.od b r.2)))
    | _ => none
  | _ => none := rfl
@[simp] theorem r_sDPut : sDPut j f g st = (g st).bind fun p => (share p.2 p.1).bind fun q => match q.2[j]? with
  | some (some (.od _ _)) => (f q.2).bind fun r => (share r.2 r.1).bind fun t => match t.2[j]? with
    | some (some (.od b kvs)) => if dOK kvs t.1 = true ∧ kvs.length < LIM then some (.next, t.2.set j (some (.od b (dPut kvs t.1 q.1)))) else none
    | _ => none
  | _ => none := rfl
@[simp] theorem r_sExt : sExt i f st = match st[i]? with
  | some (some (.ol _ _)) => (f st).bind fun p => (share p.2 p.1).bind fun q => match q.2[i]? with
    | some (some (.ol b ds)) => (gExtend ds q.1).bind fun r => some (.next, q.2.set i (some (.ol b r.2)))
    | _ => none
  | _ => none := rfl
@[simp] theorem s_exL (ds es : List PyData) : gExtend ds (.list es) = if ds.length + es.length ≤ LIM then some (.none, ds ++ es) else none := rfl
@[simp] theorem r_iEn : iEn f st = (iSeq f st).bind fun p => some (enD p.1, p.2) := rfl
end
/-! ### a statement's end, by what holds there -/
def Post (x : Option (Out × Sx)) (Q : Sx → Prop) : Prop := ∃ st', x = some (.next, st') ∧ Q st'
@[simp] theorem post_next (st : Sx) (Q : Sx → Prop) : Post (some (.next, st)) Q ↔ Q st := ⟨fun ⟨_, e, q⟩ => by cases e; exact q, fun q => ⟨st, rfl, q⟩⟩
theorem post_bc {b b2 : FS} {st : Sx} {Q : Sx → Prop} (h : Post (b st) fun s1 => Post (b2 s1) Q) : Post (bCons b b2 st) Q := by
  obtain ⟨s1, e, h⟩ := h
  unfold Post
  rw [bc e rfl]
  exact h
theorem post_bn {st : Sx} {Q : Sx → Prop} (h : Q st) : Post (bNil st) Q := ⟨st, rfl, h⟩
theorem post_st {b : FS} {st s1 : Sx} {Q : Sx → Prop} (e : b st = some (.next, s1)) (h : Q s1) : Post (b st) Q := ⟨s1, e, h⟩
theorem post_for {h : FG} {body : FS} (P : Nat → Sx → Prop) (ds : List PyData) (st : Sx) {Q : Sx → Prop} (step : ∀ i d st, ds[i]? = some d → P i st → ∃ s1, h d st = some s1 ∧ Post (body s1) (P (i + 1))) (p : P 0 st) (q : ∀ st', P ds.length st' → Q st') : Post (runFor h body ds st) Q := by
  obtain ⟨st', e, p'⟩ := runFor_go (h := h) (body := body) (P := P) ds st (fun i d st e p => by
    obtain ⟨s1, e1, st2, e2, p2⟩ := step i d st e p
    exact ⟨s1, st2, e1, e2, p2⟩) p
  exact ⟨st', e, q _ p'⟩
theorem post_sFor {fi : FI} {h : FG} {body : FS} {st s1 : Sx} {ds : List PyData} {Q : Sx → Prop} (e : fi st = some (ds, s1)) (q : Post (runFor h body ds s1) Q) : Post (sFor fi h body st) Q := by
  unfold Post
  rw [v_for e rfl]
  exact q
theorem post_run {np nl : Nat} {b b2 : FS} {ms : List M} (hl : ms.length = np) {st : Sx} (Q : Sx → Prop) (hs : ms.map some ++ List.replicate (nl - ms.length) none = st) (h : Post (b st) Q) {ms' : List M} {m : M} (r : ∀ s1, Q s1 → ∃ s2, b2 s1 = some (.ret m, s2) ∧ backs ms s2 = some ms') : runDef np nl (bCons b b2) ms = some (m, ms') := by
  obtain ⟨s1, e, q⟩ := h
  obtain ⟨s2, e2, e3⟩ := r s1 q
  subst hs
  exact runR hl (bc e e2) e3
/-! ### comprehensions that change nothing -/
abbrev at1 (st : Sx) (v : Nat) (d : PyData) : Sx := st.set v (some (.sh d))
theorem set_set2 {st : Sx} {v : Nat} {a b : Option M} : (st.set v a).set v b = st.set v b := List.set_set ..
theorem set_back {st : Sx} {v : Nat} {a : Option M} (h : v < st.length) : (st.set v a).set v ((st[v]?).getD none) = st := by
  rw [List.set_set, List.getElem?_eq_getElem h]
  exact set_same (List.getElem?_eq_getElem h)
theorem noOwn_set {st : Sx} {v : Nat} (h : v < st.length) (d : Option PyData) : noOwn (st.set v (d.map .sh)) v = true := by
  unfold noOwn
  rw [List.getElem?_set_self h]
  cases d <;> rfl
theorem run1 {α : Type} {v : Nat} {t : FT} {el : FE} {st : Sx} (hv : v < st.length) (e : α → PyData) (F : α → Option PyData) : ∀ (xs : List α),
    (∀ x ∈ xs, (F x = none ∧ t (at1 st v (e x)) = some (false, at1 st v (e x))) ∨ ∃ y r, F x = some y ∧ t (at1 st v (e x)) = some (true, at1 st v (e x)) ∧ el (at1 st v (e x)) = some (r, at1 st v (e x)) ∧ share (at1 st v (e x)) r = some (y, at1 st v (e x))) →
    runComp [v] (gC v) t el (xs.map e) (st.set v none) = some (xs.filterMap F, st.set v none)
  | [], _ => rfl
  | x :: xs, h => by
    have ih := run1 hv e F xs fun y hy => h y (List.mem_cons_of_mem _ hy)
    have hg : gC v (e x) (st.set v none) = some (at1 st v (e x)) := by
      have n0 : noOwn (st.set v none) v = true := noOwn_set hv none
      rw [a_gC, if_pos n0, List.set_set]
    have no : [v].all (noOwn (at1 st v (e x))) = true := by
      rw [List.all_cons, List.all_nil, Bool.and_true]; exact noOwn_set hv (some (e x))
    have wp : wipeS (at1 st v (e x)) [v] = st.set v none := by
      show (at1 st v (e x)).set v none = _
      exact List.set_set ..
    rw [List.map_cons, a_runComp, hg, Option.bind_some]
    rcases h x List.mem_cons_self with ⟨f0, t0⟩ | ⟨y, r, f0, t0, l0, s0⟩
    · rw [t0, Option.bind_some, if_neg Bool.false_ne_true, if_pos no, wp, ih, List.filterMap_cons, f0]
    · rw [t0, Option.bind_some, if_pos rfl, l0, Option.bind_some, s0, Option.bind_some, if_pos no, wp, ih, Option.bind_some, List.filterMap_cons, f0]
theorem comp1 {α : Type} {v : Nat} {fi : FI} {t : FT} {el : FE} {st s1 : Sx} {xs : List α} (e : α → PyData) (F : α → Option PyData) (h1 : fi st = some (xs.map e, s1)) (hl : xs.length ≤ LIM) (hv : v < s1.length) (hn : noOwn s1 v = true)
    (h : ∀ x ∈ xs, (F x = none ∧ t (at1 s1 v (e x)) = some (false, at1 s1 v (e x))) ∨ ∃ y r, F x = some y ∧ t (at1 s1 v (e x)) = some (true, at1 s1 v (e x)) ∧ el (at1 s1 v (e x)) = some (r, at1 s1 v (e x)) ∧ share (at1 s1 v (e x)) r = some (y, at1 s1 v (e x))) :
    oComp [v] fi (gC v) t el st = some (.ol false (xs.filterMap F), s1) := by
  have q := v_comp (vs := [v]) (h := gC v) (t := t) (el := el) h1 (by rw [List.length_map]; exact hl) (by rw [List.all_cons, List.all_nil, Bool.and_true]; exact hn) (run1 hv e F xs h)
  rw [q]
  congr 2
  exact set_back hv
/-- every item makes one -/
theorem comp1m {α : Type} {v : Nat} {fi : FI} {el : FE} {st s1 : Sx} {xs : List α} (e : α → PyData) (F : α → PyData) (h1 : fi st = some (xs.map e, s1)) (hl : xs.length ≤ LIM) (hv : v < s1.length) (hn : noOwn s1 v = true)
    (h : ∀ x ∈ xs, ∃ r, el (at1 s1 v (e x)) = some (r, at1 s1 v (e x)) ∧ share (at1 s1 v (e x)) r = some (F x, at1 s1 v (e x))) :
    oComp [v] fi (gC v) tYe el st = some (.ol false (xs.map F), s1) := by
  rw [comp1 e (fun x => some (F x)) h1 hl hv hn fun x hx => by
    obtain ⟨r, a, b⟩ := h x hx
    exact .inr ⟨_, r, rfl, rfl, a, b⟩]
  rw [List.filterMap_eq_map']
theorem filterMap_if {α β : Type} (q : α → Bool) (F : α → β) : ∀ xs : List α, xs.filterMap (fun x => if q x = true then some (F x) else none) = (xs.filter q).map F
  | [] => rfl
  | x :: xs => by
    rw [List.filterMap_cons, List.filter_cons]
    cases hq : q x with
    | false => simp only [Bool.false_eq_true, if_false]; exact filterMap_if q F xs
    | true => simp only [if_true, List.map_cons]; rw [filterMap_if q F xs]
/-- those that pass make one -/
theorem comp1f {α : Type} {v : Nat} {fi : FI} {t : FT} {el : FE} {st s1 : Sx} {xs : List α} (e : α → PyData) (q : α → Bool) (F : α → PyData) (h1 : fi st = some (xs.map e, s1)) (hl : xs.length ≤ LIM) (hv : v < s1.length) (hn : noOwn s1 v = true)
    (ht : ∀ x ∈ xs, t (at1 s1 v (e x)) = some (q x, at1 s1 v (e x))) (h : ∀ x ∈ xs, q x = true → ∃ r, el (at1 s1 v (e x)) = some (r, at1 s1 v (e x)) ∧ share (at1 s1 v (e x)) r = some (F x, at1 s1 v (e x))) :
    oComp [v] fi (gC v) t el st = some (.ol false ((xs.filter q).map F), s1) := by
  rw [comp1 e (fun x => if q x = true then some (F x) else none) h1 hl hv hn fun x hx => by
    have z := ht x hx
    cases hq : q x with
    | false => rw [hq] at z; exact .inl ⟨if_neg Bool.false_ne_true, z⟩
    | true =>
      rw [hq] at z
      obtain ⟨r, a, b⟩ := h x hx hq
      exact .inr ⟨_, r, if_pos rfl, z, a, b⟩]
  rw [filterMap_if]
end Pv

namespace Pv
open PySem PySem.Spec PyProof.Rows L2
/-! ### pairs out of order -/
/-- as they are met: the later thing, the earlier one -/
def pr : List Int → List (Int × Int)
  | [] => []
  | x :: r => (r.filter fun y => decide (y < x)).map (fun y => (y, x)) ++ pr r
/-- how many stand in order -/
def cu : List Int → Nat
  | [] => 0
  | x :: r => (r.filter fun y => decide (x < y)).length + cu r
theorem fl_part (x : Int) : ∀ r : List Int, x ∉ r → (r.filter fun y => decide (y < x)).length + (r.filter fun y => decide (x < y)).length = r.length
  | [], _ => rfl
  | y :: r, h => by
    rw [List.mem_cons, not_or] at h
    have ih := fl_part x r h.2
    rw [List.filter_cons, List.filter_cons, List.length_cons]
    by_cases c : y < x
    · rw [if_pos (decide_eq_true c), if_neg (by simp; omega), List.length_cons]; omega
    · rw [if_neg (by simp; omega), if_pos (by simp; omega), List.length_cons]; omega
theorem pr_len_cons (x : Int) (r : List Int) : (pr (x :: r)).length = (r.filter fun y => decide (y < x)).length + (pr r).length := by
  unfold pr
  rw [List.length_append, List.length_map]
  cases r <;> rfl
theorem pr_cu : ∀ w : List Int, w.Nodup → 2 * ((pr w).length + cu w) = w.length * (w.length - 1)
  | [], _ => rfl
  | x :: r, h => by
    obtain ⟨h1, h2⟩ := List.nodup_cons.mp h
    have ih := pr_cu r h2
    have p := fl_part x r h1
    rw [pr_len_cons]
    show 2 * (_ + (pr r).length + ((r.filter fun y => decide (x < y)).length + cu r)) = (r.length + 1) * r.length
    rw [Nat.add_mul, Nat.one_mul]
    cases hr : r.length with
    | zero => rw [hr] at ih p; simp only [Nat.zero_mul] at *; omega
    | succ k =>
      rw [hr] at ih p
      rw [show k + 1 - 1 = k by omega] at ih
      rw [Nat.mul_succ (k + 1) k]
      generalize (k + 1) * k = m at *
      omega
theorem pr_snoc (x : Int) : ∀ w : List Int, (pr (w ++ [x])).length = (pr w).length + (w.filter fun y => decide (x < y)).length
  | [] => rfl
  | y :: w => by
    rw [List.cons_append, pr_len_cons, pr_len_cons, pr_snoc x w, List.filter_append, List.length_append, List.filter_cons (x := y)]
    by_cases c : x < y
    · rw [List.filter_cons_of_pos (by simpa using c), if_pos (decide_eq_true c), List.length_cons]; simp; omega
    · rw [List.filter_cons_of_neg (by simpa using c), if_neg (by simpa using c)]; simp; omega
theorem fl_rev (q : Int → Bool) (w : List Int) : (w.reverse.filter q).length = (w.filter q).length := by
  rw [List.filter_reverse, List.length_reverse]
theorem pr_rev : ∀ w : List Int, (pr w.reverse).length = cu w
  | [] => rfl
  | x :: w => by
    rw [List.reverse_cons, pr_snoc, pr_rev w, fl_rev]
    show _ = _ + cu w
    omega
theorem cu_rev (w : List Int) : cu w.reverse = (pr w).length := by rw [← pr_rev, List.reverse_reverse]
theorem pr_neg (c : Int) : ∀ w : List Int, (pr (w.map fun x => c - x)).length = cu w
  | [] => rfl
  | x :: w => by
    rw [List.map_cons, pr_len_cons, pr_neg c w, List.filter_map, List.length_map]
    show _ = _ + cu w
    congr 2
    refine List.filter_congr fun y _ => ?_
    show decide (c - y < c - x) = decide (x < y)
    rw [decide_eq_decide]; omega
theorem pr_up : ∀ w : List Int, w.Pairwise (· < ·) → pr w = []
  | [], _ => rfl
  | x :: w, h => by
    obtain ⟨h1, h2⟩ := List.pairwise_cons.mp h
    unfold pr
    rw [pr_up w h2, List.append_nil, List.filter_eq_nil_iff.mpr fun y hy => by have := h1 y hy; simp; omega]; rfl
theorem pr_app : ∀ (w u : List Int), (∀ x ∈ w, ∀ y ∈ u, x < y) → pr u = [] → pr (w ++ u) = pr w
  | [], u, _, h => h
  | x :: w, u, h, hu => by
    rw [List.cons_append]
    unfold pr
    have z : u.filter (fun y => decide (y < x)) = [] := List.filter_eq_nil_iff.mpr fun y hy => by have := h x List.mem_cons_self y hy; simp; omega
    rw [pr_app w u (fun a ha => h a (List.mem_cons_of_mem _ ha)) hu, List.filter_append, z, List.append_nil]
theorem mem_pr {a b x : Int} {r : List Int} : (a, b) ∈ pr (x :: r) ↔ (b = x ∧ a ∈ r ∧ a < x) ∨ (a, b) ∈ pr r := by
  have e : pr (x :: r) = (r.filter fun y => decide (y < x)).map (fun y => (y, x)) ++ pr r := by rw [pr]
  rw [e, List.mem_append, List.mem_map]
  constructor
  · rintro (⟨y, hy, e⟩ | h)
    · cases e
      obtain ⟨h1, h2⟩ := List.mem_filter.mp hy
      exact .inl ⟨rfl, h1, of_decide_eq_true h2⟩
    · exact .inr h
  · rintro (⟨rfl, h1, h2⟩ | h)
    · exact .inl ⟨a, List.mem_filter.mpr ⟨h1, decide_eq_true h2⟩, rfl⟩
    · exact .inr h
theorem pr_in {a b : Int} : ∀ {w : List Int}, (a, b) ∈ pr w → a < b ∧ a ∈ w ∧ b ∈ w
  | [], h => nomatch h
  | x :: w, h => by
    rcases mem_pr.mp h with ⟨rfl, h1, h2⟩ | h
    · exact ⟨h2, List.mem_cons_of_mem _ h1, List.mem_cons_self⟩
    · obtain ⟨h1, h2, h3⟩ := pr_in h
      exact ⟨h1, List.mem_cons_of_mem _ h2, List.mem_cons_of_mem _ h3⟩
theorem mem_snoc {a b x : Int} : ∀ {w : List Int}, (a, b) ∈ pr (w ++ [x]) ↔ (a, b) ∈ pr w ∨ (a = x ∧ b ∈ w ∧ x < b)
  | [] => by
    constructor
    · intro h; rcases mem_pr.mp h with ⟨_, h, _⟩ | h <;> cases h
    · rintro (h | ⟨_, h, _⟩) <;> cases h
  | y :: w => by
    rw [List.cons_append, mem_pr, mem_snoc (w := w), mem_pr, List.mem_append, List.mem_singleton, List.mem_cons]
    constructor
    · rintro (⟨h1, h2 | h2, h3⟩ | h | ⟨h1, h2, h3⟩)
      · exact .inl (.inl ⟨h1, h2, h3⟩)
      · exact .inr ⟨h2, .inl h1, by omega⟩
      · exact .inl (.inr h)
      · exact .inr ⟨h1, .inr h2, h3⟩
    · rintro ((⟨h1, h2, h3⟩ | h) | ⟨h1, h2 | h2, h3⟩)
      · exact .inl ⟨h1, .inl h2, h3⟩
      · exact .inr (.inl h)
      · exact .inl ⟨h2, .inr h1, by omega⟩
      · exact .inr (.inr ⟨h1, h2, h3⟩)
theorem mem_rev {a b : Int} : ∀ {w : List Int}, w.Nodup → ((a, b) ∈ pr w.reverse ↔ a < b ∧ a ∈ w ∧ b ∈ w ∧ (a, b) ∉ pr w)
  | [], _ => ⟨(fun h => nomatch h), (fun h => nomatch h.2.1)⟩
  | x :: w, h => by
    obtain ⟨h1, h2⟩ := List.nodup_cons.mp h
    rw [List.reverse_cons, mem_snoc, mem_rev h2, List.mem_reverse, mem_pr, List.mem_cons, List.mem_cons]
    constructor
    · rintro (⟨q1, q2, q3, q4⟩ | ⟨q1, q2, q3⟩)
      · refine ⟨q1, .inr q2, .inr q3, ?_⟩
        rintro (⟨rfl, z, _⟩ | z)
        · exact h1 q3
        · exact q4 z
      · subst q1
        refine ⟨q3, .inl rfl, .inr q2, ?_⟩
        rintro (⟨rfl, z, _⟩ | z)
        · exact h1 q2
        · exact h1 (pr_in z).2.1
    · rintro ⟨q1, q2, q3, q4⟩
      rcases q2 with rfl | q2
      · rcases q3 with rfl | q3
        · omega
        · exact .inr ⟨rfl, q3, q1⟩
      · rcases q3 with rfl | q3
        · exact absurd (.inl ⟨rfl, q2, q1⟩) q4
        · exact .inl ⟨q1, q2, q3, fun z => q4 (.inr z)⟩
theorem pr_nodup : ∀ {w : List Int}, w.Nodup → (pr w).Nodup
  | [], _ => List.nodup_nil
  | x :: w, h => by
    obtain ⟨h1, h2⟩ := List.nodup_cons.mp h
    have e : pr (x :: w) = (w.filter fun y => decide (y < x)).map (fun y => (y, x)) ++ pr w := by rw [pr]
    rw [e]
    refine List.nodup_append.mpr ⟨?_, pr_nodup h2, ?_⟩
    · refine List.pairwise_map.mpr ((h2.filter _).imp fun {a b} ne e => ne ?_)
      exact (Prod.mk.inj e).1
    · intro p hp q hq e
      obtain ⟨y, hy, rfl⟩ := List.mem_map.mp hp
      subst e
      exact h1 (pr_in hq).2.2
/-! ### pairs sorted -/
def ltP (p q : Int × Int) : Prop := p.1 < q.1 ∨ (p.1 = q.1 ∧ p.2 < q.2)
def leP (p q : Int × Int) : Bool := decide (p.1 < q.1 ∨ (p.1 = q.1 ∧ p.2 ≤ q.2))
theorem perm_eq {α : Type} {le : α → α → Prop} (anti : ∀ a b, le a b → le b a → a = b) : ∀ {l m : List α}, l.Perm m → l.Pairwise le → m.Pairwise le → l = m
  | [], m, p, _, _ => (List.nil_perm.mp p).symm
  | a :: l, [], p, _, _ => absurd p.length_eq (by simp)
  | a :: l, b :: m, p, h1, h2 => by
    obtain ⟨a1, a2⟩ := List.pairwise_cons.mp h1
    obtain ⟨b1, b2⟩ := List.pairwise_cons.mp h2
    have e : a = b := by
      have ha : a ∈ b :: m := p.mem_iff.mp List.mem_cons_self
      have hb : b ∈ a :: l := p.mem_iff.mpr List.mem_cons_self
      rcases List.mem_cons.mp ha with e | ha
      · exact e
      · rcases List.mem_cons.mp hb with e | hb
        · exact e.symm
        · exact anti _ _ (a1 _ hb) (b1 _ ha)
    subst e
    rw [perm_eq anti ((List.perm_cons a).mp p) a2 b2]
abbrev enP (p : Int × Int) : PyData := .tuple [.int p.1, .int p.2]
def dP (ps : List (Int × Int)) : List PyData := ps.map enP
theorem sortD_dP {ps qs : List (Int × Int)} (p : ps.Perm qs) (h : qs.Pairwise ltP) : sortD (dP ps) = dP qs := by
  have e1 : (ps.mergeSort leP).map enP = (ps.map enP).mergeSort (PySem.W.dataLe false id) := by
    refine List.map_mergeSort fun a _ b _ => ?_
    have := congrFun (congrFun (PySem.W.dataLe_ii (β := Int × Int) (fun p => p.1) (fun p => p.2)) a) b
    show leP a b = PySem.W.dataLe false (fun b : Int × Int => PyData.tuple [.int b.1, .int b.2]) a b
    rw [this]; rfl
  rw [sortD_ms]; unfold dP
  rw [← e1]
  congr 1
  have s := List.pairwise_mergeSort (le := leP) (fun a b c h1 h2 => by
    unfold leP at *
    simp only [decide_eq_true_eq] at *
    omega) (fun a b => by
    unfold leP
    simp only [Bool.or_eq_true, decide_eq_true_eq]
    omega) ps
  refine perm_eq (le := fun a b => leP a b = true) (fun a b h1 h2 => ?_) ((List.mergeSort_perm ps leP).trans p) s (h.imp fun {a b} z => ?_)
  · unfold leP at h1 h2
    simp only [decide_eq_true_eq] at h1 h2
    exact Prod.ext (by omega) (by omega)
  · unfold leP
    unfold ltP at z
    simp only [decide_eq_true_eq]
    omega
theorem sOK_dP (ps : List (Int × Int)) (h : ps.length ≤ LIM) : sOK (dP ps) = true := by
  unfold sOK dP
  simp only [Bool.and_eq_true, Bool.or_eq_true, List.all_map, List.all_eq_true, decide_eq_true_eq, List.length_map]
  refine ⟨⟨⟨fun p _ => ?_, .inl fun p _ => rfl⟩, fun p _ => rfl⟩, h⟩
  show (ps.all _) = true
  rw [List.all_eq_true]
  intro q _
  show PySem.W.alike (enP p) (enP q) = true
  simp [PySem.W.alike, PySem.W.alikeAll]
theorem gSort_dP {ps qs : List (Int × Int)} (p : ps.Perm qs) (h : qs.Pairwise ltP) (hl : ps.length ≤ LIM) : gSort2 (.list (dP ps)) = some (dP qs) := by
  cases ps with
  | nil =>
    have e : qs = [] := List.nil_perm.mp p
    subst e
    rfl
  | cons a r =>
    have n : intsOf (dP (a :: r)) = none := rfl
    show (match intsOf (dP (a :: r)) with
      | some ns => some ((sortI ns).map PyData.int)
      | none => if sOK (dP (a :: r)) = true then some (sortD (dP (a :: r))) else none) = _
    rw [n]
    show (if sOK (dP (a :: r)) = true then some (sortD (dP (a :: r))) else none) = _
    rw [if_pos (sOK_dP _ hl), sortD_dP p h]
/-- the pairs a < b < n with a mark, in their order -/
def lexP (n : Nat) (q : Int → Int → Bool) : List (Int × Int) := (List.range n).flatMap fun a => ((rgI (a + 1) n).filter fun b => q a b).map fun b => ((a : Int), b)
where rgI (a n : Nat) : List Int := (List.range (n - a)).map fun i => ((a : Int) + (i : Nat))
theorem mem_rgI {a n : Nat} {b : Int} : b ∈ lexP.rgI a n ↔ (a : Int) ≤ b ∧ b < n := by
  unfold lexP.rgI
  rw [List.mem_map]
  constructor
  · rintro ⟨i, hi, rfl⟩
    have := List.mem_range.mp hi
    omega
  · rintro ⟨h1, h2⟩
    exact ⟨(b - a).toNat, List.mem_range.mpr (by omega), by omega⟩
theorem rgI_asc (a n : Nat) : (lexP.rgI a n).Pairwise (· < ·) := by
  unfold lexP.rgI
  exact List.pairwise_map.mpr (List.pairwise_lt_range.imp fun {i j} h => by omega)
theorem mem_lexP {n : Nat} {q : Int → Int → Bool} {a b : Int} : (a, b) ∈ lexP n q ↔ 0 ≤ a ∧ a < b ∧ b < n ∧ q a b = true := by
  unfold lexP
  rw [List.mem_flatMap]
  constructor
  · rintro ⟨k, hk, h⟩
    obtain ⟨y, hy, e⟩ := List.mem_map.mp h
    cases e
    obtain ⟨h1, h2⟩ := List.mem_filter.mp hy
    have := mem_rgI.mp h1
    exact ⟨by omega, by omega, by omega, h2⟩
  · rintro ⟨h1, h2, h3, h4⟩
    refine ⟨a.toNat, List.mem_range.mpr (by omega), List.mem_map.mpr ⟨b, List.mem_filter.mpr ⟨mem_rgI.mpr ⟨by omega, h3⟩, ?_⟩, ?_⟩⟩
    · rw [show ((a.toNat : Nat) : Int) = a by omega]; exact h4
    · rw [show ((a.toNat : Nat) : Int) = a by omega]
theorem lexP_asc (n : Nat) (q : Int → Int → Bool) : (lexP n q).Pairwise ltP := by
  unfold lexP
  refine List.pairwise_flatMap.mpr ⟨fun a _ => ?_, ?_⟩
  · refine List.pairwise_map.mpr ((((rgI_asc (a + 1) n).filter _)).imp fun {x y} h => .inr ⟨rfl, h⟩)
  · refine List.pairwise_lt_range.imp fun {a b} h p hp r hr => ?_
    obtain ⟨x, _, rfl⟩ := List.mem_map.mp hp
    obtain ⟨y, _, rfl⟩ := List.mem_map.mp hr
    exact .inl (by show (a : Int) < b; omega)
theorem ltP_nodup {l : List (Int × Int)} (h : l.Pairwise ltP) : l.Nodup := h.imp fun {a b} z e => by
  subst e
  unfold ltP at z
  omega
/-- what a sort of the pairs out of order makes -/
theorem pr_perm {n : Nat} {w : List Int} (hw : w.Nodup) (q : Int → Int → Bool) (h : ∀ a b, (a, b) ∈ pr w ↔ 0 ≤ a ∧ a < b ∧ b < n ∧ q a b = true) : (pr w).Perm (lexP n q) :=
  (List.perm_ext_iff_of_nodup (pr_nodup hw) (ltP_nodup (lexP_asc n q))).mpr fun ⟨a, b⟩ => (h a b).trans mem_lexP.symm
end Pv

namespace Pv
open PySem PySem.Spec PyProof.Rows L2
/-! ### dicts of pairs of small whole numbers -/
def dD (ps : List (Int × Int)) : List (PyData × PyData) := ps.map fun p => (enP p, .int 0)
theorem enP_isKn (p : Int × Int) : isKn (enP p) = true := rfl
theorem eqv_enP (p q : Int × Int) : PyData.eqv (enP p) (enP q) = decide (p = q) := by
  have := eqv_T [p.1, p.2] [q.1, q.2]
  simp only [iT, List.map_cons, List.map_nil] at this
  rw [this]
  obtain ⟨x, y⟩ := p
  obtain ⟨z, t⟩ := q
  simp
theorem dGet_dD (p : Int × Int) : ∀ ps : List (Int × Int), (dGet (dD ps) (enP p)).isSome = decide (p ∈ ps)
  | [] => rfl
  | q :: ps => by
    show (dGet ((enP q, .int 0) :: dD ps) (enP p)).isSome = _
    rw [dGet_cons]
    dsimp only
    rw [eqv_enP]
    by_cases e : q = p
    · rw [decide_eq_true e, if_pos rfl]; simp [e]
    · rw [decide_eq_false e, if_neg Bool.false_ne_true, dGet_dD p ps]
      rw [decide_eq_decide, List.mem_cons]
      exact ⟨.inr, fun h => h.resolve_left fun z => e z.symm⟩
theorem dD_kn (ps : List (Int × Int)) : (dD ps).all (fun p => isKn p.1) = true := by
  unfold dD
  rw [List.all_map, List.all_eq_true]
  intro p _
  rfl
theorem dOK_dD (ps : List (Int × Int)) (p : Int × Int) : dOK (dD ps) (enP p) = true := by
  unfold dOK
  rw [dD_kn, enP_isKn]; simp
theorem dPut_dD {ps : List (Int × Int)} {p : Int × Int} (h : p ∉ ps) : dPut (dD ps) (enP p) (.int 0) = dD (ps ++ [p]) := by
  unfold dPut
  rw [dGet_dD, if_neg (by simpa using h)]
  unfold dD
  rw [List.map_append]; rfl
theorem dMerge_dD : ∀ (ps qs : List (Int × Int)), (qs ++ ps).Nodup → dMerge (dD qs) (dD ps) = dD (qs ++ ps)
  | [], qs, _ => by rw [List.append_nil]; rfl
  | p :: ps, qs, h => by
    show dMerge (dD qs) ((enP p, .int 0) :: dD ps) = _
    rw [dMerge_cons]
    have hp : p ∉ qs := fun z => (List.nodup_append.mp h).2.2 p z p List.mem_cons_self rfl
    rw [dPut_dD hp]
    have e : qs ++ [p] ++ ps = qs ++ p :: ps := by rw [List.append_assoc]; rfl
    rw [dMerge_dD ps (qs ++ [p]) (by rw [e]; exact h), e]
theorem gPairs_dD : ∀ ps : List (Int × Int), gPairs (ps.map fun p => .tuple [enP p, .int 0]) = some (dD ps)
  | [] => rfl
  | p :: ps => by
    rw [List.map_cons]
    show (gPairs (ps.map fun p => .tuple [enP p, .int 0])).map _ = _
    rw [gPairs_dD ps]; rfl
theorem gDict_dD {ps : List (Int × Int)} (h : ps.Nodup) (hl : ps.length ≤ LIM) : gDict (.list (ps.map fun p => .tuple [enP p, .int 0])) = some (dD ps) := by
  show (gPairs _).bind _ = _
  rw [gPairs_dD, Option.bind_some]
  have k : kindOK (dD ps) = true := by unfold kindOK; rw [dD_kn]; simp
  rw [if_pos ⟨k, by rw [List.length_map]; exact hl⟩]
  have := dMerge_dD ps [] (by simpa using h)
  rw [List.nil_append] at this
  exact congrArg some this
theorem dKeys_dD (ps : List (Int × Int)) : dKeys (dD ps) = dP ps := by unfold dKeys dD dP; rw [List.map_map]; rfl
theorem dD_len (ps : List (Int × Int)) : (dD ps).length = ps.length := by unfold dD; rw [List.length_map]
/-! no two of these keys hash alike -/
def hp (p : Int × Int) : Int := dHash (enP p)
def all12 : List (Int × Int) := (List.range 12).flatMap fun (a : Nat) => (List.range 12).map fun (b : Nat) => (((a : Nat) : Int), ((b : Nat) : Int))
theorem hp_nd : (all12.map hp).Nodup := by decide +kernel
theorem mem_all12 {p : Int × Int} (h1 : 0 ≤ p.1 ∧ p.1 < 12) (h2 : 0 ≤ p.2 ∧ p.2 < 12) : p ∈ all12 := by
  unfold all12
  rw [List.mem_flatMap]
  refine ⟨p.1.toNat, List.mem_range.mpr (by omega), List.mem_map.mpr ⟨p.2.toNat, List.mem_range.mpr (by omega), Prod.ext ?_ ?_⟩⟩
  · show ((p.1.toNat : Nat) : Int) = p.1; omega
  · show ((p.2.toNat : Nat) : Int) = p.2; omega
theorem inj_nd {α β : Type} {f : α → β} : ∀ {l : List α}, (l.map f).Nodup → ∀ {x y : α}, x ∈ l → y ∈ l → f x = f y → x = y
  | a :: l, h, x, y, hx, hy, e => by
    rw [List.map_cons] at h
    obtain ⟨h1, h2⟩ := List.nodup_cons.mp h
    rcases List.mem_cons.mp hx with ex | hx
    · rcases List.mem_cons.mp hy with ey | hy
      · rw [ex, ey]
      · exact absurd (List.mem_map.mpr ⟨y, hy, by rw [← e, ex]⟩) h1
    · rcases List.mem_cons.mp hy with ey | hy
      · exact absurd (List.mem_map.mpr ⟨x, hx, by rw [e, ey]⟩) h1
      · exact inj_nd h2 hx hy e
theorem hp_eq (p : Int × Int) : hp p = dHash (enP p) := by rw [hp]
theorem hp_map : ∀ (ps : List (Int × Int)), (dD ps).map (fun p => dHash p.1) = ps.map hp
  | [] => rfl
  | p :: ps => by
    have e : dD (p :: ps) = (enP p, .int 0) :: dD ps := by rw [dD, dD, List.map_cons]
    rw [e, List.map_cons, List.map_cons, hp_map ps, hp_eq]
theorem hp_inj {a b : Int × Int} (ha : (0 ≤ a.1 ∧ a.1 < 12) ∧ 0 ≤ a.2 ∧ a.2 < 12) (hb : (0 ≤ b.1 ∧ b.1 < 12) ∧ 0 ≤ b.2 ∧ b.2 < 12) (e : hp a = hp b) : a = b := inj_nd hp_nd (mem_all12 ha.1 ha.2) (mem_all12 hb.1 hb.2) e
theorem nd_map {α β : Type} {f : α → β} {l : List α} (h : l.Nodup) (hi : ∀ a ∈ l, ∀ b ∈ l, f a = f b → a = b) : (l.map f).Nodup :=
  List.pairwise_map.mpr (h.imp_of_mem fun {a b} ha hb ne e => ne (hi a ha b hb e))
theorem hashOK_dD {ps : List (Int × Int)} (h : ps.Nodup) (hr : ∀ p ∈ ps, (0 ≤ p.1 ∧ p.1 < 12) ∧ 0 ≤ p.2 ∧ p.2 < 12) : hashOK (dD ps) = true := by
  unfold hashOK
  rw [hp_map]
  exact decide_eq_true (nd_map h fun a ha b hb e => hp_inj (hr a ha) (hr b hb) e)
theorem gUpd_dD {qs ps : List (Int × Int)} (h : (qs ++ ps).Nodup) (hr : ∀ p ∈ ps, (0 ≤ p.1 ∧ p.1 < 12) ∧ 0 ≤ p.2 ∧ p.2 < 12) (hl : qs.length + ps.length ≤ LIM) : gUpd (dD qs) (.dict (dD ps)) = some (.none, dD (qs ++ ps)) := by
  have c : ((((dD qs).all fun p => isKk p.1) && (dD ps).all fun p => isKk p.1) || (((dD qs).all fun p => isKn p.1) && ((dD ps).all fun p => isKn p.1) && (!(dD qs).isEmpty || hashOK (dD ps)))) = true := by
    rw [dD_kn qs, dD_kn ps, hashOK_dD (List.nodup_append.mp h).2.1 hr, Bool.or_true, Bool.and_true, Bool.and_true, Bool.or_true]
  have c2 : (dD qs).length + (dD ps).length ≤ LIM := by rw [dD_len, dD_len]; exact hl
  simp only [gUpd]
  rw [dMerge_dD ps qs h, if_pos ⟨c, c2⟩]
end Pv

namespace Pv
open PySem PySem.Spec PyProof.Rows L2
/-! ### two targets -/
abbrev at2 (st : Sx) (v u : Nat) (d e : PyData) : Sx := (st.set v (some (.sh d))).set u (some (.sh e))
theorem run2 {α : Type} {v u : Nat} {t : FT} {el : FE} {st : Sx} (hv : v < st.length) (hu : u < st.length) (ne : v ≠ u) (e e' : α → PyData) (F : α → PyData) : ∀ (xs : List α),
    (∀ x ∈ xs, t (at2 st v u (e x) (e' x)) = some (true, at2 st v u (e x) (e' x)) ∧ ∃ r, el (at2 st v u (e x) (e' x)) = some (r, at2 st v u (e x) (e' x)) ∧ share (at2 st v u (e x) (e' x)) r = some (F x, at2 st v u (e x) (e' x))) →
    runComp [v, u] (gTp 2 (gTCons (gC v) (gTCons (gC u) gTNil))) t el (xs.map fun x => .tuple [e x, e' x]) ((st.set u none).set v none) = some (xs.map F, (st.set u none).set v none)
  | [], _ => rfl
  | x :: xs, h => by
    have ih := run2 hv hu ne e e' F xs fun y hy => h y (List.mem_cons_of_mem _ hy)
    have hv2 : v < (st.set u none).length := by rw [List.length_set]; exact hv
    have n0 : noOwn ((st.set u none).set v none) v = true := noOwn_set hv2 none
    have n1 : noOwn ((st.set u none).set v (some (.sh (e x)))) u = true := by
      unfold noOwn
      rw [List.getElem?_set_ne ne, List.getElem?_set_self hu]
    have eq : ((st.set u none).set v (some (.sh (e x)))).set u (some (.sh (e' x))) = at2 st v u (e x) (e' x) := by
      rw [List.set_comm _ _ (Ne.symm ne), List.set_set]
    have hg : gTp 2 (gTCons (gC v) (gTCons (gC u) gTNil)) (.tuple [e x, e' x]) ((st.set u none).set v none) = some (at2 st v u (e x) (e' x)) := by
      rw [a_gTp, if_pos (show [e x, e' x].length = 2 from rfl), a_gTCons, a_gC, if_pos n0, Option.bind_some, List.set_set, a_gTCons, a_gC, if_pos n1, Option.bind_some, eq]; rfl
    have hu2 : u < (st.set v (some (.sh (e x)))).length := by rw [List.length_set]; exact hu
    have no : [v, u].all (noOwn (at2 st v u (e x) (e' x))) = true := by
      rw [List.all_cons, List.all_cons, List.all_nil, Bool.and_true, Bool.and_eq_true]
      refine ⟨?_, noOwn_set hu2 (some (e' x))⟩
      unfold noOwn
      rw [List.getElem?_set_ne (Ne.symm ne), List.getElem?_set_self hv]
    have wp : wipeS (at2 st v u (e x) (e' x)) [v, u] = (st.set u none).set v none := by
      show ((at2 st v u (e x) (e' x)).set u none).set v none = _
      unfold at2
      rw [List.set_set, List.set_comm _ _ (Ne.symm ne), List.set_set, List.set_comm _ _ (Ne.symm ne)]
    rw [List.map_cons, a_runComp, hg, Option.bind_some]
    obtain ⟨t0, r, l0, s0⟩ := h x List.mem_cons_self
    rw [t0, Option.bind_some, if_pos rfl, l0, Option.bind_some, s0, Option.bind_some, if_pos no, wp, ih, Option.bind_some]
    rfl
theorem comp2m {α : Type} {v u : Nat} {fi : FI} {el : FE} {st s1 : Sx} {xs : List α} (e e' : α → PyData) (F : α → PyData) (ne : v ≠ u) (h1 : fi st = some (xs.map (fun x => .tuple [e x, e' x]), s1)) (hl : xs.length ≤ LIM) (hv : v < s1.length) (hu : u < s1.length) (hn : noOwn s1 v = true) (hn2 : noOwn s1 u = true)
    (h : ∀ x ∈ xs, ∃ r, el (at2 s1 v u (e x) (e' x)) = some (r, at2 s1 v u (e x) (e' x)) ∧ share (at2 s1 v u (e x) (e' x)) r = some (F x, at2 s1 v u (e x) (e' x))) :
    oComp [v, u] fi (gTp 2 (gTCons (gC v) (gTCons (gC u) gTNil))) tYe el st = some (.ol false (xs.map F), s1) := by
  have q := v_comp (vs := [v, u]) (h := gTp 2 (gTCons (gC v) (gTCons (gC u) gTNil))) (t := tYe) (el := el) h1 (by rw [List.length_map]; exact hl) (by rw [List.all_cons, List.all_cons, List.all_nil, hn, hn2]; rfl) (run2 hv hu ne e e' F xs fun x hx => ⟨rfl, h x hx⟩)
  rw [q]
  congr 2
  show ((((s1.set u none).set v none).set u ((s1[u]?).getD none)).set v ((s1[v]?).getD none)) = s1
  rw [List.set_comm _ _ ne, List.set_set, List.set_set, List.getElem?_eq_getElem hu, List.getElem?_eq_getElem hv]
  show (s1.set u s1[u]).set v s1[v] = s1
  rw [set_same (List.getElem?_eq_getElem hu), set_same (List.getElem?_eq_getElem hv)]
/-! ### ranges -/
theorem rgD_I (a n : Nat) : rgD (a : Int) (n - a) = (lexP.rgI a n).map PyData.int := by
  unfold rgD lexP.rgI
  rw [List.map_map]; rfl
theorem rgI_len (a n : Nat) : (lexP.rgI a n).length = n - a := by unfold lexP.rgI; rw [List.length_map, List.length_range]
theorem v_rg2 {f g : FE} {st s1 s2 : Sx} {r q : R} {a n : Nat} (h : f st = some (r, s1)) (h2 : g s1 = some (q, s2)) (d1 : dat s2 r = some (.int (a : Int))) (d2 : dat s2 q = some (.int (n : Int))) (ha : a ≤ LIM) (hn : n ≤ LIM) : iRg2 f g st = some ((lexP.rgI a n).map .int, s2) := by
  have ha' : a ≤ 16000000 := ha
  have hn' : n ≤ 16000000 := hn
  unfold iRg2
  rw [h, Option.bind_some, h2, Option.bind_some, d1, Option.bind_some, d2, Option.bind_some]
  show (if -(2 ^ 62) ≤ (a : Int) ∧ (a : Int) < 2 ^ 62 ∧ -(2 ^ 62) ≤ (n : Int) ∧ (n : Int) < 2 ^ 62 then some (rgD (a : Int) ((n : Int) - a).toNat, s2) else none) = _
  rw [if_pos ⟨by omega, by omega, by omega, by omega⟩, show ((n : Int) - a).toNat = n - a by omega, rgD_I]
theorem v_rgL2 {f g : FE} {st s1 s2 : Sx} {r q : R} {a n : Nat} (h : f st = some (r, s1)) (h2 : g s1 = some (q, s2)) (d1 : dat s2 r = some (.int (a : Int))) (d2 : dat s2 q = some (.int (n : Int))) (ha : a ≤ LIM) (hn : n ≤ LIM) : oRgL (some f) g st = some (.ol false ((lexP.rgI a n).map .int), s2) := by
  have ha' : a ≤ 16000000 := ha
  have hn' : n ≤ 16000000 := hn
  have hl : ((n : Int) - a ≤ (LIM : Nat)) := by have : LIM = 16000000 := rfl; omega
  unfold oRgL
  dsimp only
  rw [h, Option.bind_some, h2, Option.bind_some, d1, Option.bind_some, d2, Option.bind_some]
  show (if -(2 ^ 61) ≤ (a : Int) ∧ (a : Int) ≤ 2 ^ 61 ∧ -(2 ^ 61) ≤ (n : Int) ∧ (n : Int) ≤ 2 ^ 61 ∧ (n : Int) - a ≤ (LIM : Nat) then some (M.ol false (rgD (a : Int) ((n : Int) - a).toNat), s2) else none) = _
  rw [if_pos ⟨by omega, by omega, by omega, by omega, hl⟩, show ((n : Int) - a).toNat = n - a by omega, rgD_I]
theorem v_rgL1 {f : FE} {st s1 : Sx} {r : R} {n : Nat} (h : f st = some (r, s1)) (d1 : dat s1 r = some (.int (n : Int))) (hn : n ≤ LIM) : oRgL none f st = some (.ol false ((upTo n).map .int), s1) := by
  have hn' : n ≤ 16000000 := hn
  rw [a_rgL, h, Option.bind_some, d1, Option.bind_some]
  have c1 : (n : Int) ≤ (LIM : Nat) := by have : LIM = 16000000 := rfl; omega
  show (if (n : Int) ≤ (LIM : Nat) ∧ -(2 ^ 62) ≤ (n : Int) then some (M.ol false (rgD 0 (n : Int).toNat), s1) else none) = _
  rw [if_pos ⟨c1, by omega⟩, Int.toNat_natCast, rg_upTo]
theorem rgI0 (n : Nat) : lexP.rgI 0 n = upTo n := by
  unfold lexP.rgI upTo
  refine List.map_congr_left fun i _ => by simp
theorem cut_from1 {α : Type} {xs : List α} {k : Nat} (h : k + 1 ≤ xs.length) : cut xs (some ((k : Int) + 1)) none = xs.drop (k + 1) := by
  rw [show ((k : Int) + 1) = ((k + 1 : Nat) : Int) by omega, cut_from h]
/-- by place, by thing -/
theorem rgI_drop (r : List Int) (a : Nat) : (lexP.rgI a r.length).map (fun j => r.getD j.toNat 0) = r.drop a := by
  unfold lexP.rgI
  rw [List.map_map]
  refine List.ext_getElem (by rw [List.length_map, List.length_range, List.length_drop]) fun i h1 h2 => ?_
  rw [List.length_map, List.length_range] at h1
  rw [List.getElem_map, List.getElem_range, List.getElem_drop]
  show r.getD (((a : Nat) : Int) + (i : Nat)).toNat 0 = _
  rw [show (((a : Nat) : Int) + (i : Nat)).toNat = a + i by omega, List.getD_eq_getElem?_getD, List.getElem?_eq_getElem (by omega)]
  rfl
end Pv

namespace Pv
open PySem PySem.Spec PyProof.Rows L2
/-! ### small steps, as rules -/
def oZ : Option M → Bool
  | none => true
  | some m => m.free
@[simp] theorem oZ_none : oZ none = true := rfl
@[simp] theorem oZ_some (m : M) : oZ (some m) = m.free := rfl
theorem s_op2 (st : Sx) (i : Nat) : open1 st i = match st[i]? with
  | some z => oZ z
  | none => false := by
  unfold open1
  cases st[i]? with
  | none => rfl
  | some z => cases z <;> rfl
section
variable {f g h : FE} {st s1 s2 s3 : Sx} {d d1 d2 d3 : PyData} {t t2 : FT} {r : R}
theorem v_e1 {op : PyData → Option PyData} {r : R} (a : f st = some (r, s1)) (b : dat s1 r = some d) (c : op d = some d1) : e1 op f st = some (.val d1, s1) := by rw [a_e1, a, Option.bind_some, b, Option.bind_some, c]; rfl
theorem v_e2 {op : PyData → PyData → Option PyData} {r q : R} (a : f st = some (r, s1)) (b : g s1 = some (q, s2)) (c : dat s2 r = some d) (e : dat s2 q = some d1) (k : op d d1 = some d2) : e2 op f g st = some (.val d2, s2) := by
  rw [a_e2, a, Option.bind_some, b, Option.bind_some, c, Option.bind_some, e, Option.bind_some, k]; rfl
theorem v_l0 : oLst aNil st = some (.ol false [], st) := by
  rw [a_oLst, a_aNil]
  show (if ([] : List PyData).length ≤ LIM then some (M.ol false [], st) else none) = _
  exact if_pos (Nat.zero_le _)
theorem v_l1 (a : f st = some (.val d, s1)) : oLst (aCons f aNil) st = some (.ol false [d], s1) := by
  rw [a_oLst, a_aCons, a, Option.bind_some]
  show (if [d].length ≤ LIM then some (M.ol false [d], s1) else none) = _
  exact if_pos (show 1 ≤ LIM by decide)
theorem v_l2 (a : f st = some (.val d, s1)) (b : g s1 = some (.val d1, s2)) : oLst (aCons f (aCons g aNil)) st = some (.ol false [d, d1], s2) := by
  rw [a_oLst, a_aCons, a, Option.bind_some, a_aCons, b]
  show (if [d, d1].length ≤ LIM then some (M.ol false [d, d1], s2) else none) = _
  exact if_pos (show 2 ≤ LIM by decide)
theorem v_lv2 {i j : Nat} (a : st[i]? = some (some (.sh d))) (b : st[j]? = some (some (.sh d1))) : oLst (aCons (eVar i) (aCons (eVar j) aNil)) st = some (.ol false [d, d1], st) := by
  rw [a_oLst, a_aCons, a_eVar st i a, Option.bind_some, a_aCons, a_eVar st j b, Option.bind_some, a_aNil, Option.bind_some, Option.bind_some, Option.bind_some, a_shs, a_shVar st i a, Option.bind_some, a_shs, a_shVar st j b, Option.bind_some, a_shs0, Option.bind_some, Option.bind_some, Option.bind_some]
  exact if_pos (show 2 ≤ LIM by decide)
theorem v_l3 (a : f st = some (.val d, s1)) (b : g s1 = some (.val d1, s2)) (c : h s2 = some (.val d2, s3)) : oLst (aCons f (aCons g (aCons h aNil))) st = some (.ol false [d, d1, d2], s3) := by
  rw [a_oLst, a_aCons, a, Option.bind_some, a_aCons, b, Option.bind_some, a_aCons, c]
  show (if [d, d1, d2].length ≤ LIM then some (M.ol false [d, d1, d2], s3) else none) = _
  exact if_pos (show 3 ≤ LIM by decide)
theorem v_t2 (a : f st = some (.val d, s1)) (b : g s1 = some (.val d1, s2)) : eTup (aCons f (aCons g aNil)) st = some (.val (.tuple [d, d1]), s2) := by
  rw [a_eTup, a_aCons, a, Option.bind_some, a_aCons, b]
  show (if [d, d1].length ≤ LIM then some (R.val (.tuple [d, d1]), s2) else none) = _
  exact if_pos (show 2 ≤ LIM by decide)
theorem v_tv2 {i j : Nat} (a : st[i]? = some (some (.sh d))) (b : st[j]? = some (some (.sh d1))) : eTup (aCons (eVar i) (aCons (eVar j) aNil)) st = some (.val (.tuple [d, d1]), st) := by
  rw [a_eTup, a_aCons, a_eVar st i a, Option.bind_some, a_aCons, a_eVar st j b, Option.bind_some, a_aNil, Option.bind_some, Option.bind_some, Option.bind_some, a_shs, a_shVar st i a, Option.bind_some, a_shs, a_shVar st j b, Option.bind_some, a_shs0, Option.bind_some, Option.bind_some, Option.bind_some]
  exact if_pos (show 2 ≤ LIM by decide)
theorem v_t3 (a : f st = some (.val d, s1)) (b : g s1 = some (.val d1, s2)) (c : h s2 = some (.val d2, s3)) : eTup (aCons f (aCons g (aCons h aNil))) st = some (.val (.tuple [d, d1, d2]), s3) := by
  rw [a_eTup, a_aCons, a, Option.bind_some, a_aCons, b, Option.bind_some, a_aCons, c]
  show (if [d, d1, d2].length ≤ LIM then some (R.val (.tuple [d, d1, d2]), s3) else none) = _
  exact if_pos (show 3 ≤ LIM by decide)
theorem v_call1 {sem : Sem'} {m : M} {ms : List M} {r : R} (a : f st = some (r, s1)) (b : share s1 r = some (d, s2)) (e : sem [.sh d] = some (m, ms)) : oCall sem (aCons f aNil) st = some (m, s2) := by
  rw [a_oCall, a_aCons, a, Option.bind_some]
  show (((share s1 r).bind _).bind _) = _
  rw [b]
  show ((sem [.sh d]).bind _) = _
  rw [e]; rfl
theorem v_call2 {sem : Sem'} {m : M} {ms : List M} {r q : R} (a : f st = some (r, s1)) (b : g s1 = some (q, s1)) (c : share s1 r = some (d, s1)) (c2 : share s1 q = some (d1, s1)) (e : sem [.sh d, .sh d1] = some (m, ms)) : oCall sem (aCons f (aCons g aNil)) st = some (m, s1) := by
  rw [a_oCall, a_aCons, a, Option.bind_some, a_aCons, b]
  show (((share s1 r).bind _).bind _) = _
  rw [c]
  show ((((share s1 q).bind _).bind _).bind _) = _
  rw [c2]
  show ((sem [.sh d, .sh d1]).bind _) = _
  rw [e]; rfl
theorem v_orF (a : t st = some (false, s1)) (b : t2 s1 = some (false, s2)) : tOr' t t2 st = some (false, s2) := by rw [a_tOr, a, Option.bind_some, if_neg Bool.false_ne_true, b]
theorem v_neSame {x : Str} (a : f st = some (.val (.str x), s1)) (b : g s1 = some (.val (.str x), s2)) : tBl (e2 gNeS f g) st = some (false, s2) := by
  rw [a_tBl, v_e2 a b rfl rfl (s_neS x x), decide_eq_true rfl]; rfl
theorem v_neSame2 {x : Str} {r q : R} (a : f st = some (r, s1)) (b : g s1 = some (q, s2)) (c : dat s2 r = some (.str x)) (e : dat s2 q = some (.str x)) : tBl (e2 gNeS f g) st = some (false, s2) := by
  rw [a_tBl, v_e2 a b c e (s_neS x x), decide_eq_true rfl]; rfl
theorem s_neI (x : Int) : gNe (.int x) (.int x) = some (.bool false) := by
  show some (PyData.bool (!(x == x))) = _
  rw [beq_self_eq_true]; rfl
theorem v_neI {x : Int} (a : f st = some (.val (.int x), s1)) (b : g s1 = some (.val (.int x), s2)) : tBl (e2 gNe f g) st = some (false, s2) := by
  rw [a_tBl, v_e2 a b rfl rfl (s_neI x)]; rfl
theorem v_tup {f : FO} {ds : List PyData} (a : f st = some (.ol false ds, s1)) : toTup f st = some (.val (.tuple ds), s1) := by rw [a_toTup, a]; rfl
theorem v_gNm {i : Nat} (h : open1 st i = true) : gNm i d st = some (st.set i (some (.sh d))) := by rw [a_gNm, if_pos h]
end
end Pv

namespace Pv
open PySem PySem.Spec PyProof.Rows L2
/-! ### one rule a construct, its premises in the order in which they are asked -/
theorem small_lim {n : Nat} (h : n ≤ 1000) : n ≤ LIM := Nat.le_trans h (by decide)
theorem beq_lim {n : Nat} (h : Nat.ble n 1000 = true) : n ≤ LIM := small_lim (Nat.le_of_ble_eq_true h)
section
variable {f g h : FE} {st s1 s2 s3 s4 s5 s6 : Sx} {d d1 d2 d3 : PyData} {ds es : List PyData} {t t2 : FT} {r q w : R} {rs : List R} {o o2' : FO} {a : FA} {m m2 : M} {b c : Bool} {i j : Nat} {ms : List M}
theorem x_var (p1 : st[i]? = some (some m)) : eVar i st = some (.var i, st) := a_eVar st i p1
theorem x_cst : eCst d st = some (.val d, st) := rfl
theorem x_e1 {op : PyData → Option PyData} (p1 : f st = some (r, s1)) (p2 : dat s1 r = some d) (p3 : op d = some d1) : e1 op f st = some (.val d1, s1) := v_e1 p1 p2 p3
theorem x_e2 {op : PyData → PyData → Option PyData} (p1 : f st = some (r, s1)) (p2 : g s1 = some (q, s2)) (p3 : dat s2 r = some d) (p4 : dat s2 q = some d1) (p5 : op d d1 = some d2) : e2 op f g st = some (.val d2, s2) := v_e2 p1 p2 p3 p4 p5
theorem x_e3 {op : PyData → Option Int → Option Int → Option PyData} {fl fh : FP} {k l : Option Int} (p1 : f st = some (r, s1)) (p2 : fl s1 = some (k, s2)) (p3 : fh s2 = some (l, s3)) (p4 : dat s3 r = some d) (p5 : op d k l = some d1) : e3 op f fl fh st = some (.val d1, s3) := by
  rw [a_e3, p1, Option.bind_some, p2, Option.bind_some, p3, Option.bind_some, p4, Option.bind_some, p5]; rfl
theorem x_fp0 : fpNone st = some (none, st) := rfl
theorem x_fp1 {k : Int} (p1 : f st = some (r, s1)) (p2 : dat s1 r = some (.int k)) : fpSome f st = some (some k, s1) := by rw [a_fpSome, p1, Option.bind_some, p2]; rfl
theorem x_fr (p1 : o st = some (m, s1)) (p2 : m.dat = some d) : eFr o st = some (.val d, s1) := v_fr p1 p2
theorem x_sh (p1 : f st = some (r, s1)) (p2 : share s1 r = some (d, s2)) : oSh f st = some (.sh d, s2) := by rw [a_oSh, p1, Option.bind_some, p2]; rfl
theorem x_a0 : aNil st = some ([], st) := rfl
theorem x_a1 (p1 : f st = some (r, s1)) (p2 : a s1 = some (rs, s2)) : aCons f a st = some (r :: rs, s2) := by rw [a_aCons, p1, Option.bind_some, p2]; rfl
theorem x_as (p1 : f st = some (r, s1)) (p2 : share s1 r = some (.list ds, s2)) (p3 : a s2 = some (rs, s3)) : aStar f a st = some (ds.map R.val ++ rs, s3) := by
  show (f st).bind _ = _
  rw [p1, Option.bind_some]
  show (share s1 r).bind _ = _
  rw [p2, Option.bind_some]
  show (a s2).bind _ = _
  rw [p3]; rfl
theorem x_s0 : shares st [] = some ([], st) := rfl
theorem x_s1 (p1 : share st r = some (d, s1)) (p2 : shares s1 rs = some (ds, s2)) : shares st (r :: rs) = some (d :: ds, s2) := by rw [a_shs, p1, Option.bind_some, p2]; rfl
theorem x_sv (p1 : shares st rs = some (es, s1)) : shares st (ds.map R.val ++ rs) = some (ds ++ es, s1) := by
  induction ds with
  | nil => exact p1
  | cons d ds ih => exact x_s1 rfl ih
theorem x_tup (p1 : a st = some (rs, s1)) (p2 : shares s1 rs = some (ds, s2)) (p3 : Nat.ble ds.length 1000 = true) : eTup a st = some (.val (.tuple ds), s2) := by
  rw [a_eTup, p1, Option.bind_some, p2, Option.bind_some]
  exact if_pos (beq_lim p3)
theorem x_lst (p1 : a st = some (rs, s1)) (p2 : shares s1 rs = some (ds, s2)) (p3 : Nat.ble ds.length 1000 = true) : oLst a st = some (.ol false ds, s2) := by
  rw [a_oLst, p1, Option.bind_some, p2, Option.bind_some]
  exact if_pos (beq_lim p3)
theorem x_c1 {sem : Sem'} (p1 : f st = some (r, s1)) (p2 : share s1 r = some (d, s2)) (p3 : sem [.sh d] = some (m, ms)) : oCall sem (aCons f aNil) st = some (m, s2) := v_call1 p1 p2 p3
theorem x_c2 {sem : Sem'} (p1 : f st = some (r, s1)) (p2 : g s1 = some (q, s2)) (p3 : share s2 r = some (d, s3)) (p4 : share s3 q = some (d1, s4)) (p5 : sem [.sh d, .sh d1] = some (m, ms)) : oCall sem (aCons f (aCons g aNil)) st = some (m, s4) := by
  rw [a_oCall, a_aCons, p1, Option.bind_some, a_aCons, p2]
  show (((share s2 r).bind _).bind _) = _
  rw [p3]
  show ((((share s3 q).bind _).bind _).bind _) = _
  rw [p4]
  show ((sem [.sh d, .sh d1]).bind _) = _
  rw [p5]; rfl
theorem x_c3 {sem : Sem'} (p1 : f st = some (r, s1)) (p2 : g s1 = some (q, s2)) (p3 : h s2 = some (w, s3)) (p4 : share s3 r = some (d, s4)) (p5 : share s4 q = some (d1, s5)) (p6 : share s5 w = some (d2, s6)) (p7 : sem [.sh d, .sh d1, .sh d2] = some (m, ms)) : oCall sem (aCons f (aCons g (aCons h aNil))) st = some (m, s6) := by
  rw [a_oCall, a_aCons, p1, Option.bind_some, a_aCons, p2, Option.bind_some, a_aCons, p3]
  show (((share s3 r).bind _).bind _) = _
  rw [p4]
  show ((((share s4 q).bind _).bind _).bind _) = _
  rw [p5]
  show (((((share s5 w).bind _).bind _).bind _).bind _) = _
  rw [p6]
  show ((sem [.sh d, .sh d1, .sh d2]).bind _) = _
  rw [p7]; rfl
theorem callS_eq {sem : Sem'} {ds : List PyData} {s s' : Src} {ms : List M} (p0 : has st i = true) (p1 : a st = some (rs, s1)) (p2 : shares s1 rs = some (ds, s2)) (p3 : s2[i]? = some (some (.src s))) (p4 : sem (.src s :: ds.map M.sh) = some (m, .src s' :: ms)) : oCallS sem i a st = some (m, s2.set i (some (.src s'))) := by
  rw [r_oCallS, if_pos p0, p1, Option.bind_some, p2, Option.bind_some]
  simp only [p3, s_ld, Option.bind_some, p4, s_uld]
theorem x_k0 {sem : Sem'} {s s' : Src} (p0 : has st i = true) (p1 : st[i]? = some (some (.src s))) (p2 : sem [.src s] = some (m, .src s' :: ms)) : oCallS sem i aNil st = some (m, st.set i (some (.src s'))) := callS_eq (ds := []) p0 rfl rfl p1 p2
theorem x_k1 {sem : Sem'} {s s' : Src} (p0 : has st i = true) (p1 : f st = some (r, s1)) (p2 : share s1 r = some (d, s2)) (p3 : s2[i]? = some (some (.src s))) (p4 : sem [.src s, .sh d] = some (m, .src s' :: ms)) : oCallS sem i (aCons f aNil) st = some (m, s2.set i (some (.src s'))) :=
  callS_eq (ds := [d]) p0 (x_a1 p1 x_a0) (x_s1 p2 x_s0) p3 p4
theorem x_k2 {sem : Sem'} {s s' : Src} (p0 : has st i = true) (p1 : f st = some (r, s1)) (p2 : g s1 = some (q, s2)) (p3 : share s2 r = some (d, s3)) (p4 : share s3 q = some (d1, s4)) (p5 : s4[i]? = some (some (.src s))) (p6 : sem [.src s, .sh d, .sh d1] = some (m, .src s' :: ms)) : oCallS sem i (aCons f (aCons g aNil)) st = some (m, s4.set i (some (.src s'))) :=
  callS_eq (ds := [d, d1]) p0 (x_a1 p1 (x_a1 p2 x_a0)) (x_s1 p3 (x_s1 p4 x_s0)) p5 p6
theorem x_o1 {op : PyData → Option (List PyData)} (p1 : f st = some (r, s1)) (p2 : dat s1 r = some d) (p3 : op d = some ds) : o1 op f st = some (.ol false ds, s1) := by rw [a_o1, p1, Option.bind_some, p2, Option.bind_some, p3]; rfl
theorem x_o2 {op : PyData → PyData → Option (List PyData)} (p1 : f st = some (r, s1)) (p2 : g s1 = some (q, s2)) (p3 : dat s2 r = some d) (p4 : dat s2 q = some d1) (p5 : op d d1 = some ds) : o2 op f g st = some (.ol false ds, s2) := by rw [a_o2, p1, Option.bind_some, p2, Option.bind_some, p3, Option.bind_some, p4, Option.bind_some, p5]; rfl
theorem x_totup (p1 : o st = some (.ol false ds, s1)) : toTup o st = some (.val (.tuple ds), s1) := v_tup p1
theorem x_mv (p1 : st[i]? = some (some m)) (p2 : m.free = true) : oMv i st = some (m, st.set i none) := by rw [r_oMv, p1]; exact if_pos p2
theorem x_d0 : oD0 st = some (.od false [], st) := rfl
theorem x_bl (p1 : f st = some (r, s1)) (p2 : dat s1 r = some (.bool b)) : tBl f st = some (b, s1) := by rw [a_tBl, p1, Option.bind_some, p2]; rfl
theorem x_tr (p1 : f st = some (r, s1)) (p2 : dat s1 r = some d) (p3 : truD d = some b) : tTr f st = some (b, s1) := by
  show (f st).bind _ = _
  rw [p1, Option.bind_some]
  show (dat s1 r).bind _ = _
  rw [p2, Option.bind_some, p3]; rfl
theorem x_an1 (p1 : t st = some (true, s1)) (p2 : t2 s1 = some (b, s2)) : tAn t t2 st = some (b, s2) := by rw [a_tAn, p1, Option.bind_some, if_pos rfl, p2]
theorem x_an0 (p1 : t st = some (false, s1)) : tAn t t2 st = some (false, s1) := by rw [a_tAn, p1, Option.bind_some, if_neg Bool.false_ne_true]
theorem x_or0 (p1 : t st = some (false, s1)) (p2 : t2 s1 = some (b, s2)) : tOr' t t2 st = some (b, s2) := by rw [a_tOr, p1, Option.bind_some, if_neg Bool.false_ne_true, p2]
theorem x_or1 (p1 : t st = some (true, s1)) : tOr' t t2 st = some (true, s1) := by rw [a_tOr, p1, Option.bind_some, if_pos rfl]
/-- both are asked where nothing changes -/
theorem x_anB (p1 : t st = some (b, st)) (p2 : t2 st = some (c, st)) : tAn t t2 st = some (b && c, st) := by
  cases b
  · exact x_an0 p1
  · rw [x_an1 p1 p2]; rfl
theorem x_orB (p1 : t st = some (b, st)) (p2 : t2 st = some (c, st)) : tOr' t t2 st = some (b || c, st) := by
  cases b
  · rw [x_or0 p1 p2]; rfl
  · exact x_or1 p1
theorem x_no (p1 : t st = some (b, s1)) : tNo t st = some (!b, s1) := by rw [a_tNo, p1]; rfl
theorem x_ye : tYe st = some (true, st) := rfl
theorem x_chainB {o1' o2' : PyData → PyData → Option PyData} (p1 : f st = some (r, st)) (p2 : g st = some (q, st)) (p3 : h st = some (w, st)) (p4 : dat st r = some d) (p5 : dat st q = some d1) (p6 : dat st w = some d2) (p7 : o1' d d1 = some (.bool b)) (p8 : o2' d1 d2 = some (.bool c)) : eChain o1' o2' f g h st = some (.val (.bool (b && c)), st) := by
  show (f st).bind _ = _
  rw [p1, Option.bind_some]
  show (g st).bind _ = _
  rw [p2, Option.bind_some]
  show (dat st r).bind _ = _
  rw [p4, Option.bind_some]
  show (dat st q).bind _ = _
  rw [p5, Option.bind_some]
  show (o1' d d1).bind _ = _
  rw [p7, Option.bind_some]
  cases b
  · rfl
  · show (h st).bind _ = _
    rw [p3, Option.bind_some]
    show (dat st q).bind _ = _
    rw [p5, Option.bind_some]
    show (dat st w).bind _ = _
    rw [p6, Option.bind_some, p8]; rfl
theorem x_set (p1 : o st = some (m, s1)) (p2 : open1 s1 i = true) : sSet i o st = some (.next, s1.set i (some m)) := v_set p1 p2
theorem x_par (p1 : o st = some (m, s1)) (p2 : o2' s1 = some (m2, s2)) (p3 : open1 s2 j = true) (p4 : open1 (s2.set j (some m2)) i = true) : sPar i j o o2' st = some (.next, (s2.set j (some m2)).set i (some m)) := v_par p1 p2 p3 p4
theorem x_asg {k : FG} (p1 : o st = some (.sh d, s1)) (p2 : k d s1 = some s2) : sAsg o k st = some (.next, s2) := by rw [a_sAsg, p1, Option.bind_some]; show (k d s1).bind _ = _; rw [p2]; rfl
theorem x_gn (p1 : open1 st i = true) : gNm i d st = some (st.set i (some (.sh d))) := v_gNm p1
theorem x_gp {k : FGs} {n : Nat} (p1 : ds.length = n) (p2 : k ds st = some s1) : gTp n k (.tuple ds) st = some s1 := by rw [a_gTp, if_pos p1, p2]
theorem x_gp2 {k : FGs} {n : Nat} (p1 : ds.length = n) (p2 : k ds st = some s1) : gTp2 n k (.list ds) st = some s1 := by
  show (if ds.length = n then k ds st else none) = _
  rw [if_pos p1, p2]
theorem x_g0 : gTNil [] st = some st := rfl
theorem x_g1 {k : FG} {k2 : FGs} (p1 : k d st = some s1) (p2 : k2 ds s1 = some s2) : gTCons k k2 (d :: ds) st = some s2 := by rw [a_gTCons, p1, Option.bind_some, p2]
theorem x_ret (p1 : o st = some (m, s1)) : sRet o st = some (.ret m, s1) := v_ret p1
theorem x_ex (p1 : f st = some (r, s1)) : sExpr f st = some (.next, s1) := by rw [a_sExpr, p1]; rfl
theorem x_pass : sPass st = some (.next, st) := rfl
theorem x_if0 {k k2 : FS} {z : Option (Out × Sx)} (p1 : t st = some (b, s1)) (p2 : b = false) (p3 : k2 s1 = z) : sIf t k k2 st = z := by subst p2; exact v_ifF p1 p3
theorem x_if1 {k k2 : FS} {z : Option (Out × Sx)} (p1 : t st = some (b, s1)) (p2 : b = true) (p3 : k s1 = z) : sIf t k k2 st = z := by subst p2; exact v_ifT p1 p3
theorem x_b0 : bNil st = some (.next, st) := rfl
theorem x_bn {k k2 : FS} {z : Option (Out × Sx)} (p1 : k st = some (.next, s1)) (p2 : k2 s1 = z) : bCons k k2 st = z := bc p1 p2
theorem x_br {k k2 : FS} (p1 : k st = some (.ret m, s1)) : bCons k k2 st = some (.ret m, s1) := br p1
theorem x_lm1 {op : List PyData → PyData → Option (PyData × List PyData)} {b2 : Bool} {ds0 : List PyData} (p1 : st[j]? = some (some (.ol b ds0))) (p2 : f st = some (r, s1)) (p3 : share s1 r = some (d, s2)) (p4 : s2[j]? = some (some (.ol b2 ds))) (p5 : op ds d = some (d1, es)) : eLm1 j op f st = some (.val d1, s2.set j (some (.ol b2 es))) := by
  rw [r_eLm1, p1]
  show (f st).bind _ = _
  rw [p2, Option.bind_some, p3, Option.bind_some]
  simp only [p4, p5, Option.bind_some]
theorem x_ext {b2 : Bool} {ds0 : List PyData} (p1 : st[i]? = some (some (.ol b ds0))) (p2 : f st = some (r, s1)) (p3 : share s1 r = some (d, s2)) (p4 : s2[i]? = some (some (.ol b2 ds))) (p5 : gExtend ds d = some (d1, es)) : sExt i f st = some (.next, s2.set i (some (.ol b2 es))) := by
  rw [r_sExt, p1]
  show (f st).bind _ = _
  rw [p2, Option.bind_some, p3, Option.bind_some]
  simp only [p4, p5, Option.bind_some]
theorem x_dput {b2 : Bool} {kv0 kvs : List (PyData × PyData)} (p1 : g st = some (q, s1)) (p2 : share s1 q = some (d, s2)) (p3 : s2[j]? = some (some (.od b kv0))) (p4 : f s2 = some (r, s3)) (p5 : share s3 r = some (d1, s4)) (p6 : s4[j]? = some (some (.od b2 kvs))) (p7 : dOK kvs d1 = true ∧ kvs.length < LIM) : sDPut j f g st = some (.next, s4.set j (some (.od b2 (dPut kvs d1 d)))) := by
  rw [r_sDPut, p1, Option.bind_some, p2, Option.bind_some]
  simp only [p3, p4, Option.bind_some, p5, p6]
  rw [if_pos p7]
theorem x_em1 {ty : Ty} {op : PyData → PyData → Option PyData} (p1 : f st = some (r, s1)) (p2 : dat s1 r = some d) (p3 : ty.has d = true) (p4 : g s1 = some (q, s2)) (p5 : dat s2 r = some d1) (p6 : dat s2 q = some d2) (p7 : op d1 d2 = some d3) : em1 ty op f g st = some (.val d3, s2) := by
  rw [a_em1, p1, Option.bind_some, p2, Option.bind_some, if_pos p3, p4, Option.bind_some, p5, Option.bind_some, p6, Option.bind_some, p7]; rfl
theorem x_iseqT (p1 : f st = some (r, s1)) (p2 : share s1 r = some (.tuple ds, s2)) : iSeq f st = some (ds, s2) := by rw [a_iSeq, p1, Option.bind_some, p2]; rfl
theorem x_iseqL (p1 : f st = some (r, s1)) (p2 : share s1 r = some (.list ds, s2)) : iSeq f st = some (ds, s2) := by rw [a_iSeq, p1, Option.bind_some, p2]; rfl
theorem x_ien (p1 : iSeq f st = some (ds, s1)) : iEn f st = some (enD ds, s1) := by rw [r_iEn, p1]; rfl
theorem x_eif1 (p1 : t st = some (b, s1)) (p2 : b = true) (p3 : f s1 = some (r, s2)) : eIf t f g st = some (r, s2) := by subst p2; rw [a_eIf, p1, Option.bind_some, if_pos rfl, p3]
theorem x_eif0 (p1 : t st = some (b, s1)) (p2 : b = false) (p3 : g s1 = some (r, s2)) : eIf t f g st = some (r, s2) := by subst p2; rw [a_eIf, p1, Option.bind_some, if_neg Bool.false_ne_true, p3]
theorem ev_to {α : Type} {x y z : α} (p1 : x = y) (p2 : y = z) : x = z := p1.trans p2
theorem x_op {z : Option M} (p1 : st[i]? = some z) (p2 : oZ z = true) : open1 st i = true := by rw [s_op2, p1]; exact p2
theorem x_oif1 (p1 : t st = some (b, s1)) (p2 : b = true) (p3 : o s1 = some (m, s2)) : oIf t o o2' st = some (m, s2) := by subst p2; rw [a_oIf, p1, Option.bind_some, if_pos rfl, p3]
theorem x_oif0 (p1 : t st = some (b, s1)) (p2 : b = false) (p3 : o2' s1 = some (m, s2)) : oIf t o o2' st = some (m, s2) := by subst p2; rw [a_oIf, p1, Option.bind_some, if_neg Bool.false_ne_true, p3]
theorem x_gslC {fl fh : FP} {k l : Int} {b2 : Bool} (p0 : has st j = true) (p1 : fl st = some (some k, s1)) (p2 : fh s1 = some (some l, s2)) (p3 : s2[j]? = some (some (.ol b2 ds))) (p4 : 0 ≤ k ∧ k ≤ l ∧ ds.length + es.length ≤ LIM) : gSlC j fl fh (.list es) st = some (s2.set j (some (.ol b2 (ds.take k.toNat ++ es ++ ds.drop l.toNat)))) := by
  unfold gSlC
  rw [if_pos p0, p1, Option.bind_some, p2, Option.bind_some]
  simp only [p3]
  rw [if_pos p4]
theorem x_par3 {i' : Nat} {m3 : M} {o3' : FO} (p1 : o st = some (m, s1)) (p2 : o2' s1 = some (m2, s2)) (p3 : o3' s2 = some (m3, s3)) (p4 : open1 s3 i' = true) (p5 : open1 (s3.set i' (some m3)) j = true) (p6 : open1 ((s3.set i' (some m3)).set j (some m2)) i = true) : sPar3 i j i' o o2' o3' st = some (.next, ((s3.set i' (some m3)).set j (some m2)).set i (some m)) := by
  show (o st).bind _ = _
  rw [p1, Option.bind_some]
  show (o2' s1).bind _ = _
  rw [p2, Option.bind_some]
  show (o3' s2).bind _ = _
  rw [p3, Option.bind_some]
  show (putS s3 i' m3).bind _ = _
  rw [a_putS, if_pos p4, Option.bind_some, a_putS, if_pos p5, Option.bind_some, a_putS, if_pos p6]; rfl
theorem x_gat {k : Int} {nn : Nat} {b2 : Bool} (p0 : has st j = true) (p1 : f st = some (r, s1)) (p2 : dat s1 r = some (.int k)) (p3 : s1[j]? = some (some (.ol b2 ds))) (p4 : ixN ds.length k = some nn) : gAt j f d st = some (s1.set j (some (.ol b2 (ds.set nn d)))) := by
  rw [r_gAt, if_pos p0, p1, Option.bind_some, p2, Option.bind_some]
  simp only [p3, p4, Option.bind_some]
/-- nothing, or what all may read -/
def nZ : Option M → Bool
  | none => true
  | some (.sh _) => true
  | _ => false
theorem nZ_oZ {z : Option M} (h : nZ z = true) : oZ z = true := by
  cases z with
  | none => rfl
  | some m => cases m <;> first | rfl | cases h
theorem x_noOwn {z : Option M} (p1 : st[i]? = some z) (p2 : nZ z = true) : noOwn st i = true := by
  unfold noOwn
  rw [p1]
  cases z with
  | none => rfl
  | some m => cases m <;> first | rfl | cases p2
theorem x_bs {k k2 : FS} (s1 : Sx) {z : Option (Out × Sx)} (p1 : k st = some (.next, s1)) (p2 : k2 s1 = z) : bCons k k2 st = z := bc p1 p2
theorem x_run {np nl : Nat} {k : FS} {ms' : List M} (st0 : Sx) (p0 : ms.map some ++ List.replicate (nl - ms.length) none = st0) (hl : ms.length = np) (p1 : k st0 = some (.ret m, s1)) (p2 : backs ms s1 = some ms') : runDef np nl k ms = some (m, ms') := by
  subst p0
  exact runR hl p1 p2
theorem x_rg2 {n k : Nat} (p1 : f st = some (r, s1)) (p2 : g s1 = some (q, s2)) (p3 : dat s2 r = some (.int (n : Int))) (p4 : dat s2 q = some (.int (k : Int))) (p5 : n ≤ LIM) (p6 : k ≤ LIM) : iRg2 f g st = some ((lexP.rgI n k).map .int, s2) := v_rg2 p1 p2 p3 p4 p5 p6
end
end Pv

namespace Pv
open PySem PySem.Spec PyProof.Rows L2
/-! ### the mathematics of paths and triangles -/
/-- two ascending rows of the same things are one -/
theorem asc_ext : ∀ {l m : List Int}, l.Pairwise (· < ·) → m.Pairwise (· < ·) → (∀ x, x ∈ l ↔ x ∈ m) → l = m
  | [], [], _, _, _ => rfl
  | [], y :: m, _, _, h => by cases (h y).mpr List.mem_cons_self
  | x :: l, [], _, _, h => by cases (h x).mp List.mem_cons_self
  | x :: l, y :: m, h1, h2, h => by
    rw [List.pairwise_cons] at h1 h2
    have e : x = y := by
      rcases List.mem_cons.mp ((h x).mp List.mem_cons_self) with e | e
      · exact e
      · rcases List.mem_cons.mp ((h y).mpr List.mem_cons_self) with e' | e'
        · exact e'.symm
        · have a := h2.1 x e
          have b := h1.1 y e'
          omega
    subst e
    congr 1
    refine asc_ext h1.2 h2.2 fun z => ?_
    have := h z
    rw [List.mem_cons, List.mem_cons] at this
    constructor
    · intro hz
      have lt := h1.1 z hz
      rcases this.mp (.inr hz) with e | e
      · omega
      · exact e
    · intro hz
      have lt := h2.1 z hz
      rcases this.mpr (.inr hz) with e | e
      · omega
      · exact e
theorem upTo_asc (n : Nat) : (upTo n).Pairwise (· < ·) := by
  unfold upTo
  exact List.pairwise_map.mpr (List.pairwise_lt_range.imp fun h => by omega)
theorem topI_some : ∀ {ns : List Int}, ns ≠ [] → ∃ m, topI ns = some m
  | [], h => absurd rfl h
  | x :: r, _ => by
    unfold topI
    cases topI r <;> exact ⟨_, rfl⟩
theorem lowI_some : ∀ {ns : List Int}, ns ≠ [] → ∃ m, lowI ns = some m
  | [], h => absurd rfl h
  | x :: r, _ => by
    unfold lowI
    cases lowI r <;> exact ⟨_, rfl⟩
def lo (P : List Int) (x : Int) : Int := (topI (P.filter fun c => decide (c < x))).getD 0
def hi (P : List Int) (x : Int) : Int := (lowI (P.filter fun c => decide (x < c))).getD 0
section
variable {P : List Int} {x : Int}
theorem lo_eq (h : ∃ c ∈ P, c < x) : topI (P.filter fun c => decide (c < x)) = some (lo P x) := by
  obtain ⟨c, h1, h2⟩ := h
  obtain ⟨m, e⟩ := topI_some (ns := P.filter fun c => decide (c < x)) (List.ne_nil_of_mem (List.mem_filter.mpr ⟨h1, decide_eq_true h2⟩))
  unfold lo
  rw [e]; rfl
theorem hi_eq (h : ∃ c ∈ P, x < c) : lowI (P.filter fun c => decide (x < c)) = some (hi P x) := by
  obtain ⟨c, h1, h2⟩ := h
  obtain ⟨m, e⟩ := lowI_some (ns := P.filter fun c => decide (x < c)) (List.ne_nil_of_mem (List.mem_filter.mpr ⟨h1, decide_eq_true h2⟩))
  unfold hi
  rw [e]; rfl
theorem lo_is (h : ∃ c ∈ P, c < x) : lo P x ∈ P ∧ lo P x < x ∧ ∀ y ∈ P, y < x → y ≤ lo P x := by
  obtain ⟨a, b⟩ := topI_is (lo_eq h)
  obtain ⟨a1, a2⟩ := List.mem_filter.mp a
  exact ⟨a1, of_decide_eq_true a2, fun y h1 h2 => b y (List.mem_filter.mpr ⟨h1, decide_eq_true h2⟩)⟩
theorem hi_is (h : ∃ c ∈ P, x < c) : hi P x ∈ P ∧ x < hi P x ∧ ∀ y ∈ P, x < y → hi P x ≤ y := by
  obtain ⟨a, b⟩ := lowI_is (hi_eq h)
  obtain ⟨a1, a2⟩ := List.mem_filter.mp a
  exact ⟨a1, of_decide_eq_true a2, fun y h1 h2 => b y (List.mem_filter.mpr ⟨h1, decide_eq_true h2⟩)⟩
theorem lo_only (h : ∃ c ∈ P, c < x) {m : Int} (h1 : m ∈ P) (h2 : m < x) (h3 : ∀ y ∈ P, y < x → y ≤ m) : lo P x = m := by
  obtain ⟨a, b, c⟩ := lo_is h
  have := c m h1 h2
  have := h3 _ a b
  omega
theorem hi_only (h : ∃ c ∈ P, x < c) {m : Int} (h1 : m ∈ P) (h2 : x < m) (h3 : ∀ y ∈ P, x < y → m ≤ y) : hi P x = m := by
  obtain ⟨a, b, c⟩ := hi_is h
  have := c m h1 h2
  have := h3 _ a b
  omega
end
/-- a path's triangle -/
def tri (P : List Int) (x : Int) : List Int := [lo P x, x, hi P x]
/-- two paths that are one but for one thing b: a triangle at x is the same exactly if there's something between -/
theorem tri_same {P P' : List Int} {x b : Int} (l1 : ∃ c ∈ P, c < x ∧ c ≠ b) (l2 : ∃ c ∈ P, x < c ∧ c ≠ b) (hb : b ∈ P ↔ b ∉ P') (hm : ∀ y, y ≠ b → (y ∈ P ↔ y ∈ P')) (ne : x ≠ b) : tri P x = tri P' x ↔ ∃ y ∈ P, (x < y ∧ y < b) ∨ (b < y ∧ y < x) := by
  obtain ⟨c1, m1, q1, n1⟩ := l1
  obtain ⟨c2, m2, q2, n2⟩ := l2
  have k1 : ∃ c ∈ P, c < x := ⟨c1, m1, q1⟩
  have k2 : ∃ c ∈ P, x < c := ⟨c2, m2, q2⟩
  have k1' : ∃ c ∈ P', c < x := ⟨c1, (hm c1 n1).mp m1, q1⟩
  have k2' : ∃ c ∈ P', x < c := ⟨c2, (hm c2 n2).mp m2, q2⟩
  obtain ⟨a1, a2, a3⟩ := lo_is k1
  obtain ⟨b1, b2, b3⟩ := hi_is k2
  obtain ⟨a1', a2', a3'⟩ := lo_is k1'
  obtain ⟨b1', b2', b3'⟩ := hi_is k2'
  unfold tri
  by_cases c : x < b
  · have el : lo P x = lo P' x := by
      refine (lo_only k1' ((hm _ (by omega)).mp a1) a2 fun y hy ly => a3 y ((hm y (by omega)).mpr hy) ly).symm
    constructor
    · intro e
      injection e with _ e
      injection e with _ e
      injection e with e _
      by_cases q : b ∈ P
      · have := b3 b q c
        have h2 : hi P' x ≠ b := fun z => hb.mp q (z ▸ b1')
        refine ⟨hi P x, b1, .inl ⟨b2, ?_⟩⟩
        omega
      · have q' : b ∈ P' := Classical.byContradiction fun z => q (hb.mpr z)
        have := b3' b q' c
        have h2 : hi P x ≠ b := fun z => q (z ▸ b1)
        exact ⟨hi P x, b1, .inl ⟨b2, by omega⟩⟩
    · rintro ⟨y, hy, ⟨y1, y2⟩ | ⟨y1, y2⟩⟩
      · have eh : hi P x = hi P' x := by
          have z := b3 y hy y1
          refine (hi_only k2' ((hm _ (by omega)).mp b1) b2 fun w hw lw => ?_).symm
          by_cases ew : w = b
          · omega
          · exact b3 w ((hm w ew).mpr hw) lw
        rw [el, eh]
      · omega
  · have c' : b < x := by omega
    have eh : hi P x = hi P' x := by
      refine (hi_only k2' ((hm _ (by omega)).mp b1) b2 fun y hy ly => b3 y ((hm y (by omega)).mpr hy) ly).symm
    constructor
    · intro e
      injection e with e _
      by_cases q : b ∈ P
      · have := a3 b q c'
        have h2 : lo P' x ≠ b := fun z => hb.mp q (z ▸ a1')
        refine ⟨lo P x, a1, .inr ⟨?_, a2⟩⟩
        omega
      · have q' : b ∈ P' := Classical.byContradiction fun z => q (hb.mpr z)
        have := a3' b q' c'
        have h2 : lo P x ≠ b := fun z => q (z ▸ a1)
        exact ⟨lo P x, a1, .inr ⟨by omega, a2⟩⟩
    · rintro ⟨y, hy, ⟨y1, y2⟩ | ⟨y1, y2⟩⟩
      · omega
      · have el : lo P x = lo P' x := by
          have z := a3 y hy y2
          refine (lo_only k1' ((hm _ (by omega)).mp a1) a2 fun w hw lw => ?_).symm
          by_cases ew : w = b
          · omega
          · exact a3 w ((hm w ew).mpr hw) lw
        rw [el, eh]
/-- the path behind some -/
def onP (S C : List Int) (x : Int) : Bool := decide (x ∈ S) != decide (x ∈ C)
def pth (n : Nat) (S C : List Int) : List Int := (-1) :: ((upTo n).filter (onP S C) ++ [(n : Int)])
theorem mem_pth {n : Nat} {S C : List Int} {y : Int} : y ∈ pth n S C ↔ y = -1 ∨ (0 ≤ y ∧ y < n ∧ onP S C y = true) ∨ y = n := by
  unfold pth
  rw [List.mem_cons, List.mem_append, List.mem_filter, List.mem_singleton]
  have : y ∈ upTo n ↔ 0 ≤ y ∧ y < n := by
    unfold upTo
    rw [List.mem_map]
    constructor
    · rintro ⟨k, hk, rfl⟩
      have := List.mem_range.mp hk
      omega
    · rintro ⟨h1, h2⟩
      exact ⟨y.toNat, List.mem_range.mpr (by omega), by omega⟩
  rw [this, and_assoc]
theorem pth_congr {n : Nat} {S C C' : List Int} (h : ∀ y, y ∈ C ↔ y ∈ C') : pth n S C = pth n S C' := by
  unfold pth
  congr 2
  refine List.filter_congr fun y _ => ?_
  unfold onP
  congr 1
  exact decide_eq_decide.mpr (h y)
theorem tri_pth {n : Nat} {S C : List Int} {x b : Int} (hx : 0 ≤ x ∧ x < n) (hb : 0 ≤ b ∧ b < n) (ne : x ≠ b) (nb : b ∉ C) : tri (pth n S C) x = tri (pth n S (C ++ [b])) x ↔ ∃ y, onP S C y = true ∧ ((x < y ∧ y < b) ∨ (b < y ∧ y < x)) := by
  have mb : ∀ y, y ≠ b → (onP S C y = onP S (C ++ [b]) y) := fun y hy => by
    unfold onP
    congr 1
    refine decide_eq_decide.mpr ?_
    rw [List.mem_append, List.mem_singleton]
    exact ⟨.inl, fun h => h.resolve_right hy⟩
  have e1 : onP S C b = decide (b ∈ S) := by
    unfold onP
    rw [decide_eq_false nb]; simp
  have e2 : onP S (C ++ [b]) b = !decide (b ∈ S) := by
    unfold onP
    rw [decide_eq_true (show b ∈ C ++ [b] by simp)]; simp
  rw [tri_same (b := b) ⟨-1, mem_pth.mpr (.inl rfl), by omega, by omega⟩ ⟨n, mem_pth.mpr (.inr (.inr rfl)), by omega, by omega⟩ ?_ (fun y hy => ?_) ne]
  · constructor
    · rintro ⟨y, hy, q⟩
      refine ⟨y, ?_, q⟩
      rcases mem_pth.mp hy with h | h | h
      · omega
      · exact h.2.2
      · omega
    · rintro ⟨y, hy, q⟩
      exact ⟨y, mem_pth.mpr (.inr (.inl ⟨by omega, by omega, hy⟩)), q⟩
  · rw [mem_pth, mem_pth, e1, e2]
    cases decide (b ∈ S)
    · constructor
      · rintro (h | h | h)
        · omega
        · cases h.2.2
        · omega
      · intro h
        exact absurd (.inr (.inl ⟨hb.1, hb.2, rfl⟩)) h
    · constructor
      · rintro _ (h | h | h)
        · omega
        · cases h.2.2
        · omega
      · intro h
        exact .inr (.inl ⟨hb.1, hb.2, rfl⟩)
  · rw [mem_pth, mem_pth, mb y hy]
/-- what stands before a thing -/
def bef (r : List Int) (x : Int) : List Int := r.takeWhile fun y => y != x
theorem bef_at {p s : List Int} {x : Int} (h : x ∉ p) : bef (p ++ x :: s) x = p := by
  unfold bef
  rw [List.takeWhile_append_of_pos fun y hy => by simp; rintro rfl; exact h hy]
  simp
theorem bef_past {p s : List Int} {x : Int} (h : x ∉ p) : bef (p ++ s) x = p ++ bef s x := by
  unfold bef
  rw [List.takeWhile_append_of_pos fun y hy => by simp; rintro rfl; exact h hy]
theorem bef_in : ∀ {p s : List Int} {x : Int}, x ∈ p → bef (p ++ s) x = bef p x
  | [], _, _, h => by cases h
  | y :: p, s, x, h => by
    unfold bef
    rw [List.cons_append, List.takeWhile_cons, List.takeWhile_cons]
    by_cases e : y = x
    · subst e; simp
    · rw [if_pos (by simpa using e), if_pos (by simpa using e)]
      have := bef_in (p := p) (s := s) (x := x) ((List.mem_cons.mp h).resolve_left fun z => e z.symm)
      unfold bef at this
      rw [this]
def T52 (n : Nat) (S r : List Int) (x : Int) : List Int := tri (pth n S (bef r x)) x
theorem row_cut {r : List Int} {k : Nat} (hk : k + 1 < r.length) : r = r.take k ++ r.getD k 0 :: r.getD (k + 1) 0 :: r.drop (k + 2) := by
  have h1 : r.drop k = r.getD k 0 :: r.getD (k + 1) 0 :: r.drop (k + 2) := by
    rw [List.drop_eq_getElem_cons (show k < r.length by omega), List.drop_eq_getElem_cons hk, List.getD_eq_getElem?_getD, List.getD_eq_getElem?_getD, List.getElem?_eq_getElem hk, List.getElem?_eq_getElem (show k < r.length by omega)]
    rfl
  rw [← h1, List.take_append_drop]
theorem swp_cut2 {r : List Int} {k : Nat} (hk : k + 1 < r.length) : swp r k = r.take k ++ (r.getD (k + 1) 0 :: r.getD k 0 :: r.drop (k + 2)) := by
  refine ext_getD (by rw [swp_len, List.length_append, List.length_take, List.length_cons, List.length_cons, List.length_drop]; omega) fun j hj => ?_
  rw [swp_len] at hj
  rw [swp_get _ _ _ hk, List.getD_eq_getElem?_getD, List.getD_eq_getElem?_getD, List.getD_eq_getElem?_getD, List.getD_eq_getElem?_getD, List.getElem?_append, List.length_take]
  rw [show min k r.length = k by omega]
  by_cases h1 : j < k
  · rw [if_pos h1, if_neg (by omega), if_neg (by omega), List.getElem?_take, if_pos h1]
  · rw [if_neg h1]
    by_cases h2 : j = k
    · subst h2; simp
    · rw [if_neg h2]
      by_cases h3 : j = k + 1
      · subst h3
        rw [if_pos rfl, show k + 1 - k = 1 by omega]; simp
      · rw [if_neg h3, show j - k = (j - k - 2) + 2 by omega, List.getElem?_cons_succ, List.getElem?_cons_succ, List.getElem?_drop, show k + 2 + (j - k - 2) = j by omega]
/-- there's something between the two that stand at k, on the path behind what stands before -/
def Btw (S r : List Int) (k : Nat) : Prop := ∃ y, onP S (r.take k) y = true ∧ ((r.getD k 0 < y ∧ y < r.getD (k + 1) 0) ∨ (r.getD (k + 1) 0 < y ∧ y < r.getD k 0))
theorem T52_ne {n : Nat} {S r : List Int} {k : Nat} (nd : r.Nodup) (mem : ∀ x, x ∈ r ↔ 0 ≤ x ∧ x < n) (hk : k + 1 < r.length) {x : Int} (hx : 0 ≤ x ∧ x < n) :
    T52 n S (swp r k) x ≠ T52 n S r x ↔ ¬ Btw S r k ∧ (x = r.getD k 0 ∨ x = r.getD (k + 1) 0) := by
  have e1 := row_cut hk
  have e2 := swp_cut2 hk
  unfold Btw
  generalize ha : r.getD k 0 = a at *
  generalize hb : r.getD (k + 1) 0 = b at *
  generalize hp : r.take k = p at *
  generalize hs : r.drop (k + 2) = s at *
  rw [e2]
  have nd' := nd
  have mem' := mem
  rw [e1] at nd' mem'
  have xr := (mem' x).mpr hx
  have ma := (mem' a).mp (by simp)
  have mb := (mem' b).mp (by simp)
  rw [List.nodup_append, List.nodup_cons, List.nodup_cons] at nd'
  obtain ⟨np, ⟨nas, nbs, ns⟩, dis⟩ := nd'
  have nap : a ∉ p := fun h => dis a h a (by simp) rfl
  have nbp : b ∉ p := fun h => dis b h b (by simp) rfl
  have nab : a ≠ b := fun h => nas (by simp [h])
  have T1 : T52 n S (p ++ b :: a :: s) x = T52 n S (p ++ a :: b :: s) x ↔ (x ≠ a ∧ x ≠ b) ∨ ∃ y, onP S p y = true ∧ ((a < y ∧ y < b) ∨ (b < y ∧ y < a)) := by
    by_cases xa : x = a
    · subst xa
      unfold T52
      rw [bef_at (p := p) (s := b :: s) nap, show p ++ b :: x :: s = (p ++ [b]) ++ x :: s by simp, bef_at (by simp; exact ⟨nap, nab⟩), eq_comm, tri_pth hx mb nab nbp]
      simp
    · by_cases xb : x = b
      · subst xb
        unfold T52
        rw [bef_at (p := p) (s := a :: s) nbp, show p ++ a :: x :: s = (p ++ [a]) ++ x :: s by simp, bef_at (by simp; exact ⟨nbp, fun z => nab z.symm⟩), tri_pth hx ma (fun z => nab z.symm) nap]
        constructor
        · rintro ⟨y, h1, h2⟩; exact .inr ⟨y, h1, h2.symm⟩
        · rintro (h | ⟨y, h1, h2⟩)
          · exact absurd rfl h.2
          · exact ⟨y, h1, h2.symm⟩
      · refine ⟨fun _ => .inl ⟨xa, xb⟩, fun _ => ?_⟩
        unfold T52
        congr 1
        by_cases xp : x ∈ p
        · rw [bef_in xp, bef_in xp]
        · rw [bef_past xp, bef_past xp]
          refine pth_congr fun y => ?_
          have e3 : bef (b :: a :: s) x = b :: a :: bef s x := by
            unfold bef
            rw [List.takeWhile_cons, if_pos (by simpa using fun z => xb z.symm), List.takeWhile_cons, if_pos (by simpa using fun z => xa z.symm)]
          have e4 : bef (a :: b :: s) x = a :: b :: bef s x := by
            unfold bef
            rw [List.takeWhile_cons, if_pos (by simpa using fun z => xa z.symm), List.takeWhile_cons, if_pos (by simpa using fun z => xb z.symm)]
          rw [e3, e4]
          simp only [List.mem_append, List.mem_cons]
          constructor
          · rintro (h | h | h | h) <;> simp [h]
          · rintro (h | h | h | h) <;> simp [h]
  rw [show T52 n S r x = T52 n S (p ++ a :: b :: s) x by rw [← e1]]
  constructor
  · intro h
    have h := fun z => h (T1.mpr z)
    refine ⟨fun z => h (.inr z), ?_⟩
    by_cases xa : x = a
    · exact .inl xa
    · by_cases xb : x = b
      · exact .inr xb
      · exact absurd (.inl ⟨xa, xb⟩) h
  · rintro ⟨h1, h2⟩ h
    rcases T1.mp h with q | q
    · rcases h2 with rfl | rfl
      · exact q.1 rfl
      · exact q.2 rfl
    · exact h1 q
end Pv

namespace Pv
open PySem PySem.Spec PyProof.Rows L2
/-! ### operations on rows of ints; comprehensions over ints -/
theorem any_int (r : List Int) (x : Int) : ((r.map PyData.int).any fun z => PyData.eqv z (.int x)) = decide (x ∈ r) := by
  induction r with
  | nil => simp
  | cons a r ih =>
    rw [List.map_cons, List.any_cons, ih]
    unfold PyData.eqv
    by_cases h : a = x
    · subst h; simp
    · have h' : ¬ x = a := fun z => h z.symm
      simp [h, h']
theorem in_T (r : List Int) (x : Int) : gIn2 (.int x) (iT r) = some (.bool (decide (x ∈ r))) := by
  show gIn (.int x) (iT r) = _
  show (if okE (.int x) = true ∧ okE (iT r) = true then some (PyData.bool ((r.map PyData.int).any fun z => PyData.eqv z (.int x))) else none) = _
  rw [if_pos ⟨rfl, okE_T r⟩, any_int]
theorem in_L (r : List Int) (x : Int) : gIn2 (.int x) (iL r) = some (.bool (decide (x ∈ r))) := by
  show gIn (.int x) (iL r) = _
  show (if okE (.int x) = true ∧ okE (iL r) = true then some (PyData.bool ((r.map PyData.int).any fun z => PyData.eqv z (.int x))) else none) = _
  rw [if_pos ⟨rfl, okE_L r⟩, any_int]
theorem nin_T (r : List Int) (x : Int) : gNotIn2 (.int x) (iT r) = some (.bool (!decide (x ∈ r))) := by
  show gNotIn (.int x) (iT r) = _
  show (if okE (.int x) = true ∧ okE (iT r) = true then some (PyData.bool (!((r.map PyData.int).any fun z => PyData.eqv z (.int x)))) else none) = _
  rw [if_pos ⟨rfl, okE_T r⟩, any_int]
theorem neB (a b : Bool) : gNe (.bool a) (.bool b) = some (.bool (a != b)) := by cases a <;> cases b <;> rfl
theorem eqB (a b : Bool) : gEq (.bool a) (.bool b) = some (.bool (a == b)) := by cases a <;> cases b <;> rfl
theorem sl_to {r : List Int} {k : Nat} (h : k ≤ r.length) : gSl (iT r) none (some (k : Int)) = some (iT (r.take k)) := by
  show some (PyData.tuple (cut (r.map PyData.int) none (some (k : Int)))) = _
  rw [cut_to (by rw [List.length_map]; exact h), ← List.map_take]
theorem sl_from {r : List Int} {k : Nat} (h : k ≤ r.length) : gSl (iT r) (some (k : Int)) none = some (iT (r.drop k)) := by
  show some (PyData.tuple (cut (r.map PyData.int) (some (k : Int)) none)) = _
  rw [cut_from (by rw [List.length_map]; exact h), ← List.map_drop]
theorem slL_to {r : List Int} {k : Nat} (h : k ≤ r.length) : gSl (iL r) none (some (k : Int)) = some (iL (r.take k)) := by
  show some (PyData.list (cut (r.map PyData.int) none (some (k : Int)))) = _
  rw [cut_to (by rw [List.length_map]; exact h), ← List.map_take]
theorem sl_two {r : List Int} {k : Nat} (h : k + 1 < r.length) : gSl (iT r) (some (k : Int)) (some ((k : Int) + 2)) = some (iT [r.getD k 0, r.getD (k + 1) 0]) := by
  show some (PyData.tuple (cut (r.map PyData.int) (some (k : Int)) (some ((k : Int) + 2)))) = _
  rw [show ((k : Int) + 2) = ((k + 2 : Nat) : Int) by omega, cut_mid (by omega) (by rw [List.length_map]; omega), ← List.map_drop, ← List.map_take, show k + 2 - k = 2 by omega]
  congr 3
  rw [List.drop_eq_getElem_cons (show k < r.length by omega), List.drop_eq_getElem_cons h, List.getD_eq_getElem?_getD, List.getD_eq_getElem?_getD, List.getElem?_eq_getElem h, List.getElem?_eq_getElem (show k < r.length by omega)]
  rfl
theorem ix_T {r : List Int} {k : Nat} (h : k < r.length) : gIx2 (iT r) (.int (k : Int)) = some (.int (r.getD k 0)) := atI_get h
theorem ix_T1 {r : List Int} {k : Nat} (h : k + 1 < r.length) : gIx2 (iT r) (.int ((k : Int) + 1)) = some (.int (r.getD (k + 1) 0)) := atI_get1 h
theorem index_T {r : List Int} {x : Int} (h : x ∈ r) : gIndexT (iT r) (.int x) = some (.int ((bef r x).length : Nat)) := by
  show (if okE (iT r) = true ∧ okE (.int x) = true then (firstAt (.int x) (r.map PyData.int)).map fun j => PyData.int (j : Nat) else none) = _
  rw [if_pos ⟨okE_T r, rfl⟩]
  have : ∀ {r : List Int}, x ∈ r → firstAt (.int x) (r.map PyData.int) = some (bef r x).length := fun {r} => by
    induction r with
    | nil => intro h; cases h
    | cons a r ih =>
      intro h
      rw [List.map_cons]
      unfold firstAt bef PyData.eqv
      rw [List.takeWhile_cons]
      by_cases e : a = x
      · subst e; simp
      · rw [if_neg (by simpa using e), if_pos (by simpa using e), ih ((List.mem_cons.mp h).resolve_left fun z => e z.symm)]
        rfl
  rw [this h]; rfl
theorem bef_lt {r : List Int} {x : Int} {k : Nat} (h : x ∈ r) (hk : k ≤ r.length) : (bef r x).length < k ↔ x ∈ r.take k := by
  have e : r = r.take k ++ r.drop k := (List.take_append_drop k r).symm
  by_cases c : x ∈ r.take k
  · refine ⟨fun _ => c, fun _ => ?_⟩
    rw [e, bef_in c]
    have h2 : ∀ {p : List Int}, x ∈ p → (bef p x).length < p.length := fun {p} => by
      induction p with
      | nil => intro h; cases h
      | cons a p ih =>
        intro h
        unfold bef
        rw [List.takeWhile_cons]
        by_cases e : a = x
        · subst e; simp
        · rw [if_pos (by simpa using e)]
          have := ih ((List.mem_cons.mp h).resolve_left fun z => e z.symm)
          unfold bef at this
          simp only [List.length_cons]; omega
    have := h2 c
    rw [List.length_take] at this
    omega
  · refine ⟨fun z => ?_, fun z => absurd z c⟩
    rw [e, bef_past c, List.length_append, List.length_take] at z
    omega
section
variable {f g h : FE} {st s1 s2 s3 s4 s5 s6 : Sx} {d d1 d2 d3 : PyData} {ds es : List PyData} {t t2 : FT} {r q w : R} {rs : List R} {o o2' : FO} {a : FA} {m m2 : M} {b c : Bool} {i j : Nat} {ms : List M}
theorem x_rg1 {n : Nat} (p1 : f st = some (r, s1)) (p2 : dat s1 r = some (.int (n : Int))) (p3 : n ≤ LIM) : iRg1 f st = some ((upTo n).map .int, s1) := by
  rw [v_rg1 p1 p2 p3]
  congr 2
  rw [← rgD_W, rg_upTo]
theorem x_cf {v : Nat} {fi : FI} {xs : List Int} (q : Int → Bool) (p1 : fi st = some (xs.map .int, s1)) (p2 : xs.length ≤ LIM) (p3 : Nat.ble (v + 1) s1.length = true) (p4 : noOwn s1 v = true) (p5 : ∀ x ∈ xs, t (at1 s1 v (.int x)) = some (q x, at1 s1 v (.int x))) : oComp [v] fi (gC v) t (eVar v) st = some (.ol false ((xs.filter q).map .int), s1) :=
  comp1f PyData.int q PyData.int p1 p2 (Nat.le_of_ble_eq_true p3) p4 p5 fun x hx _ => by
    have lt := Nat.le_of_ble_eq_true p3
    have e : (at1 s1 v (.int x))[v]? = some (some (.sh (.int x))) := List.getElem?_set_self (by omega)
    exact ⟨.var v, a_eVar _ _ e, a_shVar _ _ e⟩
theorem x_cm {v : Nat} {fi : FI} {el : FE} {xs : List Int} (F : Int → PyData) (p1 : fi st = some (xs.map .int, s1)) (p2 : xs.length ≤ LIM) (p3 : Nat.ble (v + 1) s1.length = true) (p4 : noOwn s1 v = true) (p5 : ∀ x ∈ xs, ∃ r, el (at1 s1 v (.int x)) = some (r, at1 s1 v (.int x)) ∧ share (at1 s1 v (.int x)) r = some (F x, at1 s1 v (.int x))) : oComp [v] fi (gC v) tYe el st = some (.ol false (xs.map F), s1) :=
  comp1m PyData.int F p1 p2 (Nat.le_of_ble_eq_true p3) p4 p5
theorem maxS_L {ns : List Int} {m : Int} (e : topI ns = some m) : gMaxS (iL ns) = some (.int m) := by
  show (intsOf (ns.map PyData.int)).bind _ = _
  rw [intsOf_map, Option.bind_some, e]; rfl
theorem minS_L {ns : List Int} {m : Int} (e : lowI ns = some m) : gMinS (iL ns) = some (.int m) := by
  show (intsOf (ns.map PyData.int)).bind _ = _
  rw [intsOf_map, Option.bind_some, e]; rfl
theorem maxS_T {ns : List Int} {m : Int} (e : topI ns = some m) : gMaxS (iT ns) = some (.int m) := by
  show (intsOf (ns.map PyData.int)).bind _ = _
  rw [intsOf_map, Option.bind_some, e]; rfl
theorem minS_T {ns : List Int} {m : Int} (e : lowI ns = some m) : gMinS (iT ns) = some (.int m) := by
  show (intsOf (ns.map PyData.int)).bind _ = _
  rw [intsOf_map, Option.bind_some, e]; rfl
end
end Pv

namespace Pv
open PySem PySem.Spec PyProof.Rows L2
/-! ### dicts keyed by ints -/
def dI (F : Int → PyData) (l : List Int) : List (PyData × PyData) := l.map fun x => (.int x, F x)
theorem dI_len (F : Int → PyData) (l : List Int) : (dI F l).length = l.length := by unfold dI; rw [List.length_map]
theorem dOK_I (F : Int → PyData) (l : List Int) (x : Int) : dOK (dI F l) (.int x) = true := by
  unfold dOK dI
  rw [Bool.or_eq_true]
  refine .inl ?_
  rw [Bool.and_eq_true]
  refine ⟨rfl, ?_⟩
  rw [List.all_eq_true]
  intro p hp
  obtain ⟨y, _, rfl⟩ := List.mem_map.mp hp
  rfl
theorem eqv_int (a b : Int) : PyData.eqv (.int a) (.int b) = decide (a = b) := by
  unfold PyData.eqv
  by_cases h : a = b <;> simp [h]
theorem dGet_I (F : Int → PyData) {x : Int} : ∀ {l : List Int}, x ∈ l → dGet (dI F l) (.int x) = some (F x)
  | [], h => by cases h
  | y :: l, h => by
    show dGet ((.int y, F y) :: dI F l) (.int x) = _
    rw [dGet_cons]
    show (if PyData.eqv (.int y) (.int x) = true then some (F y) else _) = _
    rw [eqv_int]
    by_cases e : y = x
    · subst e; rw [if_pos (decide_eq_true rfl)]
    · rw [if_neg (by simpa using e), dGet_I F ((List.mem_cons.mp h).resolve_left fun z => e z.symm)]
theorem dGet_I0 (F : Int → PyData) {x : Int} : ∀ {l : List Int}, x ∉ l → dGet (dI F l) (.int x) = none
  | [], h => rfl
  | y :: l, h => by
    show dGet ((.int y, F y) :: dI F l) (.int x) = _
    rw [dGet_cons]
    show (if PyData.eqv (.int y) (.int x) = true then some (F y) else _) = _
    rw [eqv_int, if_neg (by simpa using fun e => h (by simp [e])), dGet_I0 F fun z => h (List.mem_cons_of_mem _ z)]
theorem dPut_I (F : Int → PyData) {x : Int} {l : List Int} (h : x ∉ l) : dPut (dI F l) (.int x) (F x) = dI F (l ++ [x]) := by
  unfold dPut
  rw [dGet_I0 F h, if_neg (by decide)]
  unfold dI
  rw [List.map_append]; rfl
theorem ix_D (F : Int → PyData) {x : Int} {l : List Int} (h : x ∈ l) : gIx2 (.dict (dI F l)) (.int x) = some (F x) := by
  rw [s_ix5, if_pos (dOK_I F l x), dGet_I F h]
/-- a loop that may end with an answer -/
theorem runFor_find {h : FG} {body : FS} {m : M} {Inv : Nat → Sx → Prop} {E : Sx → Prop} {q : Nat → Bool} : ∀ (ds : List PyData) (k : Nat) (st : Sx),
    (∀ i d st, ds[i]? = some d → Inv (k + i) st → ∃ s1, h d st = some s1 ∧ ((q (k + i) = true ∧ ∃ s2, body s1 = some (.ret m, s2) ∧ E s2) ∨ (q (k + i) = false ∧ ∃ s2, body s1 = some (.next, s2) ∧ Inv (k + i + 1) s2))) → Inv k st →
    (∃ i, i < ds.length ∧ q (k + i) = true ∧ ∃ s2, runFor h body ds st = some (.ret m, s2) ∧ E s2) ∨ ((∀ i, i < ds.length → q (k + i) = false) ∧ ∃ s2, runFor h body ds st = some (.next, s2) ∧ Inv (k + ds.length) s2)
  | [], k, st, _, p => .inr ⟨fun i hi => absurd hi (Nat.not_lt_zero _), st, rfl, p⟩
  | d :: ds, k, st, step, p => by
    obtain ⟨s1, e1, c⟩ := step 0 d st rfl p
    rcases c with ⟨q1, s2, e2, p2⟩ | ⟨q1, s2, e2, p2⟩
    · refine .inl ⟨0, by simp, q1, s2, ?_, p2⟩
      rw [r_for, e1, Option.bind_some, e2]; rfl
    · have ih := runFor_find (h := h) (body := body) (m := m) (Inv := Inv) (E := E) (q := q) ds (k + 1) s2 (fun i d st e z => by
        have := step (i + 1) d st (by simpa using e) (by rw [show k + (i + 1) = k + 1 + i by omega]; exact z)
        rw [show k + (i + 1) = k + 1 + i by omega] at this
        exact this) p2
      rcases ih with ⟨i, hi, qi, s3, e3, p3⟩ | ⟨hq, s3, e3, p3⟩
      · refine .inl ⟨i + 1, by simp; omega, by rw [show k + (i + 1) = k + 1 + i by omega]; exact qi, s3, r_forC e1 e2 e3, p3⟩
      · refine .inr ⟨fun i hi => ?_, s3, r_forC e1 e2 e3, by rw [List.length_cons, show k + (ds.length + 1) = k + 1 + ds.length by omega]; exact p3⟩
        cases i with
        | zero => exact q1
        | succ i =>
          rw [show k + (i + 1) = k + 1 + i by omega]
          exact hq i (by simp at hi; omega)
theorem find_go {h : FG} {body : FS} {m : M} {Inv : Nat → Sx → Prop} {E : Sx → Prop} {q : Nat → Bool} (ds : List PyData) (st : Sx)
    (step : ∀ i d st, ds[i]? = some d → Inv i st → ∃ s1, h d st = some s1 ∧ ((q i = true ∧ ∃ s2, body s1 = some (.ret m, s2) ∧ E s2) ∨ (q i = false ∧ ∃ s2, body s1 = some (.next, s2) ∧ Inv (i + 1) s2))) (p : Inv 0 st) :
    (∃ i, i < ds.length ∧ q i = true ∧ ∃ s2, runFor h body ds st = some (.ret m, s2) ∧ E s2) ∨ ((∀ i, i < ds.length → q i = false) ∧ ∃ s2, runFor h body ds st = some (.next, s2) ∧ Inv ds.length s2) := by
  have := runFor_find (h := h) (body := body) (m := m) (Inv := Inv) (E := E) (q := q) ds 0 st (fun i d st e z => by rw [Nat.zero_add] at z ⊢; exact step i d st e z) p
  simpa using this
/-- the items of a row with their places -/
theorem enD_row {r : List Int} {i : Nat} {d : PyData} (h : (enD (r.map .int))[i]? = some d) : i < r.length ∧ d = .tuple [.int (i : Nat), .int (r.getD i 0)] := by
  have hl : i < (enD (r.map PyData.int)).length := (List.getElem?_eq_some_iff.mp h).1
  obtain ⟨d', hd', rfl⟩ := enD_get h
  rw [List.getElem?_map] at hd'
  obtain ⟨x, hx, rfl⟩ := Option.map_eq_some_iff.mp hd'
  obtain ⟨hi, ex⟩ := List.getElem?_eq_some_iff.mp hx
  refine ⟨hi, ?_⟩
  rw [List.getD_eq_getElem?_getD, hx]; rfl
theorem enD_rlen (r : List Int) : (enD (r.map PyData.int)).length = r.length := by unfold enD; simp
theorem bef_get {r : List Int} {i : Nat} (nd : r.Nodup) (hi : i < r.length) : bef r (r.getD i 0) = r.take i := by
  have e : r = r.take i ++ r.getD i 0 :: r.drop (i + 1) := by
    have h1 : r.drop i = r.getD i 0 :: r.drop (i + 1) := by
      rw [List.drop_eq_getElem_cons hi, List.getD_eq_getElem?_getD, List.getElem?_eq_getElem hi]; rfl
    rw [← h1, List.take_append_drop]
  have ni : r.getD i 0 ∉ r.take i := by
    have nd' := nd
    rw [e, List.nodup_append] at nd'
    exact fun h => nd'.2.2 _ h _ List.mem_cons_self rfl
  generalize r.getD i 0 = x at *
  generalize r.take i = p at *
  rw [e]
  exact bef_at ni
theorem take_snoc {r : List Int} {i : Nat} (hi : i < r.length) : r.take (i + 1) = r.take i ++ [r.getD i 0] := by
  rw [List.take_add_one, List.getElem?_eq_getElem hi, List.getD_eq_getElem?_getD, List.getElem?_eq_getElem hi]; rfl
end Pv

namespace Pv
open PySem PySem.Spec PyProof.Rows L2
def sml (x : Int) : Prop := x.natAbs < 1000
theorem bulkI : ∀ w : List Int, PyData.bulkAll (w.map PyData.int) = w.length
  | [] => by simp [PyData.bulkAll]
  | k :: w => by
    rw [List.map_cons, PyData.bulkAll, bulkI w, PyData.bulk, List.length_cons]; omega
theorem okR_I (k : Nat) {x : Int} (h : sml x) : okR k (.int x) = true := by
  have : x.natAbs < 10 ^ 12 := Nat.lt_trans h (by decide)
  cases k <;> exact decide_eq_true this
theorem okR_T (k : Nat) (r : List Int) (h : ∀ x ∈ r, sml x) : okR (k + 1) (iT r) = true := by
  unfold okR
  rw [List.all_eq_true]
  intro y hy
  obtain ⟨x, hx, rfl⟩ := List.mem_map.mp hy
  exact okR_I k (h x hx)
theorem okR_L (k : Nat) (xs : List PyData) (h : ∀ x ∈ xs, okR k x = true) : okR (k + 1) (.list xs) = true := by
  unfold okR
  rw [List.all_eq_true]; exact h
theorem okR_Tp (k : Nat) (xs : List PyData) (h : ∀ x ∈ xs, okR k x = true) : okR (k + 1) (.tuple xs) = true := by
  unfold okR
  rw [List.all_eq_true]; exact h
theorem repr_some {d : PyData} (h : okR 20 d = true) (b : d.bulk ≤ 2 ^ 20) : ∃ X, gRepr d = some (.str X) := ⟨_, by unfold gRepr; rw [if_pos ⟨h, b⟩]⟩
theorem bulk_T (r : List Int) : PyData.bulk (iT r) = r.length := by
  unfold iT PyData.bulk
  rw [bulkI]
theorem bulk_L (xs : List PyData) : PyData.bulk (.list xs) = PyData.bulkAll xs := by unfold PyData.bulk; rfl
theorem bulk_Tp (xs : List PyData) : PyData.bulk (.tuple xs) = PyData.bulkAll xs := by unfold PyData.bulk; rfl
theorem bulkA0 : PyData.bulkAll [] = 0 := by simp [PyData.bulkAll]
theorem bulkA (x : PyData) (xs : List PyData) : PyData.bulkAll (x :: xs) = PyData.bulk x + 1 + PyData.bulkAll xs := by rw [PyData.bulkAll]
theorem bulkP : ∀ ps : List (Int × Int), PyData.bulkAll (dP ps) = 3 * ps.length
  | [] => by simp [dP, PyData.bulkAll]
  | p :: ps => by
    show PyData.bulkAll (enP p :: dP ps) = _
    rw [bulkA, bulkP ps, List.length_cons]
    have : PyData.bulk (enP p) = 2 := bulk_T [p.1, p.2]
    omega
theorem okR_P (k : Nat) (ps : List (Int × Int)) (h : ∀ p ∈ ps, sml p.1 ∧ sml p.2) : okR (k + 2) (.tuple (dP ps)) = true := by
  refine okR_Tp _ _ fun x hx => ?_
  obtain ⟨p, hp, rfl⟩ := List.mem_map.mp hx
  refine okR_T k [p.1, p.2] fun y hy => ?_
  rcases List.mem_cons.mp hy with rfl | hy
  · exact (h p hp).1
  · rw [List.mem_singleton] at hy; subst hy; exact (h p hp).2
theorem small_bulk {n : Nat} (h : n ≤ 10000) : n ≤ 2 ^ 20 := Nat.le_trans h (by decide)
theorem sml_of {x : Int} (h1 : -1000 < x) (h2 : x < 1000) : sml x := by unfold sml; omega
/-- rows of rows -/
theorem eqv_N : ∀ (xs ys : List (List Int)), PyData.eqvAll (xs.map iT) (ys.map iT) = decide (xs = ys)
  | [], [] => by simp [PyData.eqvAll]
  | [], _ :: _ => by simp [PyData.eqvAll]
  | _ :: _, [] => by simp [PyData.eqvAll]
  | x :: xs, y :: ys => by
    rw [List.map_cons, List.map_cons]
    unfold PyData.eqvAll
    rw [eqv_T, eqv_N xs ys]
    by_cases h : x = y <;> simp [h]
theorem okE_N (xs : List (List Int)) : okE (.tuple (xs.map iT)) = true := by
  unfold okE okD
  rw [List.all_eq_true]
  intro x hx
  obtain ⟨r, _, rfl⟩ := List.mem_map.mp hx
  exact okD_T _ r
theorem eq_N (xs ys : List (List Int)) : gEq (.tuple (xs.map iT)) (.tuple (ys.map iT)) = some (.bool (decide (xs = ys))) := by
  show (if okE _ = true ∧ okE _ = true then some (PyData.bool (PyData.eqv (.tuple (xs.map iT)) (.tuple (ys.map iT)))) else none) = _
  rw [if_pos ⟨okE_N xs, okE_N ys⟩]
  unfold PyData.eqv
  rw [eqv_N]
theorem ne_T (r s : List Int) : gNe (iT r) (iT s) = some (.bool (!decide (r = s))) := by
  show (if okE (iT r) = true ∧ okE (iT s) = true then some (PyData.bool (!PyData.eqv (iT r) (iT s))) else none) = _
  rw [if_pos ⟨okE_T r, okE_T s⟩, eqv_T]
theorem ne_L (r s : List Int) : gNe (iL r) (iL s) = some (.bool (!decide (r = s))) := by
  show (if okE (iL r) = true ∧ okE (iL s) = true then some (PyData.bool (!PyData.eqv (iL r) (iL s))) else none) = _
  rw [if_pos ⟨okE_L r, okE_L s⟩, eqv_L]
theorem neSame (x : Str) : (!decide (x = x)) = false := by rw [decide_eq_true rfl]; rfl
theorem bulk_B (b : Bool) : PyData.bulk (.bool b) = 0 := by cases b <;> rfl
theorem bulk_I (i : Int) : PyData.bulk (.int i) = 0 := rfl
theorem bulkN (m : Nat) : ∀ (xs : List (List Int)), (∀ x ∈ xs, x.length ≤ m) → PyData.bulkAll (xs.map iT) ≤ (m + 1) * xs.length
  | [], _ => by simp [PyData.bulkAll]
  | x :: xs, h => by
    have := bulkN m xs fun y hy => h y (List.mem_cons_of_mem _ hy)
    have h1 := h x List.mem_cons_self
    rw [List.map_cons, bulkA, bulk_T, List.length_cons, Nat.mul_add]
    omega
end Pv

namespace Pv
open PySem PySem.Spec PyProof.Rows L2
/-! ### places in a row -/
def ps (r : List Int) (x : Int) : Int := ((bef r x).length : Nat)
theorem getD_mem2 {r : List Int} {k : Nat} (h : k < r.length) : r.getD k 0 ∈ r := by
  rw [List.getD_eq_getElem?_getD, List.getElem?_eq_getElem h]
  exact List.getElem_mem h
theorem mem_upTo2 {n : Nat} {x : Int} : x ∈ upTo n ↔ 0 ≤ x ∧ x < n := by
  unfold upTo
  rw [List.mem_map]
  constructor
  · rintro ⟨k, hk, rfl⟩
    have := List.mem_range.mp hk
    omega
  · rintro ⟨h1, h2⟩
    exact ⟨x.toNat, List.mem_range.mpr (by omega), by omega⟩
theorem ps_nn (r : List Int) (x : Int) : 0 ≤ ps r x := by unfold ps; omega
theorem ps_head (x : Int) (r : List Int) : ps (x :: r) x = 0 := by unfold ps bef; simp
theorem ps_tail {x y : Int} {r : List Int} (h : y ≠ x) : ps (x :: r) y = ps r y + 1 := by
  unfold ps bef
  rw [List.takeWhile_cons, if_pos (by simpa using fun e : x = y => h e.symm)]
  simp
theorem ps_get {r : List Int} {i : Nat} (nd : r.Nodup) (hi : i < r.length) : ps r (r.getD i 0) = (i : Int) := by
  unfold ps
  rw [bef_get nd hi, List.length_take]; omega
theorem ps_lt {r : List Int} {x : Int} (h : x ∈ r) : ps r x < r.length := by
  obtain ⟨i, hi, e⟩ := List.mem_iff_getElem.mp h
  have : ∀ {r : List Int}, x ∈ r → (bef r x).length < r.length := fun {r} => by
    induction r with
    | nil => intro h; cases h
    | cons a r ih =>
      intro h
      unfold bef
      rw [List.takeWhile_cons]
      by_cases e : a = x
      · subst e; simp
      · rw [if_pos (by simpa using e)]
        have := ih ((List.mem_cons.mp h).resolve_left fun z => e z.symm)
        unfold bef at this
        simp only [List.length_cons]; omega
  unfold ps
  have := this h
  omega
theorem get_ps {r : List Int} {x : Int} (nd : r.Nodup) (h : x ∈ r) : r.getD (ps r x).toNat 0 = x := by
  obtain ⟨i, hi, e⟩ := List.mem_iff_getElem.mp h
  have e' : r.getD i 0 = x := by rw [List.getD_eq_getElem?_getD, List.getElem?_eq_getElem hi]; exact e
  rw [← e', ps_get nd hi, Int.toNat_natCast]
theorem ps_inj {r : List Int} {x y : Int} (nd : r.Nodup) (hx : x ∈ r) (hy : y ∈ r) (e : ps r x = ps r y) : x = y := by
  rw [← get_ps nd hx, ← get_ps nd hy, e]
/-- the pairs that a measure puts the other way round -/
def pf (f : Int → Int) : List Int → List (Int × Int)
  | [] => []
  | x :: r => ((r.filter fun y => decide (f y < f x)).map fun y => (y, x)) ++ pf f r
theorem pr_pf : ∀ r : List Int, pr r = pf id r
  | [] => rfl
  | x :: r => by
    unfold pr pf
    rw [pr_pf r]; rfl
theorem pf_map (f : Int → Int) : ∀ r : List Int, (pr (r.map f)).length = (pf f r).length
  | [] => rfl
  | x :: r => by
    have e : pf f (x :: r) = ((r.filter fun y => decide (f y < f x)).map fun y => (y, x)) ++ pf f r := rfl
    rw [List.map_cons, pr_len_cons, pf_map f r, e]
    rw [List.length_append, List.length_map, List.filter_map, List.length_map]; rfl
theorem mem_pf {f : Int → Int} {a b : Int} : ∀ {r : List Int}, r.Nodup → ((a, b) ∈ pf f r ↔ a ∈ r ∧ b ∈ r ∧ ps r b < ps r a ∧ f a < f b)
  | [], _ => ⟨fun h => (nomatch h), fun h => nomatch h.1⟩
  | x :: r, nd => by
    rw [List.nodup_cons] at nd
    have ih := mem_pf (f := f) (a := a) (b := b) nd.2
    unfold pf
    rw [List.mem_append, List.mem_map, ih]
    constructor
    · rintro (⟨y, hy, e⟩ | ⟨h1, h2, h3, h4⟩)
      · injection e with e1 e2
        subst e1 e2
        obtain ⟨m, lt⟩ := List.mem_filter.mp hy
        have ne : y ≠ x := fun e => nd.1 (e ▸ m)
        refine ⟨List.mem_cons_of_mem _ m, List.mem_cons_self, ?_, of_decide_eq_true lt⟩
        rw [ps_head, ps_tail ne]
        have := ps_nn r y
        omega
      · have na : a ≠ x := fun e => nd.1 (e ▸ h1)
        have nb : b ≠ x := fun e => nd.1 (e ▸ h2)
        refine ⟨List.mem_cons_of_mem _ h1, List.mem_cons_of_mem _ h2, ?_, h4⟩
        rw [ps_tail na, ps_tail nb]; omega
    · rintro ⟨h1, h2, h3, h4⟩
      by_cases nb : b = x
      · subst nb
        have na : a ≠ b := fun e => by subst e; omega
        refine .inl ⟨a, List.mem_filter.mpr ⟨(List.mem_cons.mp h1).resolve_left na, decide_eq_true h4⟩, rfl⟩
      · have na : a ≠ x := by
          rintro rfl
          rw [ps_head] at h3
          have := ps_nn (a :: r) b
          omega
        rw [ps_tail na, ps_tail nb] at h3
        exact .inr ⟨(List.mem_cons.mp h1).resolve_left na, (List.mem_cons.mp h2).resolve_left nb, by omega, h4⟩
theorem pf_nodup {f : Int → Int} : ∀ {r : List Int}, r.Nodup → (pf f r).Nodup
  | [], _ => List.nodup_nil
  | x :: r, nd => by
    rw [List.nodup_cons] at nd
    unfold pf
    rw [List.nodup_append]
    refine ⟨?_, pf_nodup nd.2, ?_⟩
    · exact List.pairwise_map.mpr ((nd.2.filter _).imp fun {a b} h e => h (Prod.mk.inj e).1)
    · rintro p hp q hq rfl
      obtain ⟨y, hy, rfl⟩ := List.mem_map.mp hp
      exact nd.1 ((mem_pf nd.2).mp hq).2.1
theorem mem_prs {a b : Int} {r : List Int} (nd : r.Nodup) : (a, b) ∈ pr r ↔ a ∈ r ∧ b ∈ r ∧ ps r b < ps r a ∧ a < b := by
  rw [pr_pf, mem_pf nd]; rfl
theorem len_split {α : Type} (q : α → Bool) : ∀ l : List α, l.length = (l.filter q).length + (l.filter fun x => !q x).length
  | [] => rfl
  | x :: l => by
    have := len_split q l
    rw [List.filter_cons, List.filter_cons, List.length_cons]
    cases q x <;> simp <;> omega
theorem len_of {α : Type} [DecidableEq α] {l m : List α} (h1 : l.Nodup) (h2 : m.Nodup) (h : ∀ x, x ∈ l ↔ x ∈ m) : l.length = m.length := (List.perm_ext_iff_of_nodup h1 h2 |>.mpr h).length_eq
theorem sub_len {α : Type} [DecidableEq α] : ∀ {l m : List α}, l.Nodup → (∀ x ∈ l, x ∈ m) → l.length ≤ m.length
  | [], m, _, _ => Nat.zero_le _
  | x :: l, m, nd, h => by
    rw [List.nodup_cons] at nd
    have hx := h x List.mem_cons_self
    have ih := sub_len (l := l) (m := m.erase x) nd.2 fun y hy => (List.mem_erase_of_ne (show y ≠ x from fun e => nd.1 (e ▸ hy))).mpr (h y (List.mem_cons_of_mem _ hy))
    rw [List.length_erase_of_mem hx] at ih
    have := List.length_pos_of_mem hx
    rw [List.length_cons]; omega
structure RowS (n : Nat) (r : List Int) : Prop where
  len : r.length = n
  nd : r.Nodup
  mem : ∀ x, x ∈ r ↔ 0 ≤ x ∧ x < n
section
variable {n : Nat} {p q : List Int} (P : RowS n p) (Q : RowS n q)
include P Q
/-- how far two rows are: the pairs that stand the other way round -/
theorem far_eq : ((pr p).filter fun z => !decide (z ∈ pr q)).length + ((pr q).filter fun z => !decide (z ∈ pr p)).length = (pr (q.map (ps p))).length := by
  rw [pf_map, len_split (fun z => decide (z.1 < z.2)) (pf (ps p) q), Nat.add_comm]
  have same : ∀ x, x ∈ p ↔ x ∈ q := fun x => (P.mem x).trans (Q.mem x).symm
  have nd1 : ((pr q).filter fun z => !decide (z ∈ pr p)).Nodup := (pr_nodup Q.nd).filter _
  have nd2 : ((pr p).filter fun z => !decide (z ∈ pr q)).Nodup := (pr_nodup P.nd).filter _
  have nf := pf_nodup (f := ps p) Q.nd
  congr 1
  · refine len_of nd1 (nf.filter _) fun z => ?_
    obtain ⟨a, b⟩ := z
    rw [List.mem_filter, List.mem_filter, mem_prs Q.nd, mem_pf Q.nd, Bool.not_eq_true', decide_eq_false_iff_not, mem_prs P.nd, decide_eq_true_eq]
    constructor
    · rintro ⟨⟨h1, h2, h3, h4⟩, h5⟩
      refine ⟨⟨h1, h2, h3, ?_⟩, h4⟩
      have ne : ps p a ≠ ps p b := fun e => by
        have := ps_inj P.nd ((same a).mpr h1) ((same b).mpr h2) e
        omega
      have : ¬ ps p b < ps p a := fun h => h5 ⟨(same a).mpr h1, (same b).mpr h2, h, h4⟩
      omega
    · rintro ⟨⟨h1, h2, h3, h4⟩, h5⟩
      exact ⟨⟨h1, h2, h3, h5⟩, fun h => by omega⟩
  · rw [← List.length_map (f := fun z : Int × Int => (z.2, z.1)) (as := (pf (ps p) q).filter fun x => !decide (x.1 < x.2))]
    have nd3 : (((pf (ps p) q).filter fun x => !decide (x.1 < x.2)).map fun z : Int × Int => (z.2, z.1)).Nodup := List.pairwise_map.mpr ((nf.filter _).imp fun {a b} h e => by
      obtain ⟨a1, a2⟩ := a
      obtain ⟨b1, b2⟩ := b
      injection e with e1 e2
      exact h (by rw [show a1 = b1 from e2, show a2 = b2 from e1]))
    refine len_of nd2 nd3 fun z => ?_
    obtain ⟨a, b⟩ := z
    rw [List.mem_filter, mem_prs P.nd, Bool.not_eq_true', decide_eq_false_iff_not, mem_prs Q.nd, List.mem_map]
    constructor
    · rintro ⟨⟨h1, h2, h3, h4⟩, h5⟩
      refine ⟨(b, a), List.mem_filter.mpr ⟨(mem_pf Q.nd).mpr ⟨(same b).mp h2, (same a).mp h1, ?_, h3⟩, ?_⟩, rfl⟩
      · have ne : ps q a ≠ ps q b := fun e => by
          have := ps_inj Q.nd ((same a).mp h1) ((same b).mp h2) e
          omega
        have : ¬ ps q b < ps q a := fun h => h5 ⟨(same a).mp h1, (same b).mp h2, h, h4⟩
        omega
      · rw [Bool.not_eq_true', decide_eq_false_iff_not]
        show ¬ b < a
        omega
    · rintro ⟨⟨b', a'⟩, hm, e⟩
      injection e with e1 e2
      obtain rfl : a' = a := e1
      obtain rfl : b' = b := e2
      obtain ⟨hm, hl⟩ := List.mem_filter.mp hm
      obtain ⟨h1, h2, h3, h4⟩ := (mem_pf Q.nd).mp hm
      rw [Bool.not_eq_true', decide_eq_false_iff_not] at hl
      have hl : ¬ b' < a' := hl
      have ne : a' ≠ b' := fun e => by subst e; omega
      exact ⟨⟨(same a').mpr h2, (same b').mpr h1, h4, by omega⟩, fun h => by omega⟩
end

/-! ### the least way -/
theorem nodup_once {r : List Int} (h : r.Nodup) : Once r := fun i j hi hj e => by
  have a := ps_get h hi
  have b := ps_get h hj
  rw [e] at a
  omega
theorem once_nodup {r : List Int} (h : Once r) : r.Nodup := List.pairwise_iff_getElem.mpr fun i j hi hj c e => by
  have := h i j hi hj (by rw [List.getD_eq_getElem?_getD, List.getD_eq_getElem?_getD, List.getElem?_eq_getElem hi, List.getElem?_eq_getElem hj]; exact e)
  omega
theorem mem_inv {r : List Int} (nd : r.Nodup) (a b : Int) : (a, b) ∈ pr r ↔ Inv r a b := by
  rw [mem_prs nd]
  constructor
  · rintro ⟨h1, h2, h3, h4⟩
    have l1 := ps_lt h1
    have l2 := ps_lt h2
    have n1 := ps_nn r a
    have n2 := ps_nn r b
    exact ⟨h4, (ps r b).toNat, (ps r a).toNat, by omega, by omega, get_ps nd h2, get_ps nd h1⟩
  · rintro ⟨h4, i, j, hij, hj, e1, e2⟩
    have a1 := ps_get nd (show i < r.length by omega)
    have a2 := ps_get nd hj
    rw [e1] at a1
    rw [e2] at a2
    exact ⟨e2 ▸ getD_mem2 hj, e1 ▸ getD_mem2 (by omega), by omega, h4⟩
theorem swp_perm2 {r : List Int} {k : Nat} (hk : k + 1 < r.length) : (swp r k).Perm r := by
  have e1 := row_cut hk
  have e2 := swp_cut2 hk
  rw [e2]
  conv => rhs; rw [e1]
  exact (List.Perm.swap _ _ _).append_left _
theorem upTo_nd (n : Nat) : (upTo n).Nodup := (upTo_asc n).imp fun {a b} h e => by omega
theorem pr_swp {h : List Int} {k : Nat} (nd : h.Nodup) (hk : k + 1 < h.length) (up : h.getD k 0 < h.getD (k + 1) 0) :
    (∀ z, z ∈ pr (swp h k) ↔ z ∈ pr h ∨ z = (h.getD k 0, h.getD (k + 1) 0)) ∧ (pr (swp h k)).length = (pr h).length + 1 := by
  have nd2 : (swp h k).Nodup := (swp_perm2 hk).nodup_iff.mpr nd
  have key : ∀ z, z ∈ pr (swp h k) ↔ z ∈ pr h ∨ z = (h.getD k 0, h.getD (k + 1) 0) := fun z => by
    obtain ⟨a, b⟩ := z
    rw [mem_inv nd2, mem_inv nd, Inv.swp_iff (nodup_once nd) hk up, Prod.mk.injEq]
  refine ⟨key, ?_⟩
  have new : (h.getD k 0, h.getD (k + 1) 0) ∉ pr h := fun m => by
    have a1 := ps_get nd hk
    have a2 := ps_get nd (show k < h.length by omega)
    have a3 := ((mem_prs nd).mp m).2.2.1
    omega
  rw [len_of (pr_nodup nd2) (List.nodup_cons.mpr ⟨new, pr_nodup nd⟩) fun z => (key z).trans (by rw [List.mem_cons, or_comm]), List.length_cons]
def dr (r : List Int) : List Nat := (List.range (r.length - 1)).filter fun k => decide (r.getD (k + 1) 0 < r.getD k 0)
theorem dr_mem {r : List Int} {k : Nat} : k ∈ dr r ↔ k + 1 < r.length ∧ r.getD (k + 1) 0 < r.getD k 0 := by
  unfold dr
  rw [List.mem_filter, List.mem_range, decide_eq_true_eq]
  constructor
  · rintro ⟨a, b⟩; exact ⟨by omega, b⟩
  · rintro ⟨a, b⟩; exact ⟨by omega, b⟩
theorem no_drop {r : List Int} {n : Nat} (h : r.Perm (upTo n)) (hd : dr r = []) : r = upTo n := by
  have step : ∀ k, k + 1 < r.length → r.getD k 0 ≤ r.getD (k + 1) 0 := fun k hk => by
    by_cases c : r.getD (k + 1) 0 < r.getD k 0
    · have := dr_mem.mpr ⟨hk, c⟩
      rw [hd] at this; cases this
    · omega
  have up : ∀ d i, i + d < r.length → r.getD i 0 ≤ r.getD (i + d) 0 := fun d => by
    induction d with
    | zero => intro i _; exact Int.le_refl _
    | succ d ih => intro i hi; exact Int.le_trans (ih i (by omega)) (step (i + d) (by omega))
  refine asc_unique h (List.pairwise_iff_getElem.mpr fun i j hi hj c => ?_) ((upTo_asc n).imp fun h => Int.le_of_lt h)
  have := up (j - i) i (by omega)
  rw [show i + (j - i) = j by omega, List.getD_eq_getElem?_getD, List.getD_eq_getElem?_getD, List.getElem?_eq_getElem hi, List.getElem?_eq_getElem hj] at this
  exact this
/-- what stands where, by the places in r -/
def bk (r h : List Int) : List Int := h.map (ps r)
structure Jn (n : Nat) (r h : List Int) : Prop where
  pm : h.Perm (upTo n)
  sub : ∀ z ∈ pr h, z ∈ pr r
def ups (r h : List Int) : List Nat := (List.range (h.length - 1)).filter fun k => decide (h.getD k 0 < h.getD (k + 1) 0) && decide ((h.getD k 0, h.getD (k + 1) 0) ∈ pr r)
theorem Jn.zero (n : Nat) (r : List Int) : Jn n r (upTo n) := ⟨.refl _, fun z hz => by rw [pr_up _ (upTo_asc n)] at hz; cases hz⟩
section
variable {n : Nat} {r h : List Int} (R : RowS n r) (J : Jn n r h)
include R J
theorem Jn.nd : h.Nodup := J.pm.nodup_iff.mpr (upTo_nd n)
theorem Jn.len : h.length = n := by rw [J.pm.length_eq, upTo_len]
theorem Jn.mem (x : Int) : x ∈ h ↔ x ∈ r := (J.pm.mem_iff.trans mem_upTo2).trans (R.mem x).symm
theorem Jn.bkp : (bk r h).Perm (upTo n) := by
  have e : r.map (ps r) = upTo n := by
    refine ext_getD (by rw [List.length_map, upTo_len, R.len]) fun j hj => ?_
    rw [List.length_map] at hj
    rw [map_getD _ r hj, ps_get R.nd hj, upTo_get (by have := R.len; omega)]
  rw [← e]
  exact (List.perm_ext_iff_of_nodup (Jn.nd R J) R.nd |>.mpr (Jn.mem R J)).map _
theorem Jn.ups_eq : ups r h = dr (bk r h) := by
  unfold ups dr bk
  rw [List.length_map]
  refine List.filter_congr fun k hk => ?_
  have hk := List.mem_range.mp hk
  have k1 : k + 1 < h.length := by omega
  rw [map_getD _ h k1, map_getD _ h (show k < h.length by omega)]
  have m1 := getD_mem2 (show k < h.length by omega)
  have m2 := getD_mem2 k1
  have ndh := Jn.nd R J
  by_cases c : ps r (h.getD (k + 1) 0) < ps r (h.getD k 0)
  · rw [decide_eq_true c, Bool.and_eq_true, decide_eq_true_eq, decide_eq_true_eq]
    have lt : h.getD k 0 < h.getD (k + 1) 0 := by
      have ne : h.getD k 0 ≠ h.getD (k + 1) 0 := fun e => by rw [e] at c; omega
      by_cases q : h.getD (k + 1) 0 < h.getD k 0
      · have : (h.getD (k + 1) 0, h.getD k 0) ∈ pr h := (mem_prs ndh).mpr ⟨m2, m1, by rw [ps_get ndh (by omega), ps_get ndh k1]; omega, q⟩
        have := (mem_prs R.nd).mp (J.sub _ this)
        omega
      · omega
    exact ⟨lt, (mem_prs R.nd).mpr ⟨(Jn.mem R J _).mp m1, (Jn.mem R J _).mp m2, c, lt⟩⟩
  · rw [decide_eq_false c, Bool.and_eq_false_iff]
    refine .inr (decide_eq_false fun m => c ((mem_prs R.nd).mp m).2.2.1)
theorem Jn.step {k : Nat} (hk : k ∈ dr (bk r h)) : k + 1 < h.length ∧ h.getD k 0 < h.getD (k + 1) 0 ∧ Jn n r (swp h k) ∧ (pr (swp h k)).length = (pr h).length + 1 := by
  rw [← Jn.ups_eq R J] at hk
  obtain ⟨h1, h2⟩ := List.mem_filter.mp hk
  have h1 := List.mem_range.mp h1
  rw [Bool.and_eq_true, decide_eq_true_eq, decide_eq_true_eq] at h2
  have k1 : k + 1 < h.length := by omega
  obtain ⟨a, b⟩ := pr_swp (Jn.nd R J) k1 h2.1
  refine ⟨k1, h2.1, ⟨(swp_perm2 k1).trans J.pm, fun z hz => ?_⟩, b⟩
  rcases (a z).mp hz with hz | rfl
  · exact J.sub z hz
  · exact h2.2
theorem Jn.le : (pr h).length ≤ (pr r).length := sub_len (pr_nodup (Jn.nd R J)) J.sub
theorem Jn.full (e : (pr h).length = (pr r).length) : dr (bk r h) = [] := by
  cases q : dr (bk r h) with
  | nil => rfl
  | cons k l =>
    obtain ⟨_, _, J2, e2⟩ := Jn.step R J (k := k) (by rw [q]; simp)
    have := Jn.le R J2
    omega
theorem Jn.done (e : dr (bk r h) = []) : h = r := by
  have eb := no_drop (Jn.bkp R J) e
  refine ext_getD (by rw [Jn.len R J, R.len]) fun j hj => ?_
  have b : (bk r h).getD j 0 = (j : Int) := by rw [eb]; exact upTo_get (by have := Jn.len R J; omega)
  unfold bk at b
  rw [map_getD _ h hj] at b
  have := get_ps R.nd ((Jn.mem R J _).mp (getD_mem2 hj))
  rw [b, Int.toNat_natCast] at this
  exact this.symm
theorem Jn.more (lt : (pr h).length < (pr r).length) : dr (bk r h) ≠ [] := fun e => by
  rw [Jn.done R J e] at lt
  omega
end
/-- the least way: by the first place, ever again -/
def lw (r : List Int) : Nat → List Int → List Nat
  | 0, _ => []
  | m + 1, h => (dr (bk r h)).headD 0 :: lw r m (swp h ((dr (bk r h)).headD 0))
theorem lw_len (r : List Int) : ∀ (m : Nat) (h : List Int), (lw r m h).length = m
  | 0, _ => rfl
  | m + 1, h => by unfold lw; rw [List.length_cons, lw_len r m]
theorem head_mem {l : List Nat} (h : l ≠ []) : l.headD 0 ∈ l := by
  cases l with
  | nil => exact absurd rfl h
  | cons a l => exact List.mem_cons_self
theorem lw_end {n : Nat} {r : List Int} (R : RowS n r) : ∀ (m : Nat) (h : List Int), Jn n r h → (pr h).length + m = (pr r).length → ledw h (lw r m h) = r ∧ ∀ k ∈ lw r m h, k + 1 < n
  | 0, h, J, e => by
    have d : h = r := Jn.done R J (Jn.full R J (by omega))
    exact ⟨d, fun k hk => nomatch hk⟩
  | m + 1, h, J, e => by
    have ne := Jn.more R J (by omega)
    obtain ⟨k1, _, J2, e2⟩ := Jn.step R J (head_mem ne)
    obtain ⟨a, b⟩ := lw_end R m _ J2 (by omega)
    refine ⟨a, fun k hk => ?_⟩
    unfold lw at hk
    rcases List.mem_cons.mp hk with rfl | hk
    · rw [← Jn.len R J]; exact k1
    · exact b k hk
def lway (n : Nat) (r : List Int) : List Nat := lw r (pr r).length (upTo n)
theorem lway_len (n : Nat) (r : List Int) : (lway n r).length = (pr r).length := lw_len _ _ _
theorem lway_end {n : Nat} {r : List Int} (R : RowS n r) : ledw (upTo n) (lway n r) = r ∧ ∀ k ∈ lway n r, k + 1 < n := lw_end R _ _ (Jn.zero n r) (by rw [pr_up _ (upTo_asc n)]; simp)
theorem ledw_map (f : Int → Int) : ∀ (w : List Nat) (r : List Int), (∀ k ∈ w, k + 1 < r.length) → ledw (r.map f) w = (ledw r w).map f
  | [], _, _ => rfl
  | k :: w, r, h => by
    show ledw (swp (r.map f) k) w = (ledw (swp r k) w).map f
    rw [swp_map f r k (h k List.mem_cons_self), ledw_map f w _ fun x hx => by rw [swp_len]; exact h x (List.mem_cons_of_mem _ hx)]
section
variable {n : Nat} {p q : List Int} (P : RowS n p) (Q : RowS n q)
include P Q
def btw (p q : List Int) : List Int := q.map (ps p)
theorem btw_row : RowS n (btw p q) := by
  have same : ∀ x, x ∈ q ↔ x ∈ p := fun x => (Q.mem x).trans (P.mem x).symm
  have nd : (btw p q).Nodup := List.pairwise_map.mpr (Q.nd.imp_of_mem fun {a b} ha hb h e => h (ps_inj P.nd ((same a).mp ha) ((same b).mp hb) e))
  refine ⟨by unfold btw; rw [List.length_map, Q.len], nd, fun x => ⟨fun h => ?_, fun h => ?_⟩⟩
  · obtain ⟨y, hy, rfl⟩ := List.mem_map.mp h
    have := ps_lt ((same y).mp hy)
    have := ps_nn p y
    have := P.len
    omega
  · refine List.mem_map.mpr ⟨p.getD x.toNat 0, (same _).mpr (getD_mem2 (by have := P.len; omega)), ?_⟩
    rw [ps_get P.nd (by have := P.len; omega)]; omega
theorem lead_there : ledw p (lway n (btw p q)) = q := by
  obtain ⟨e, hw⟩ := lway_end (btw_row P Q)
  have ep : p = (upTo n).map fun i => p.getD i.toNat 0 := by
    refine ext_getD (by rw [List.length_map, upTo_len, P.len]) fun j hj => ?_
    rw [map_getD _ (upTo n) (by rw [upTo_len, ← P.len]; exact hj), upTo_get (by rw [← P.len]; exact hj), Int.toNat_natCast]
  have eq : (btw p q).map (fun i => p.getD i.toNat 0) = q := by
    unfold btw
    rw [List.map_map]
    conv => rhs; rw [← List.map_id q]
    refine List.map_congr_left fun x hx => get_ps P.nd ((P.mem x).mpr ((Q.mem x).mp hx))
  have := ledw_map (fun i => p.getD i.toNat 0) (lway n (btw p q)) (upTo n) (fun k hk => by rw [upTo_len]; exact hw k hk)
  rw [e, eq, ← ep] at this
  exact this
omit Q in
theorem btw_self : btw p p = upTo n := by
  refine ext_getD (by unfold btw; rw [List.length_map, upTo_len, P.len]) fun j hj => ?_
  unfold btw at hj ⊢
  rw [List.length_map] at hj
  rw [map_getD _ p hj, ps_get P.nd hj, upTo_get (by have := P.len; omega)]
end
end Pv

namespace Pv
open PySem PySem.Spec PyProof.Rows L2
/-! ### dicts keyed by pairs, with one value -/
def dV (v : PyData) (qs : List (Int × Int)) : List (PyData × PyData) := qs.map fun p => (enP p, v)
theorem dV_len (v : PyData) (qs : List (Int × Int)) : (dV v qs).length = qs.length := by unfold dV; rw [List.length_map]
theorem dOK_V (v : PyData) (qs : List (Int × Int)) (p : Int × Int) : dOK (dV v qs) (enP p) = true := by
  unfold dOK dV
  rw [Bool.or_eq_true]
  refine .inr ?_
  rw [Bool.and_eq_true]
  refine ⟨rfl, ?_⟩
  rw [List.all_eq_true]
  intro z hz
  obtain ⟨y, _, rfl⟩ := List.mem_map.mp hz
  rfl
theorem dGet_V (v : PyData) (p : Int × Int) : ∀ qs : List (Int × Int), dGet (dV v qs) (enP p) = if p ∈ qs then some v else none
  | [] => rfl
  | q :: qs => by
    show dGet ((enP q, v) :: dV v qs) (enP p) = _
    rw [dGet_cons]
    show (if PyData.eqv (enP q) (enP p) = true then some v else _) = _
    rw [eqv_enP, dGet_V v p qs]
    by_cases e : q = p
    · subst e; simp
    · have e' : ¬ p = q := fun z => e z.symm
      simp [e, e']
theorem dPut_V {v : PyData} {qs : List (Int × Int)} {p : Int × Int} (h : p ∉ qs) : dPut (dV v qs) (enP p) v = dV v (qs ++ [p]) := by
  unfold dPut
  rw [dGet_V, if_neg h, if_neg (by decide)]
  unfold dV
  rw [List.map_append]; rfl
theorem in_V (v : PyData) (qs : List (Int × Int)) (p : Int × Int) : gIn2 (enP p) (.dict (dV v qs)) = some (.bool (decide (p ∈ qs))) := by
  rw [s_in5, if_pos (dOK_V v qs p), dGet_V]
  by_cases h : p ∈ qs <;> simp [h]
theorem a_runDC (vs : List Nat) (h : FG) (t : FT) (ek ev : FE) (d : PyData) (ds : List PyData) (kvs : List (PyData × PyData)) (st : Sx) : runDC vs h t ek ev (d :: ds) kvs st = (h d st).bind fun s1 => (t s1).bind fun p =>
    if p.1 = true then (ek p.2).bind fun q => (share q.2 q.1).bind fun k => (ev k.2).bind fun r => (share r.2 r.1).bind fun v => if vs.all (noOwn v.2) = true ∧ dOK kvs k.1 = true ∧ kvs.length < LIM then runDC vs h t ek ev ds (dPut kvs k.1 v.1) (wipeS v.2 vs) else none
    else if vs.all (noOwn p.2) = true then runDC vs h t ek ev ds kvs (wipeS p.2 vs) else none := rfl
/-- {pair: v for pair in pairs} -/
theorem runDC_V {v : PyData} {x : Nat} {ev : FE} {st : Sx} (hx : x < st.length) (hv : ∀ d, ∃ r, ev (at1 st x d) = some (r, at1 st x d) ∧ share (at1 st x d) r = some (v, at1 st x d)) : ∀ (ps qs : List (Int × Int)), (qs ++ ps).Nodup → qs.length + ps.length < LIM →
    runDC [x] (gC x) tYe (eVar x) ev (dP ps) (dV v qs) (st.set x none) = some (dV v (qs ++ ps), st.set x none)
  | [], qs, _, _ => by rw [List.append_nil]; rfl
  | p :: ps, qs, nd, hl => by
    have n0 : noOwn (st.set x none) x = true := noOwn_set hx none
    have hg : gC x (enP p) (st.set x none) = some (at1 st x (enP p)) := by rw [a_gC, if_pos n0, List.set_set]
    have n1 : [x].all (noOwn (at1 st x (enP p))) = true := by
      rw [List.all_cons, List.all_nil, Bool.and_true]; exact noOwn_set hx (some (enP p))
    have wp : wipeS (at1 st x (enP p)) [x] = st.set x none := by
      show (at1 st x (enP p)).set x none = _
      exact List.set_set ..
    have ex : (at1 st x (enP p))[x]? = some (some (.sh (enP p))) := List.getElem?_set_self hx
    obtain ⟨r, e1, e2⟩ := hv (enP p)
    have np : p ∉ qs := fun h => by
      rw [List.nodup_append] at nd
      exact nd.2.2 p h p List.mem_cons_self rfl
    have ih := runDC_V hx hv ps (qs ++ [p]) (by rw [List.append_assoc]; exact nd) (by rw [List.length_append, List.length_singleton]; rw [List.length_cons] at hl; omega)
    show runDC [x] (gC x) tYe (eVar x) ev (enP p :: dP ps) (dV v qs) (st.set x none) = _
    rw [a_runDC, hg, Option.bind_some, a_tYe, Option.bind_some, if_pos rfl, a_eVar _ _ ex, Option.bind_some, a_shVar _ _ ex, Option.bind_some, e1, Option.bind_some, e2, Option.bind_some, if_pos ⟨n1, dOK_V v qs p, by rw [dV_len]; rw [List.length_cons] at hl; omega⟩, wp, dPut_V np, ih, List.append_assoc]
    rfl
theorem dc_V {v : PyData} {x : Nat} {fi : FI} {ev : FE} {st s1 : Sx} {ps : List (Int × Int)} (h1 : fi st = some (dP ps, s1)) (nd : ps.Nodup) (hl : ps.length < LIM) (hx : x < s1.length) (hn : noOwn s1 x = true) (hv : ∀ d, ∃ r, ev (at1 s1 x d) = some (r, at1 s1 x d) ∧ share (at1 s1 x d) r = some (v, at1 s1 x d)) :
    oDC [x] fi (gC x) tYe (eVar x) ev st = some (.od false (dV v ps), s1) := by
  have q := runDC_V hx hv ps [] nd (by rw [List.length_nil]; omega)
  have dl : (dP ps).length ≤ LIM := by unfold dP; rw [List.length_map]; omega
  show (fi st).bind _ = _
  rw [h1, Option.bind_some, if_pos ⟨dl, by rw [List.all_cons, List.all_nil, Bool.and_true]; exact hn⟩]
  show ((runDC [x] (gC x) tYe (eVar x) ev (dP ps) (dV v []) (s1.set x none)).bind _) = _
  rw [q, Option.bind_some, List.nil_append]
  show some (M.od false (dV v ps), (s1.set x none).set x ((s1[x]?).getD none)) = _
  rw [set_back hx]
/-- lists of pairs -/
theorem any_P (qs : List (Int × Int)) (p : Int × Int) : ((dP qs).any fun z => PyData.eqv z (enP p)) = decide (p ∈ qs) := by
  induction qs with
  | nil => simp [dP]
  | cons a r ih =>
    show (PyData.eqv (enP a) (enP p) || (dP r).any fun z => PyData.eqv z (enP p)) = _
    rw [ih, eqv_enP]
    by_cases h : a = p
    · subst h; simp
    · have h' : ¬ p = a := fun z => h z.symm
      simp [h, h']
theorem okE_P (qs : List (Int × Int)) : okE (.list (dP qs)) = true := by
  unfold okE okD
  rw [List.all_eq_true]
  intro x hx
  obtain ⟨p, _, rfl⟩ := List.mem_map.mp hx
  exact okD_T _ [p.1, p.2]
theorem nin_P (qs : List (Int × Int)) (p : Int × Int) : gNotIn2 (enP p) (.list (dP qs)) = some (.bool (!decide (p ∈ qs))) := by
  show gNotIn (enP p) (.list (dP qs)) = _
  show (if okE (enP p) = true ∧ okE (.list (dP qs)) = true then some (PyData.bool (!((dP qs).any fun z => PyData.eqv z (enP p)))) else none) = _
  rw [if_pos ⟨okE_T [p.1, p.2], okE_P qs⟩, any_P]
theorem ne_W (v : List Nat) : gNe (.list (iW v)) (.list []) = some (.bool (!decide (v = []))) := by
  have := eqv_W v []
  rw [iW_nil] at this
  unfold gNe
  rw [if_pos ⟨okE_WL _, rfl⟩]
  show some (PyData.bool (!PyData.eqvAll (iW v) [])) = _
  rw [this]
theorem ix_W0 {v : List Nat} (h : v ≠ []) : gIx2 (.list (iW v)) (.int 0) = some (.int ((v.headD 0 : Nat) : Int)) := by
  cases v with
  | nil => exact absurd rfl h
  | cons a v => exact gIx_W (w := a :: v) (k := 0) (by simp)
theorem ix_Wl (v : List Nat) (k : Nat) : gIx2 (.list (iW (v ++ [k]))) (.int (-1)) = some (.int (k : Int)) := by
  rw [s_ix4, iW_app]
  exact gIx_last
theorem flat_one {α : Type} (d : α) : ∀ n : Nat, (List.replicate n [d]).flatten = List.replicate n d
  | 0 => rfl
  | n + 1 => by rw [List.replicate_succ, List.flatten_cons, flat_one d n, List.replicate_succ]; rfl
theorem rep_one (d : PyData) {n : Nat} (h : n ≤ 1000) : gRepL (.list [d]) (.int (n : Int)) = some (List.replicate n d) := by
  have h1 : [d].length * (n : Int).toNat ≤ LIM := by rw [List.length_singleton, Int.toNat_natCast, Nat.one_mul]; exact small_lim h
  show (if -(2 ^ 62) ≤ (n : Int) ∧ (n : Int) ≤ 1000000 ∧ [d].length * (n : Int).toNat ≤ LIM then some (List.replicate (n : Int).toNat [d]).flatten else none) = _
  rw [if_pos ⟨by omega, by omega, h1⟩, Int.toNat_natCast, flat_one]
end Pv

namespace Pv
open PySem PySem.Spec PyProof.Rows L2
/-! ### meanings as plain functions of data: what a text of Python hands on, without states -/
def asB : PyData → Option Bool
  | .bool b => some b
  | _ => none
def asI : PyData → Option Int
  | .int i => some i
  | _ => none
def seqD : PyData → Option (List PyData)
  | .list ds => some ds
  | .tuple ds => some ds
  | _ => none
def gR1 : PyData → Option (List PyData)
  | .int n => if -(2 ^ 62) ≤ n ∧ n < 2 ^ 62 then some (rgD 0 n.toNat) else none
  | _ => none
def gR2 : PyData → PyData → Option (List PyData)
  | .int m, .int n => if -(2 ^ 62) ≤ m ∧ m < 2 ^ 62 ∧ -(2 ^ 62) ≤ n ∧ n < 2 ^ 62 then some (rgD m (n - m).toNat) else none
  | _, _ => none
def gRL1 : PyData → Option (List PyData)
  | .int n => if n ≤ LIM ∧ -(2 ^ 62) ≤ n then some (rgD 0 n.toNat) else none
  | _ => none
def gRL2 : PyData → PyData → Option (List PyData)
  | .int m, .int n => if -(2 ^ 61) ≤ m ∧ m ≤ 2 ^ 61 ∧ -(2 ^ 61) ≤ n ∧ n ≤ 2 ^ 61 ∧ n - m ≤ LIM then some (rgD m (n - m).toNat) else none
  | _, _ => none
def noD : PyData → Option PyData
  | .bool b => some (.bool (!b))
  | _ => none
def mkT (l : List PyData) : Option PyData := if l.length ≤ LIM then some (.tuple l) else none
def mkL (l : List PyData) : Option (List PyData) := if l.length ≤ LIM then some l else none
def apX (ds : List PyData) (d : PyData) : Option (List PyData) := if ds.length < LIM then some (ds ++ [d]) else none
def exX (ds : List PyData) : PyData → Option (List PyData)
  | .list es => if ds.length + es.length ≤ LIM then some (ds ++ es) else none
  | _ => none
def stX (ds : List PyData) (k d : PyData) : Option (List PyData) := (asI k).bind fun i => (ixN ds.length i).bind fun n => some (ds.set n d)
def dpX (kvs : List (PyData × PyData)) (k v : PyData) : Option (List (PyData × PyData)) := if dOK kvs k = true ∧ kvs.length < LIM then some (dPut kvs k v) else none
def zpX (a b : PyData) : Option (List PyData) := match a, b with
  | .list ds, .list es => some (zpD ds es)
  | .tuple ds, .tuple es => some (zpD ds es)
  | _, _ => none
def compR (F : PyData → Option (Option PyData)) : List PyData → Option (List PyData)
  | [] => some []
  | d :: ds => (F d).bind fun o => (compR F ds).bind fun r => match o with
    | some y => some (y :: r)
    | none => some r
def compX (F : PyData → Option (Option PyData)) (ds : List PyData) : Option (List PyData) := if ds.length ≤ LIM then compR F ds else none
abbrev compM (G : PyData → Option PyData) (ds : List PyData) : Option (List PyData) := compX (fun d => (G d).bind fun y => some (some y)) ds
def dcR (F : PyData → Option (Option (PyData × PyData))) : List PyData → List (PyData × PyData) → Option (List (PyData × PyData))
  | [], kvs => some kvs
  | d :: ds, kvs => (F d).bind fun o => match o with
    | some y => (dpX kvs y.1 y.2).bind fun kvs => dcR F ds kvs
    | none => dcR F ds kvs
def dcX (F : PyData → Option (Option (PyData × PyData))) (ds : List PyData) : Option (List (PyData × PyData)) := if ds.length ≤ LIM then dcR F ds [] else none
def unT2 {β : Type} (d : PyData) (K : PyData → PyData → Option β) : Option β := match d with
  | .tuple [a, b] => K a b
  | _ => none
def unT3 {β : Type} (d : PyData) (K : PyData → PyData → PyData → Option β) : Option β := match d with
  | .tuple [a, b, c] => K a b c
  | _ => none
def unT4 {β : Type} (d : PyData) (K : PyData → PyData → PyData → PyData → Option β) : Option β := match d with
  | .tuple [a, b, c, e] => K a b c e
  | _ => none
def unL2 {β : Type} (d : PyData) (K : PyData → PyData → Option β) : Option β := match d with
  | .list [a, b] => K a b
  | _ => none
inductive Rx (ρ α : Type) where
  | ret (a : ρ)
  | nxt (v : α)
  | brk (v : α)
def forX {ρ α : Type} (F : PyData → α → Option (Rx ρ α)) : List PyData → α → Option (ρ ⊕ α)
  | [], v => some (.inr v)
  | d :: ds, v => (F d v).bind fun r => match r with
    | .ret a => some (.inl a)
    | .nxt v => forX F ds v
    | .brk v => some (.inr v)
def foldX {α : Type} (F : PyData → α → Option α) : List PyData → α → Option α
  | [], v => some v
  | d :: ds, v => (F d v).bind fun v => foldX F ds v
def whileX {ρ α : Type} (t : α → Option Bool) (F : α → Option (Rx ρ α)) : Nat → α → Option (ρ ⊕ α)
  | 0, _ => none
  | n + 1, v => (t v).bind fun b => cond b ((F v).bind fun r => match r with
    | .ret a => some (.inl a)
    | .nxt v => whileX t F n v
    | .brk v => some (.inr v)) (some (.inr v))
def unInr {ρ α β : Type} (x : ρ ⊕ α) (kl : ρ → Option β) (kr : α → Option β) : Option β := match x with
  | .inl a => kl a
  | .inr v => kr v
/-! ### what reads only -/
def XV (f : FE) (st : Sx) (x : Option PyData) : Prop := ∀ d, x = some d → f st = some (.val d, st)
def XS (f : FE) (st : Sx) (x : Option PyData) : Prop := ∀ d, x = some d → ∃ r, f st = some (r, st) ∧ dat st r = some d ∧ share st r = some (d, st)
def XD (f : FE) (st : Sx) (x : Option PyData) : Prop := ∀ d, x = some d → ∃ r, f st = some (r, st) ∧ dat st r = some d
def XT (t : FT) (st : Sx) (x : Option Bool) : Prop := ∀ b, x = some b → t st = some (b, st)
def XO {κ : Type} (emb : κ → M) (o : FO) (st : Sx) (x : Option κ) : Prop := ∀ d, x = some d → o st = some (emb d, st)
def XI (i : FI) (st : Sx) (x : Option (List PyData)) : Prop := ∀ ds, x = some ds → i st = some (ds, st)
def XA (a : FA) (st : Sx) (x : Option (List PyData)) : Prop := ∀ l, x = some l → ∃ rs, a st = some (rs, st) ∧ shares st rs = some (l, st)
def XAn (a : FA) (st : Sx) (n : Nat) (x : Option (List PyData)) : Prop := ∀ l, x = some l → l.length = n ∧ ∃ rs, a st = some (rs, st) ∧ shares st rs = some (l, st)
def XP (p : FP) (st : Sx) (x : Option (Option Int)) : Prop := ∀ o, x = some o → p st = some (o, st)
def XF (t : FT) (el : FE) (st : Sx) (x : Option (Option PyData)) : Prop := ∀ o, x = some o → (o = none ∧ t st = some (false, st)) ∨ (∃ y r, o = some y ∧ t st = some (true, st) ∧ el st = some (r, st) ∧ share st r = some (y, st))
def XFd (t : FT) (ek ev : FE) (st : Sx) (x : Option (Option (PyData × PyData))) : Prop := ∀ o, x = some o → (o = none ∧ t st = some (false, st)) ∨ (∃ y r q, o = some y ∧ t st = some (true, st) ∧ ek st = some (r, st) ∧ share st r = some (y.1, st) ∧ ev st = some (q, st) ∧ share st q = some (y.2, st))
abbrev eL : List PyData → M := M.ol false
abbrev eD : List (PyData × PyData) → M := M.od false
theorem bs {α β : Type} {x : Option α} {f : α → Option β} {b : β} (h : x.bind f = some b) : ∃ a, x = some a ∧ f a = some b := Option.bind_eq_some_iff.mp h
section
variable {f g h : FE} {st : Sx} {x y z : Option PyData} {t t2 : FT} {b c : Option Bool} {i j : Nat} {d : PyData} {m : M} {κ : Type} {emb : κ → M} {o o2' : FO}
theorem XV.s (p : XV f st x) : XS f st x := fun d e => ⟨_, p d e, rfl, rfl⟩
theorem XS.r (p : XS f st x) : XD f st x := fun d e => by obtain ⟨r, a, b, _⟩ := p d e; exact ⟨r, a, b⟩
theorem XV.r (p : XV f st x) : XD f st x := p.s.r
theorem xv_cst : XV (eCst d) st (some d) := fun _ e => by cases e; rfl
theorem xs_var (h : st[i]? = some (some (.sh d))) : XS (eVar i) st (some d) := fun _ e => by
  cases e; exact ⟨_, a_eVar _ _ h, by rw [a_var _ _ h]; rfl, a_shVar _ _ h⟩
theorem xd_var (h : st[i]? = some (some m)) (hd : m.dat = some d) : XD (eVar i) st (some d) := fun _ e => by
  cases e; exact ⟨_, a_eVar _ _ h, by rw [a_var _ _ h]; exact hd⟩
theorem xv_1 {k : PyData → Option PyData} (p : XD f st x) : XV (e1 k f) st (x.bind k) := fun d e => by
  obtain ⟨u, e1, e2⟩ := bs e
  obtain ⟨r, a, b⟩ := p u e1
  rw [a_e1, a, Option.bind_some, b, Option.bind_some, e2]; rfl
theorem xv_2 {k : PyData → PyData → Option PyData} (p : XD f st x) (q : XD g st y) : XV (e2 k f g) st (x.bind fun u => y.bind fun v => k u v) := fun d e => by
  obtain ⟨u, e1, e⟩ := bs e
  obtain ⟨v, e2, e⟩ := bs e
  obtain ⟨r, a, b⟩ := p u e1
  obtain ⟨r2, a2, b2⟩ := q v e2
  rw [a_e2, a, Option.bind_some, a2, Option.bind_some, b, Option.bind_some, b2, Option.bind_some, e]; rfl
theorem xp_none : XP fpNone st (some none) := fun o e => by cases e; rfl
theorem xp_some (p : XD f st x) : XP (fpSome f) st (x.bind fun d => (asI d).bind fun i => some (some i)) := fun o e => by
  obtain ⟨u, e1, e⟩ := bs e
  obtain ⟨i, e2, e⟩ := bs e
  cases e
  obtain ⟨r, a, b⟩ := p u e1
  cases u <;> first | (cases e2; done) | skip
  cases e2
  rw [a_fpSome, a, Option.bind_some, b]; rfl
theorem xv_3 {k : PyData → Option Int → Option Int → Option PyData} {fl fh : FP} {xl xh : Option (Option Int)} (p : XD f st x) (pl : XP fl st xl) (ph : XP fh st xh) : XV (e3 k f fl fh) st (x.bind fun u => xl.bind fun l => xh.bind fun h => k u l h) := fun d e => by
  obtain ⟨u, e1, e⟩ := bs e
  obtain ⟨l, e2, e⟩ := bs e
  obtain ⟨h, e3, e⟩ := bs e
  obtain ⟨r, a, b⟩ := p u e1
  rw [a_e3, a, Option.bind_some, pl l e2, Option.bind_some, ph h e3, Option.bind_some, b, Option.bind_some, e]; rfl
theorem xo_3 {k : PyData → Option Int → Option Int → Option (List PyData)} {fl fh : FP} {xl xh : Option (Option Int)} (p : XD f st x) (pl : XP fl st xl) (ph : XP fh st xh) : XO eL (o3 k f fl fh) st (x.bind fun u => xl.bind fun l => xh.bind fun h => k u l h) := fun d e => by
  obtain ⟨u, e1, e⟩ := bs e
  obtain ⟨l, e2, e⟩ := bs e
  obtain ⟨h, e3, e⟩ := bs e
  obtain ⟨r, a, b⟩ := p u e1
  show (f st).bind _ = _
  rw [a, Option.bind_some]
  show (fl st).bind _ = _
  rw [pl l e2, Option.bind_some]
  show (fh st).bind _ = _
  rw [ph h e3, Option.bind_some]
  show (dat st r).bind _ = _
  rw [b, Option.bind_some]
  show (k u l h).bind _ = _
  rw [e]; rfl
theorem xv_no (p : XD f st x) : XV (eNo f) st (x.bind noD) := fun d e => by
  obtain ⟨u, e1, e⟩ := bs e
  obtain ⟨r, a, b⟩ := p u e1
  cases u <;> first | (cases e; done) | skip
  cases e
  show (f st).bind _ = _
  rw [a, Option.bind_some]
  show (dat st r).bind _ = _
  rw [b]; rfl
theorem xv_an (p : XD f st x) (q : XV g st y) : XV (eAn f g) st (x.bind fun u => (asB u).bind fun b => cond b y (some (.bool false))) := fun d e => by
  obtain ⟨u, e1, e⟩ := bs e
  obtain ⟨b', e2, e⟩ := bs e
  obtain ⟨r, a, b⟩ := p u e1
  cases u <;> first | (cases e2; done) | skip
  cases e2
  show (f st).bind _ = _
  rw [a, Option.bind_some]
  show (dat st r).bind _ = _
  rw [b, Option.bind_some]
  cases b' with
  | true => exact q d e
  | false => cases e; rfl
theorem xv_or (p : XD f st x) (q : XV g st y) : XV (eOr f g) st (x.bind fun u => (asB u).bind fun b => cond b (some (.bool true)) y) := fun d e => by
  obtain ⟨u, e1, e⟩ := bs e
  obtain ⟨b', e2, e⟩ := bs e
  obtain ⟨r, a, b⟩ := p u e1
  cases u <;> first | (cases e2; done) | skip
  cases e2
  show (f st).bind _ = _
  rw [a, Option.bind_some]
  show (dat st r).bind _ = _
  rw [b, Option.bind_some]
  cases b' with
  | false => exact q d e
  | true => cases e; rfl
theorem xs_if (p : XT t st b) (q : XS f st x) (q2 : XS g st y) : XS (eIf t f g) st (b.bind fun c => cond c x y) := fun d e => by
  obtain ⟨c, e1, e⟩ := bs e
  rw [a_eIf, p c e1, Option.bind_some]
  cases c with
  | true => rw [if_pos rfl]; exact q d e
  | false => rw [if_neg Bool.false_ne_true]; exact q2 d e
theorem xv_chain {k k' : PyData → PyData → Option PyData} (p : XD f st x) (q : XD g st y) (q2 : XD h st z) : XV (eChain k k' f g h) st (x.bind fun u => y.bind fun v => (k u v).bind fun d => (asB d).bind fun b => cond b (z.bind fun w => k' v w) (some (.bool false))) := fun d e => by
  obtain ⟨u, e1, e⟩ := bs e
  obtain ⟨v, e2, e⟩ := bs e
  obtain ⟨d1, e3, e⟩ := bs e
  obtain ⟨b', e4, e⟩ := bs e
  obtain ⟨r, a, b⟩ := p u e1
  obtain ⟨r2, a2, b2⟩ := q v e2
  cases d1 <;> first | (cases e4; done) | skip
  cases e4
  show (f st).bind _ = _
  rw [a, Option.bind_some]
  show (g st).bind _ = _
  rw [a2, Option.bind_some]
  show (dat st r).bind _ = _
  rw [b, Option.bind_some]
  show (dat st r2).bind _ = _
  rw [b2, Option.bind_some]
  show (k u v).bind _ = _
  rw [e3, Option.bind_some]
  cases b' with
  | false => cases e; rfl
  | true =>
    obtain ⟨w, e5, e⟩ := bs (show (z.bind fun w => k' v w) = some d from e)
    obtain ⟨r3, a3, b3⟩ := q2 w e5
    show (h st).bind _ = _
    rw [a3, Option.bind_some]
    show (dat st r2).bind _ = _
    rw [b2, Option.bind_some]
    show (dat st r3).bind _ = _
    rw [b3, Option.bind_some]
    show (k' v w).bind _ = _
    rw [e]; rfl
theorem xv_frS (p : XO M.sh o st x) : XV (eFr o) st x := fun d e => by rw [a_eFr, p d e]; rfl
theorem xv_frL {l : Option (List PyData)} (p : XO eL o st l) : XV (eFr o) st (l.bind fun l => some (.list l)) := fun d e => by
  obtain ⟨l, e1, e⟩ := bs e
  cases e
  rw [a_eFr, p l e1]; rfl
theorem xv_frD {l : Option (List (PyData × PyData))} (p : XO eD o st l) : XV (eFr o) st (l.bind fun l => some (.dict l)) := fun d e => by
  obtain ⟨l, e1, e⟩ := bs e
  cases e
  rw [a_eFr, p l e1]; rfl
theorem xn_nil : XAn aNil st 0 (some []) := fun l e => by cases e; exact ⟨rfl, [], rfl, rfl⟩
theorem xn_cons {a : FA} {n : Nat} {l : Option (List PyData)} (p : XS f st x) (q : XAn a st n l) : XAn (aCons f a) st (n + 1) (x.bind fun u => l.bind fun l => some (u :: l)) := fun l' e => by
  obtain ⟨u, e1, e⟩ := bs e
  obtain ⟨l, e2, e⟩ := bs e
  cases e
  obtain ⟨r, b1, b2, b3⟩ := p u e1
  obtain ⟨c0, rs, c1, c2⟩ := q l e2
  refine ⟨by rw [List.length_cons, c0], r :: rs, ?_, ?_⟩
  · rw [a_aCons, b1, Option.bind_some, c1]; rfl
  · rw [a_shs, b3, Option.bind_some, c2]; rfl
theorem XAn.a {a : FA} {n : Nat} {l : Option (List PyData)} (p : XAn a st n l) : XA a st l := fun l' e => (p l' e).2
theorem xa_cons {a : FA} {l : Option (List PyData)} (p : XS f st x) (q : XA a st l) : XA (aCons f a) st (x.bind fun u => l.bind fun l => some (u :: l)) := fun l' e => by
  obtain ⟨u, e1, e⟩ := bs e
  obtain ⟨l, e2, e⟩ := bs e
  cases e
  obtain ⟨r, b1, b2, b3⟩ := p u e1
  obtain ⟨rs, c1, c2⟩ := q l e2
  refine ⟨r :: rs, ?_, ?_⟩
  · rw [a_aCons, b1, Option.bind_some, c1]; rfl
  · rw [a_shs, b3, Option.bind_some, c2]; rfl
theorem shares_vals (st : Sx) (ds es : List PyData) (rs : List R) (h : shares st rs = some (es, st)) : shares st (ds.map R.val ++ rs) = some (ds ++ es, st) := by
  induction ds with
  | nil => exact h
  | cons d ds ih =>
    show (share st (.val d)).bind _ = _
    rw [a_shVal, Option.bind_some]
    show (shares st (ds.map R.val ++ rs)).bind _ = _
    rw [ih]; rfl
theorem xa_star {a : FA} {l : Option (List PyData)} (p : XS f st x) (q : XA a st l) : XA (aStar f a) st (x.bind fun u => (seqD u).bind fun ds => l.bind fun l => some (ds ++ l)) := fun l' e => by
  obtain ⟨u, e1, e⟩ := bs e
  obtain ⟨ds, e2, e⟩ := bs e
  obtain ⟨l, e3, e⟩ := bs e
  cases e
  obtain ⟨r, b1, b2, b3⟩ := p u e1
  obtain ⟨rs, c1, c2⟩ := q l e3
  refine ⟨ds.map R.val ++ rs, ?_, shares_vals _ _ _ _ c2⟩
  show (f st).bind _ = _
  rw [b1, Option.bind_some]
  show (share st r).bind _ = _
  rw [b3, Option.bind_some]
  cases u <;> first | (cases e2; done) | skip
  all_goals
    cases e2
    show (a st).bind _ = _
    rw [c1]; rfl
theorem xa_starRg1 {a : FA} {l : Option (List PyData)} (p : XD f st x) (q : XA a st l) : XA (aStarRg none f a) st (x.bind fun u => (gRL1 u).bind fun ds => l.bind fun l => some (ds ++ l)) := fun l' e => by
  obtain ⟨u, e1, e⟩ := bs e
  obtain ⟨ds, e2, e⟩ := bs e
  obtain ⟨l, e3, e⟩ := bs e
  cases e
  obtain ⟨r, b1, b2⟩ := p u e1
  obtain ⟨rs, c1, c2⟩ := q l e3
  refine ⟨ds.map R.val ++ rs, ?_, shares_vals _ _ _ _ c2⟩
  show (oRgL none f st).bind _ = _
  have eo : oRgL none f st = some (.ol false ds, st) := by
    rw [a_rgL, b1, Option.bind_some, b2, Option.bind_some]
    cases u <;> first | (cases e2; done) | skip
    unfold gRL1 at e2
    dsimp only at e2 ⊢
    split at e2
    · rename_i c; cases e2; rw [if_pos c]
    · cases e2
  rw [eo, Option.bind_some]
  show (a st).bind _ = _
  rw [c1]; rfl
theorem rgL2_eq {u v : PyData} {ds : List PyData} (p : XD f st x) (q : XD g st y) (e1 : x = some u) (e2 : y = some v) (e3 : gRL2 u v = some ds) : oRgL (some f) g st = some (.ol false ds, st) := by
  obtain ⟨r, b1, b2⟩ := p u e1
  obtain ⟨r', b3, b4⟩ := q v e2
  show (f st).bind _ = _
  rw [b1, Option.bind_some]
  show (g st).bind _ = _
  rw [b3, Option.bind_some]
  show (dat st r).bind _ = _
  rw [b2, Option.bind_some]
  show (dat st r').bind _ = _
  rw [b4, Option.bind_some]
  cases u <;> first | (cases e3; done) | skip
  cases v <;> first | (cases e3; done) | skip
  unfold gRL2 at e3
  dsimp only at e3 ⊢
  split at e3
  · rename_i c; cases e3; rw [if_pos c]
  · cases e3
theorem xa_starRg2 {a : FA} {l : Option (List PyData)} (p : XD f st x) (p2 : XD g st y) (q : XA a st l) : XA (aStarRg (some f) g a) st (x.bind fun u => y.bind fun v => (gRL2 u v).bind fun ds => l.bind fun l => some (ds ++ l)) := fun l' e => by
  obtain ⟨u, e1, e⟩ := bs e
  obtain ⟨v, e2, e⟩ := bs e
  obtain ⟨ds, e3, e⟩ := bs e
  obtain ⟨l, e4, e⟩ := bs e
  cases e
  obtain ⟨rs, c1, c2⟩ := q l e4
  refine ⟨ds.map R.val ++ rs, ?_, shares_vals _ _ _ _ c2⟩
  show (oRgL (some f) g st).bind _ = _
  rw [rgL2_eq p p2 e1 e2 e3, Option.bind_some]
  show (a st).bind _ = _
  rw [c1]; rfl
theorem le1000 {n : Nat} (h : Nat.ble n 1000 = true) : n ≤ LIM := Nat.le_trans (Nat.le_of_ble_eq_true h) (by decide)
theorem xv_tupn {a : FA} {n : Nat} {l : Option (List PyData)} (p : XAn a st n l) (hn : Nat.ble n 1000 = true := by rfl) : XV (eTup a) st (l.bind fun l => some (.tuple l)) := fun d e => by
  obtain ⟨l, e1, e⟩ := bs e
  cases e
  obtain ⟨h, rs, a1, a2⟩ := p l e1
  rw [a_eTup, a1, Option.bind_some, a2, Option.bind_some]
  exact if_pos (by rw [h]; exact le1000 hn)
theorem xv_tup {a : FA} {l : Option (List PyData)} (p : XA a st l) : XV (eTup a) st (l.bind mkT) := fun d e => by
  obtain ⟨l, e1, e⟩ := bs e
  obtain ⟨rs, a1, a2⟩ := p l e1
  rw [a_eTup, a1, Option.bind_some, a2, Option.bind_some]
  unfold mkT at e
  split at e
  · rename_i c; cases e; exact if_pos c
  · cases e
theorem xo_lstn {a : FA} {n : Nat} {l : Option (List PyData)} (p : XAn a st n l) (hn : Nat.ble n 1000 = true := by rfl) : XO eL (oLst a) st l := fun l' e1 => by
  obtain ⟨h, rs, a1, a2⟩ := p l' e1
  rw [a_oLst, a1, Option.bind_some, a2, Option.bind_some]
  exact if_pos (by rw [h]; exact le1000 hn)
theorem xo_lst {a : FA} {l : Option (List PyData)} (p : XA a st l) : XO eL (oLst a) st (l.bind mkL) := fun d e => by
  obtain ⟨l, e1, e⟩ := bs e
  obtain ⟨rs, a1, a2⟩ := p l e1
  rw [a_oLst, a1, Option.bind_some, a2, Option.bind_some]
  unfold mkL at e
  split at e
  · rename_i c; cases e; exact if_pos c
  · cases e
theorem xv_totup {l : Option (List PyData)} (p : XO eL o st l) : XV (toTup o) st (l.bind fun l => some (.tuple l)) := fun d e => by
  obtain ⟨l, e1, e⟩ := bs e
  cases e
  rw [a_toTup, p l e1]; rfl
theorem xv_em {ty : Ty} {k : PyData → PyData → Option PyData} (p : XD f st x) (q : XD g st y) : XV (em1 ty k f g) st (x.bind fun u => cond (ty.has u) (y.bind fun v => k u v) none) := fun d e => by
  obtain ⟨u, e1, e⟩ := bs e
  obtain ⟨r, a, b⟩ := p u e1
  cases hc : ty.has u with
  | false => rw [hc] at e; cases e
  | true =>
    rw [hc] at e
    obtain ⟨v, e2, e⟩ := bs (show (y.bind fun v => k u v) = some d from e)
    obtain ⟨r2, a2, b2⟩ := q v e2
    rw [a_em1, a, Option.bind_some, b, Option.bind_some, if_pos hc, a2, Option.bind_some, b, Option.bind_some, b2, Option.bind_some, e]; rfl
theorem xv_src {k : SF} {s : Src} (h : st[j]? = some (some (.src s))) : XV (eSrc j k) st (some (.int (k.get s))) := fun d e => by
  cases e
  unfold eSrc
  rw [h]
theorem xv_srcLen {s : Src} (h : st[j]? = some (some (.src s))) : XV (eSrcLen j) st (some (.int s.cells.length)) := fun d e => by
  cases e
  unfold eSrcLen
  rw [h]
theorem xo_sh (p : XS f st x) : XO M.sh (oSh f) st x := fun d e => by
  obtain ⟨r, a, b, c⟩ := p d e
  rw [a_oSh, a, Option.bind_some, c]; rfl
theorem xo_1 {k : PyData → Option (List PyData)} (p : XD f st x) : XO eL (o1 k f) st (x.bind k) := fun d e => by
  obtain ⟨u, e1, e⟩ := bs e
  obtain ⟨r, a, b⟩ := p u e1
  rw [a_o1, a, Option.bind_some, b, Option.bind_some, e]; rfl
theorem xo_2 {k : PyData → PyData → Option (List PyData)} (p : XD f st x) (q : XD g st y) : XO eL (o2 k f g) st (x.bind fun u => y.bind fun v => k u v) := fun d e => by
  obtain ⟨u, e1, e⟩ := bs e
  obtain ⟨v, e2, e⟩ := bs e
  obtain ⟨r, a, b⟩ := p u e1
  obtain ⟨r2, a2, b2⟩ := q v e2
  rw [a_o2, a, Option.bind_some, a2, Option.bind_some, b, Option.bind_some, b2, Option.bind_some, e]; rfl
theorem xo_d0 : XO eD oD0 st (some []) := fun d e => by cases e; rfl
theorem xo_d1 {k : PyData → Option (List (PyData × PyData))} (p : XD f st x) : XO eD (oD1 k f) st (x.bind k) := fun d e => by
  obtain ⟨u, e1, e⟩ := bs e
  obtain ⟨r, a, b⟩ := p u e1
  show (f st).bind _ = _
  rw [a, Option.bind_some]
  show (dat st r).bind _ = _
  rw [b, Option.bind_some]
  show (k u).bind _ = _
  rw [e]; rfl
theorem xo_rg1 (p : XD f st x) : XO eL (oRgL none f) st (x.bind gRL1) := fun d e => by
  obtain ⟨u, e1, e2⟩ := bs e
  obtain ⟨r, b1, b2⟩ := p u e1
  rw [a_rgL, b1, Option.bind_some, b2, Option.bind_some]
  cases u <;> first | (cases e2; done) | skip
  unfold gRL1 at e2
  dsimp only at e2 ⊢
  split at e2
  · rename_i c; cases e2; rw [if_pos c]
  · cases e2
theorem xo_rg2 (p : XD f st x) (q : XD g st y) : XO eL (oRgL (some f) g) st (x.bind fun u => y.bind fun v => gRL2 u v) := fun d e => by
  obtain ⟨u, e1, e⟩ := bs e
  obtain ⟨v, e2, e⟩ := bs e
  exact rgL2_eq p q e1 e2 e
theorem xo_if {κ : Type} {emb : κ → M} {x y : Option κ} (p : XT t st b) (q : XO emb o st x) (q2 : XO emb o2' st y) : XO emb (oIf t o o2') st (b.bind fun c => cond c x y) := fun d e => by
  obtain ⟨c, e1, e⟩ := bs e
  rw [a_oIf, p c e1, Option.bind_some]
  cases c with
  | true => rw [if_pos rfl]; exact q d e
  | false => rw [if_neg Bool.false_ne_true]; exact q2 d e
theorem xt_bl (p : XD f st x) : XT (tBl f) st (x.bind asB) := fun d e => by
  obtain ⟨u, e1, e⟩ := bs e
  obtain ⟨r, a, b⟩ := p u e1
  cases u <;> first | (cases e; done) | skip
  cases e
  rw [a_tBl, a, Option.bind_some, b]; rfl
theorem xt_tr (p : XD f st x) : XT (tTr f) st (x.bind truD) := fun d e => by
  obtain ⟨u, e1, e⟩ := bs e
  obtain ⟨r, a, b⟩ := p u e1
  show (f st).bind _ = _
  rw [a, Option.bind_some]
  show (dat st r).bind _ = _
  rw [b, Option.bind_some, e]; rfl
theorem xt_an (p : XT t st b) (q : XT t2 st c) : XT (tAn t t2) st (b.bind fun b => cond b c (some false)) := fun d e => by
  obtain ⟨u, e1, e⟩ := bs e
  rw [a_tAn, p u e1, Option.bind_some]
  cases u with
  | true => rw [if_pos rfl]; exact q d e
  | false => cases e; exact if_neg Bool.false_ne_true
theorem xt_or (p : XT t st b) (q : XT t2 st c) : XT (tOr' t t2) st (b.bind fun b => cond b (some true) c) := fun d e => by
  obtain ⟨u, e1, e⟩ := bs e
  rw [a_tOr, p u e1, Option.bind_some]
  cases u with
  | false => rw [if_neg Bool.false_ne_true]; exact q d e
  | true => cases e; exact if_pos rfl
theorem xt_no (p : XT t st b) : XT (tNo t) st (b.bind fun b => some (!b)) := fun d e => by
  obtain ⟨u, e1, e⟩ := bs e
  cases e
  rw [a_tNo, p u e1]; rfl
theorem xi_seq (p : XS f st x) : XI (iSeq f) st (x.bind seqD) := fun d e => by
  obtain ⟨u, e1, e⟩ := bs e
  obtain ⟨r, a, b, c⟩ := p u e1
  rw [a_iSeq, a, Option.bind_some, c, Option.bind_some]
  cases u <;> first | (cases e; done) | skip
  all_goals (cases e; rfl)
theorem xi_rg1 (p : XD f st x) : XI (iRg1 f) st (x.bind gR1) := fun d e => by
  obtain ⟨u, e1, e2⟩ := bs e
  obtain ⟨r, b1, b2⟩ := p u e1
  rw [a_iRg1, b1, Option.bind_some, b2, Option.bind_some]
  cases u <;> first | (cases e2; done) | skip
  unfold gR1 at e2
  dsimp only at e2 ⊢
  split at e2
  · rename_i c; cases e2; rw [if_pos c]
  · cases e2
theorem xi_rg2 (p : XD f st x) (q : XD g st y) : XI (iRg2 f g) st (x.bind fun u => y.bind fun v => gR2 u v) := fun d e => by
  obtain ⟨u, e1, e⟩ := bs e
  obtain ⟨v, e2, e3⟩ := bs e
  obtain ⟨r, b1, b2⟩ := p u e1
  obtain ⟨r', b3, b4⟩ := q v e2
  show (f st).bind _ = _
  rw [b1, Option.bind_some]
  show (g st).bind _ = _
  rw [b3, Option.bind_some]
  show (dat st r).bind _ = _
  rw [b2, Option.bind_some]
  show (dat st r').bind _ = _
  rw [b4, Option.bind_some]
  cases u <;> first | (cases e3; done) | skip
  cases v <;> first | (cases e3; done) | skip
  unfold gR2 at e3
  dsimp only at e3 ⊢
  split at e3
  · rename_i c; cases e3; rw [if_pos c]
  · cases e3
theorem xi_en {l : Option (List PyData)} (p : XI (iSeq f) st l) : XI (iEn f) st (l.bind fun l => some (enD l)) := fun d e => by
  obtain ⟨u, e1, e⟩ := bs e
  cases e
  show (iSeq f st).bind _ = _
  rw [p u e1]; rfl
theorem xi_zp (p : XS f st x) (q : XS g st y) : XI (iZp f g) st (x.bind fun u => y.bind fun v => zpX u v) := fun d e => by
  obtain ⟨u, e1, e⟩ := bs e
  obtain ⟨v, e2, e⟩ := bs e
  obtain ⟨r, a, b, c⟩ := p u e1
  obtain ⟨r2, a2, b2, c2⟩ := q v e2
  show (f st).bind _ = _
  rw [a, Option.bind_some]
  show (share st r).bind _ = _
  rw [c, Option.bind_some]
  show (g st).bind _ = _
  rw [a2, Option.bind_some]
  show (share st r2).bind _ = _
  rw [c2, Option.bind_some]
  cases u <;> first | (cases e; done) | skip
  all_goals (cases v <;> first | (cases e; done) | skip)
  all_goals (cases e; rfl)
theorem xi_dk {l : Option (List (PyData × PyData))} (p : XO eD o st l) : XI (iDk o) st (l.bind fun l => some (dKeys l)) := fun d e => by
  obtain ⟨u, e1, e⟩ := bs e
  cases e
  show (o st).bind _ = _
  rw [p u e1]; rfl
/-! calls -/
theorem xo_call1 {sem : Sem'} {X : PyData → Option κ} (T : ∀ a r, X a = some r → sem [.sh a] = some (emb r, [.sh a])) (p : XS f st x) : XO emb (oCall sem (aCons f aNil)) st (x.bind fun a => X a) := fun d e => by
  obtain ⟨u, e1, e⟩ := bs e
  obtain ⟨r, a, b, c⟩ := p u e1
  rw [a_oCall, a_aCons, a, Option.bind_some]
  show ((shares st [r]).bind _) = _
  rw [a_shs, c, Option.bind_some]
  show ((sem [.sh u]).bind _) = _
  rw [T u d e]; rfl
theorem xo_call2 {sem : Sem'} {X : PyData → PyData → Option κ} (T : ∀ a b r, X a b = some r → sem [.sh a, .sh b] = some (emb r, [.sh a, .sh b])) (p : XS f st x) (q : XS g st y) : XO emb (oCall sem (aCons f (aCons g aNil))) st (x.bind fun a => y.bind fun b => X a b) := fun d e => by
  obtain ⟨u, e1, e⟩ := bs e
  obtain ⟨v, e2, e⟩ := bs e
  obtain ⟨r, a, b, c⟩ := p u e1
  obtain ⟨r2, a2, b2, c2⟩ := q v e2
  rw [a_oCall, a_aCons, a, Option.bind_some, a_aCons, a2]
  show ((shares st [r, r2]).bind _) = _
  rw [a_shs, c, Option.bind_some, a_shs, c2, Option.bind_some]
  show ((sem [.sh u, .sh v]).bind _) = _
  rw [T u v d e]; rfl
theorem xo_call3 {sem : Sem'} {X : PyData → PyData → PyData → Option κ} (T : ∀ a b c r, X a b c = some r → sem [.sh a, .sh b, .sh c] = some (emb r, [.sh a, .sh b, .sh c])) (p : XS f st x) (q : XS g st y) (q2 : XS h st z) : XO emb (oCall sem (aCons f (aCons g (aCons h aNil)))) st (x.bind fun a => y.bind fun b => z.bind fun c => X a b c) := fun d e => by
  obtain ⟨u, e1, e⟩ := bs e
  obtain ⟨v, e2, e⟩ := bs e
  obtain ⟨w, e3, e⟩ := bs e
  obtain ⟨r, a, b, c⟩ := p u e1
  obtain ⟨r2, a2, b2, c2⟩ := q v e2
  obtain ⟨r3, a3, b3, c3⟩ := q2 w e3
  rw [a_oCall, a_aCons, a, Option.bind_some, a_aCons, a2, Option.bind_some, a_aCons, a3]
  show ((shares st [r, r2, r3]).bind _) = _
  rw [a_shs, c, Option.bind_some, a_shs, c2, Option.bind_some, a_shs, c3, Option.bind_some]
  show ((sem [.sh u, .sh v, .sh w]).bind _) = _
  rw [T u v w d e]; rfl
theorem xo_call4 {sem : Sem'} {h2 : FE} {z2 : Option PyData} {X : PyData → PyData → PyData → PyData → Option κ} (T : ∀ a b c e r, X a b c e = some r → sem [.sh a, .sh b, .sh c, .sh e] = some (emb r, [.sh a, .sh b, .sh c, .sh e])) (p : XS f st x) (q : XS g st y) (q2 : XS h st z) (q3 : XS h2 st z2) : XO emb (oCall sem (aCons f (aCons g (aCons h (aCons h2 aNil))))) st (x.bind fun a => y.bind fun b => z.bind fun c => z2.bind fun e => X a b c e) := fun d e => by
  obtain ⟨u, e1, e⟩ := bs e
  obtain ⟨v, e2, e⟩ := bs e
  obtain ⟨w, e3, e⟩ := bs e
  obtain ⟨w2, e4, e⟩ := bs e
  obtain ⟨r, a, b, c⟩ := p u e1
  obtain ⟨r2, a2, b2, c2⟩ := q v e2
  obtain ⟨r3, a3, b3, c3⟩ := q2 w e3
  obtain ⟨r4, a4, b4, c4⟩ := q3 w2 e4
  rw [a_oCall, a_aCons, a, Option.bind_some, a_aCons, a2, Option.bind_some, a_aCons, a3, Option.bind_some, a_aCons, a4]
  show ((shares st [r, r2, r3, r4]).bind _) = _
  rw [a_shs, c, Option.bind_some, a_shs, c2, Option.bind_some, a_shs, c3, Option.bind_some, a_shs, c4, Option.bind_some]
  show ((sem [.sh u, .sh v, .sh w, .sh w2]).bind _) = _
  rw [T u v w w2 d e]; rfl
/-! comprehensions -/
theorem xf_all (p : XS f st x) : XF tYe f st (x.bind fun y => some (some y)) := fun o e => by
  obtain ⟨u, e1, e⟩ := bs e
  cases e
  obtain ⟨r, a, b, c⟩ := p u e1
  exact .inr ⟨u, r, rfl, rfl, a, c⟩
theorem xf_if (p : XT t st b) (q : XS f st x) : XF t f st (b.bind fun b => cond b (x.bind fun y => some (some y)) (some none)) := fun o e => by
  obtain ⟨b', e1, e⟩ := bs e
  cases b' with
  | false => cases e; exact .inl ⟨rfl, p _ e1⟩
  | true =>
    obtain ⟨u, e2, e⟩ := bs (show (x.bind fun y => some (some y)) = some o from e)
    cases e
    obtain ⟨r, a, b, c⟩ := q u e2
    exact .inr ⟨u, r, rfl, p _ e1, a, c⟩
theorem xfd_all (p : XS f st x) (q : XS g st y) : XFd tYe f g st (x.bind fun u => y.bind fun v => some (some (u, v))) := fun o e => by
  obtain ⟨u, e1, e⟩ := bs e
  obtain ⟨v, e2, e⟩ := bs e
  cases e
  obtain ⟨r, a, b, c⟩ := p u e1
  obtain ⟨r2, a2, b2, c2⟩ := q v e2
  exact .inr ⟨(u, v), r, r2, rfl, rfl, a, c, a2, c2⟩
theorem xfd_if (p : XT t st b) (q : XS f st x) (q2 : XS g st y) : XFd t f g st (b.bind fun b => cond b (x.bind fun u => y.bind fun v => some (some (u, v))) (some none)) := fun o e => by
  obtain ⟨b', e1, e⟩ := bs e
  cases b' with
  | false => cases e; exact .inl ⟨rfl, p _ e1⟩
  | true =>
    obtain ⟨u, e2, e⟩ := bs (show (x.bind fun u => y.bind fun v => some (some (u, v))) = some o from e)
    obtain ⟨v, e3, e⟩ := bs e
    cases e
    obtain ⟨r, a, b, c⟩ := q u e2
    obtain ⟨r2, a2, b2, c2⟩ := q2 v e3
    exact .inr ⟨(u, v), r, r2, rfl, p _ e1, a, c, a2, c2⟩
theorem wipe_set {st : Sx} {v : Nat} {a : Option M} : ∀ {vs : List Nat}, v ∉ vs → wipeS (st.set v a) vs = (wipeS st vs).set v a
  | [], _ => rfl
  | w :: vs, h => by
    have ne : v ≠ w := fun e => h (by simp [e])
    show (wipeS (st.set v a) vs).set w none = ((wipeS st vs).set w none).set v a
    rw [wipe_set fun z => h (List.mem_cons_of_mem _ z), List.set_comm _ _ ne]
theorem noOwn_lt {st : Sx} {v : Nat} (h : noOwn st v = true) : v < st.length := by
  by_cases c : v < st.length
  · exact c
  · unfold noOwn at h; rw [List.getElem?_eq_none (by omega)] at h; cases h
theorem back_wipe : ∀ {vs : List Nat} (st : Sx), (∀ v ∈ vs, v < st.length) → back st (wipeS st vs) vs = st := fun {vs} st h => by
  refine List.ext_getElem? fun i => ?_
  by_cases hi : i ∈ vs
  · have hl := h i hi
    rw [back_in st _ hi hl (by rw [wipeS_len])]
  · rw [back_out st _ hi, wipeS_out st hi]
def XH (hd : FG) (vs : List Nat) (t : FT) (el : FE) (st : Sx) (d : PyData) (x : Option (Option PyData)) : Prop := ∀ o, x = some o → ∃ s1, hd d (wipeS st vs) = some s1 ∧ vs.all (noOwn s1) = true ∧ wipeS s1 vs = wipeS st vs ∧ ∃ x', XF t el s1 x' ∧ x' = some o
theorem xh_1 {hd : FG} {vs : List Nat} {F : Option (Option PyData)} {s1 : Sx} {d : PyData} (e : hd d (wipeS st vs) = some s1) (n : vs.all (noOwn s1) = true) (w : wipeS s1 vs = wipeS st vs) (p : XF t f s1 F) : XH hd vs t f st d F := fun o q => ⟨s1, e, n, w, _, p, q⟩
theorem xl_comp {fi : FI} {hd : FG} {vs : List Nat} {xi : Option (List PyData)} {F : PyData → Option (Option PyData)} (pi : XI fi st xi) (hn : vs.all (noOwn st) = true) (step : ∀ d, XH hd vs t f st d (F d)) : XO eL (oComp vs fi hd t f) st (xi.bind fun ds => compX F ds) := fun out e => by
  obtain ⟨ds, e1, e⟩ := bs e
  unfold compX at e
  split at e
  · rename_i hl
    have key : ∀ (ds : List PyData) (out : List PyData), compR F ds = some out → runComp vs hd t f ds (wipeS st vs) = some (out, wipeS st vs) := fun ds => by
      induction ds with
      | nil => intro out e; cases e; rfl
      | cons d ds ih =>
        intro out e
        obtain ⟨o, e2, e⟩ := bs e
        obtain ⟨r, e3, e⟩ := bs e
        obtain ⟨s1, h1, h2, h3, x', xf, ex⟩ := step d o e2
        have ih' := ih r e3
        rw [a_runComp, h1, Option.bind_some]
        rcases xf o ex with ⟨rfl, t0⟩ | ⟨y, q, rfl, t0, l0, s0⟩
        · cases e
          rw [t0, Option.bind_some, if_neg Bool.false_ne_true, if_pos h2, h3, ih']
        · cases e
          rw [t0, Option.bind_some, if_pos rfl, l0, Option.bind_some, s0, Option.bind_some, if_pos h2, h3, ih', Option.bind_some]
    rw [a_oComp, pi ds e1, Option.bind_some, if_pos ⟨hl, hn⟩]
    show (runComp vs hd t f ds (wipeS st vs)).bind _ = _
    rw [key ds out e, Option.bind_some, back_wipe]
    intro v hv
    exact noOwn_lt (List.all_eq_true.mp hn v hv)
  · cases e
def XHd (hd : FG) (vs : List Nat) (t : FT) (ek ev : FE) (st : Sx) (d : PyData) (x : Option (Option (PyData × PyData))) : Prop := ∀ o, x = some o → ∃ s1, hd d (wipeS st vs) = some s1 ∧ vs.all (noOwn s1) = true ∧ wipeS s1 vs = wipeS st vs ∧ ∃ x', XFd t ek ev s1 x' ∧ x' = some o
theorem xhd_1 {hd : FG} {vs : List Nat} {F : Option (Option (PyData × PyData))} {s1 : Sx} {d : PyData} (e : hd d (wipeS st vs) = some s1) (n : vs.all (noOwn s1) = true) (w : wipeS s1 vs = wipeS st vs) (p : XFd t f g s1 F) : XHd hd vs t f g st d F := fun o q => ⟨s1, e, n, w, _, p, q⟩
theorem xl_dc {fi : FI} {hd : FG} {vs : List Nat} {xi : Option (List PyData)} {F : PyData → Option (Option (PyData × PyData))} (pi : XI fi st xi) (hn : vs.all (noOwn st) = true) (step : ∀ d, XHd hd vs t f g st d (F d)) : XO eD (oDC vs fi hd t f g) st (xi.bind fun ds => dcX F ds) := fun out e => by
  obtain ⟨ds, e1, e⟩ := bs e
  unfold dcX at e
  split at e
  · rename_i hl
    have key : ∀ (ds : List PyData) (kvs out : List (PyData × PyData)), dcR F ds kvs = some out → runDC vs hd t f g ds kvs (wipeS st vs) = some (out, wipeS st vs) := fun ds => by
      induction ds with
      | nil => intro kvs out e; cases e; rfl
      | cons d ds ih =>
        intro kvs out e
        obtain ⟨o, e2, e⟩ := bs e
        obtain ⟨s1, h1, h2, h3, x', xf, ex⟩ := step d o e2
        show (hd d (wipeS st vs)).bind _ = _
        rw [h1, Option.bind_some]
        show (t s1).bind _ = _
        rcases xf o ex with ⟨rfl, t0⟩ | ⟨y, q, q2, rfl, t0, l0, s0, l1, s2⟩
        · rw [t0, Option.bind_some, if_neg Bool.false_ne_true, if_pos h2, h3]
          exact ih _ _ e
        · obtain ⟨kv2, e4, e⟩ := bs e
          unfold dpX at e4
          split at e4
          · rename_i c
            cases e4
            rw [t0, Option.bind_some, if_pos rfl]
            show (f s1).bind _ = _
            rw [l0, Option.bind_some]
            show (share s1 q).bind _ = _
            rw [s0, Option.bind_some]
            show (g s1).bind _ = _
            rw [l1, Option.bind_some]
            show (share s1 q2).bind _ = _
            rw [s2, Option.bind_some, if_pos ⟨h2, c.1, c.2⟩, h3]
            exact ih _ _ e
          · cases e4
    show (fi st).bind _ = _
    rw [pi ds e1, Option.bind_some, if_pos ⟨hl, hn⟩]
    show (runDC vs hd t f g ds [] (wipeS st vs)).bind _ = _
    rw [key ds [] out e, Option.bind_some, back_wipe]
    intro v hv
    exact noOwn_lt (List.all_eq_true.mp hn v hv)
  · cases e
theorem xh_u2 {hd : FG} {vs : List Nat} {F : PyData → PyData → Option (Option PyData)} (p : ∀ a b, XH hd vs t f st (.tuple [a, b]) (F a b)) : ∀ d, XH hd vs t f st d (unT2 d F) := fun d o q => by
  unfold unT2 at q
  split at q
  · exact p _ _ o q
  · cases q
theorem xh_u3 {hd : FG} {vs : List Nat} {F : PyData → PyData → PyData → Option (Option PyData)} (p : ∀ a b c, XH hd vs t f st (.tuple [a, b, c]) (F a b c)) : ∀ d, XH hd vs t f st d (unT3 d F) := fun d o q => by
  unfold unT3 at q
  split at q
  · exact p _ _ _ o q
  · cases q
theorem xh_u4 {hd : FG} {vs : List Nat} {F : PyData → PyData → PyData → PyData → Option (Option PyData)} (p : ∀ a b c e, XH hd vs t f st (.tuple [a, b, c, e]) (F a b c e)) : ∀ d, XH hd vs t f st d (unT4 d F) := fun d o q => by
  unfold unT4 at q
  split at q
  · exact p _ _ _ _ o q
  · cases q
theorem xhd_u2 {hd : FG} {vs : List Nat} {F : PyData → PyData → Option (Option (PyData × PyData))} (p : ∀ a b, XHd hd vs t f g st (.tuple [a, b]) (F a b)) : ∀ d, XHd hd vs t f g st d (unT2 d F) := fun d o q => by
  unfold unT2 at q
  split at q
  · exact p _ _ o q
  · cases q
theorem xhd_u3 {hd : FG} {vs : List Nat} {F : PyData → PyData → PyData → Option (Option (PyData × PyData))} (p : ∀ a b c, XHd hd vs t f g st (.tuple [a, b, c]) (F a b c)) : ∀ d, XHd hd vs t f g st d (unT3 d F) := fun d o q => by
  unfold unT3 at q
  split at q
  · exact p _ _ _ o q
  · cases q
end
end Pv
namespace Pv
open PySem PySem.Spec PyProof.Rows L2
theorem xo_shfS {o : FO} {st : Sx} {x : Option PyData} (p : XO M.sh o st x) : XO M.sh (oShF o) st x := fun d e => by
  show (o st).bind _ = _
  rw [p d e]; rfl
theorem xo_shfL {o : FO} {st : Sx} {l : Option (List PyData)} (p : XO eL o st l) : XO M.sh (oShF o) st (l.bind fun l => some (.list l)) := fun d e => by
  obtain ⟨l, e1, e⟩ := bs e
  cases e
  show (o st).bind _ = _
  rw [p l e1]; rfl
theorem xo_shfD {o : FO} {st : Sx} {l : Option (List (PyData × PyData))} (p : XO eD o st l) : XO M.sh (oShF o) st (l.bind fun l => some (.dict l)) := fun d e => by
  obtain ⟨l, e1, e⟩ := bs e
  cases e
  show (o st).bind _ = _
  rw [p l e1]; rfl
end Pv

namespace Pv
open PySem PySem.Spec PyProof.Rows L2
/-! ### what changes the state: one step after the other -/
def WS (b : FS) (st : Sx) (G : Out → Sx → Prop) : Prop := ∃ o st', b st = some (o, st') ∧ G o st'
def CE (f : FE) (st : Sx) (Q : R → Sx → Prop) : Prop := ∃ r st1, f st = some (r, st1) ∧ Q r st1
def CO (o : FO) (st : Sx) (Q : M → Sx → Prop) : Prop := ∃ m st1, o st = some (m, st1) ∧ Q m st1
def CT (t : FT) (st : Sx) (Q : Bool → Sx → Prop) : Prop := ∃ b st1, t st = some (b, st1) ∧ Q b st1
def CI (i : FI) (st : Sx) (Q : List PyData → Sx → Prop) : Prop := ∃ l st1, i st = some (l, st1) ∧ Q l st1
def CA (a : FA) (st : Sx) (Q : List PyData → Sx → Prop) : Prop := ∃ rs st1, a st = some (rs, st1) ∧ ∃ l st2, shares st1 rs = some (l, st2) ∧ Q l st2
def Tn (rest : FS) (G : Out → Sx → Prop) (o : Out) (st1 : Sx) : Prop := match o with
  | .next => WS rest st1 G
  | .brk => G .brk st1
  | .cont => G .cont st1
  | .ret m => G (.ret m) st1
def ifW (b : Bool) (P Q : Prop) : Prop := match b with
  | true => P
  | false => Q
theorem br2 {β : Type} {b : Bool} {x y : Option β} {a : β} {P Q : Prop} (h : cond b x y = some a) (c1 : x = some a → P) (c2 : y = some a → Q) : ifW b P Q := by
  cases b
  · exact c2 h
  · exact c1 h
theorem lf {α β : Type} {x : Option α} {k : α → Option β} {a : β} {P : α → Prop} (h : x.bind k = some a) (c : ∀ d, k d = some a → P d) : ∃ d, x = some d ∧ P d := by
  obtain ⟨d, e1, e2⟩ := bs h
  exact ⟨d, e1, c d e2⟩
theorem unT2_l {β : Type} {d : PyData} {K : PyData → PyData → Option β} {a : β} {P : PyData → Prop} (h : unT2 d K = some a) (c : ∀ u v, K u v = some a → P (.tuple [u, v])) : P d := by
  unfold unT2 at h
  split at h
  · exact c _ _ h
  · cases h
theorem unT3_l {β : Type} {d : PyData} {K : PyData → PyData → PyData → Option β} {a : β} {P : PyData → Prop} (h : unT3 d K = some a) (c : ∀ u v w, K u v w = some a → P (.tuple [u, v, w])) : P d := by
  unfold unT3 at h
  split at h
  · exact c _ _ _ h
  · cases h
theorem unT4_l {β : Type} {d : PyData} {K : PyData → PyData → PyData → PyData → Option β} {a : β} {P : PyData → Prop} (h : unT4 d K = some a) (c : ∀ u v w z, K u v w z = some a → P (.tuple [u, v, w, z])) : P d := by
  unfold unT4 at h
  split at h
  · exact c _ _ _ _ h
  · cases h
theorem unL2_l {β : Type} {d : PyData} {K : PyData → PyData → Option β} {a : β} {P : PyData → Prop} (h : unL2 d K = some a) (c : ∀ u v, K u v = some a → P (.list [u, v])) : P d := by
  unfold unL2 at h
  split at h
  · exact c _ _ h
  · cases h
theorem unInr_l {ρ α β : Type} {x : ρ ⊕ α} {kl : ρ → Option β} {kr : α → Option β} {a : β} {P : ρ ⊕ α → Prop} (h : unInr x kl kr = some a) (c1 : ∀ u, kl u = some a → P (.inl u)) (c2 : ∀ v, kr v = some a → P (.inr v)) : P x := by
  cases x with
  | inl u => exact c1 u h
  | inr v => exact c2 v h
theorem tg_u2 {β : Type} {tgt : FG} {st : Sx} {Q : Sx → Prop} {d : PyData} {K : PyData → PyData → Option β} {a : β} (h : unT2 d K = some a) (c : ∀ u v, K u v = some a → ∃ st2, tgt (.tuple [u, v]) st = some st2 ∧ Q st2) : ∃ st2, tgt d st = some st2 ∧ Q st2 := unT2_l (P := fun d => ∃ st2, tgt d st = some st2 ∧ Q st2) h c
theorem tg_u3 {β : Type} {tgt : FG} {st : Sx} {Q : Sx → Prop} {d : PyData} {K : PyData → PyData → PyData → Option β} {a : β} (h : unT3 d K = some a) (c : ∀ u v w, K u v w = some a → ∃ st2, tgt (.tuple [u, v, w]) st = some st2 ∧ Q st2) : ∃ st2, tgt d st = some st2 ∧ Q st2 := unT3_l (P := fun d => ∃ st2, tgt d st = some st2 ∧ Q st2) h c
theorem tg_u4 {β : Type} {tgt : FG} {st : Sx} {Q : Sx → Prop} {d : PyData} {K : PyData → PyData → PyData → PyData → Option β} {a : β} (h : unT4 d K = some a) (c : ∀ u v w z, K u v w z = some a → ∃ st2, tgt (.tuple [u, v, w, z]) st = some st2 ∧ Q st2) : ∃ st2, tgt d st = some st2 ∧ Q st2 := unT4_l (P := fun d => ∃ st2, tgt d st = some st2 ∧ Q st2) h c
theorem tg_l2 {β : Type} {tgt : FG} {st : Sx} {Q : Sx → Prop} {d : PyData} {K : PyData → PyData → Option β} {a : β} (h : unL2 d K = some a) (c : ∀ u v, K u v = some a → ∃ st2, tgt (.list [u, v]) st = some st2 ∧ Q st2) : ∃ st2, tgt d st = some st2 ∧ Q st2 := unL2_l (P := fun d => ∃ st2, tgt d st = some st2 ∧ Q st2) h c
section
variable {f g h : FE} {st : Sx} {t t2 : FT} {i j l : Nat} {d : PyData} {m : M} {κ β : Type} {emb : κ → M} {o o2' o3' : FO} {a : FA} {G : Out → Sx → Prop} {ans : β}
variable {Q : R → Sx → Prop} {QO : M → Sx → Prop} {QT : Bool → Sx → Prop} {QA QI : List PyData → Sx → Prop}
/-! one value -/
theorem ce_v {x : Option PyData} {k : PyData → Option β} (p : XV f st x) (hh : x.bind k = some ans) (c : ∀ d, k d = some ans → Q (.val d) st) : CE f st Q := by
  obtain ⟨d, e1, e2⟩ := bs hh
  exact ⟨_, _, p d e1, c d e2⟩
theorem ce_v0 (p : XV f st (some d)) (c : Q (.val d) st) : CE f st Q := ⟨_, _, p d rfl, c⟩
theorem ce_var (hi : st[i]? = some (some m)) (c : Q (.var i) st) : CE (eVar i) st Q := ⟨_, _, a_eVar _ _ hi, c⟩
theorem ce_1 {k : PyData → Option PyData} (c : CE f st fun r st1 => ∃ u, dat st1 r = some u ∧ ∃ d, k u = some d ∧ Q (.val d) st1) : CE (e1 k f) st Q := by
  obtain ⟨r, st1, e1, u, e2, d, e3, q⟩ := c
  exact ⟨_, _, by rw [a_e1, e1, Option.bind_some, e2, Option.bind_some, e3]; rfl, q⟩
theorem ce_2 {k : PyData → PyData → Option PyData} (c : CE f st fun r st1 => CE g st1 fun r2 st2 => ∃ u, dat st2 r = some u ∧ ∃ v, dat st2 r2 = some v ∧ ∃ d, k u v = some d ∧ Q (.val d) st2) : CE (e2 k f g) st Q := by
  obtain ⟨r, st1, e1, r2, st2, e2, u, e3, v, e4, d, e5, q⟩ := c
  exact ⟨_, _, by rw [a_e2, e1, Option.bind_some, e2, Option.bind_some, e3, Option.bind_some, e4, Option.bind_some, e5]; rfl, q⟩
theorem ce_fr (c : CO o st fun m st1 => ∃ d, m.dat = some d ∧ Q (.val d) st1) : CE (eFr o) st Q := by
  obtain ⟨m, st1, e1, d, e2, q⟩ := c
  exact ⟨_, _, by rw [a_eFr, e1, Option.bind_some, e2]; rfl, q⟩
theorem ce_tup (c : CA a st fun l st1 => l.length ≤ LIM ∧ Q (.val (.tuple l)) st1) : CE (eTup a) st Q := by
  obtain ⟨rs, st1, e1, l, st2, e2, hl, q⟩ := c
  exact ⟨_, _, by rw [a_eTup, e1, Option.bind_some, e2, Option.bind_some]; exact if_pos hl, q⟩
theorem ce_totup (c : CO o st fun m st1 => ∃ ds, m = .ol false ds ∧ Q (.val (.tuple ds)) st1) : CE (toTup o) st Q := by
  obtain ⟨m, st1, e1, ds, rfl, q⟩ := c
  exact ⟨_, _, by rw [a_toTup, e1]; rfl, q⟩
theorem ce_if (c : CT t st fun b st1 => ifW b (CE f st1 Q) (CE g st1 Q)) : CE (eIf t f g) st Q := by
  obtain ⟨b, st1, e1, q⟩ := c
  cases b with
  | true => obtain ⟨r, st2, e2, q⟩ := q; exact ⟨r, st2, by rw [a_eIf, e1, Option.bind_some, if_pos rfl, e2], q⟩
  | false => obtain ⟨r, st2, e2, q⟩ := q; exact ⟨r, st2, by rw [a_eIf, e1, Option.bind_some, if_neg Bool.false_ne_true, e2], q⟩
theorem ce_3 {k : PyData → Option Int → Option Int → Option PyData} {fl fh : FP} (c : CE f st fun r st1 => ∃ l st2, fl st1 = some (l, st2) ∧ ∃ h st3, fh st2 = some (h, st3) ∧ ∃ u, dat st3 r = some u ∧ ∃ d, k u l h = some d ∧ Q (.val d) st3) : CE (e3 k f fl fh) st Q := by
  obtain ⟨r, st1, e1, l, st2, e2, h, st3, e3, u, e4, d, e5, q⟩ := c
  exact ⟨_, _, by rw [a_e3, e1, Option.bind_some, e2, Option.bind_some, e3, Option.bind_some, e4, Option.bind_some, e5]; rfl, q⟩
theorem cp_some {QP : Option Int → Sx → Prop} (c : CE f st fun r st1 => ∃ i, dat st1 r = some (.int i) ∧ QP (some i) st1) : ∃ l st2, fpSome f st = some (l, st2) ∧ QP l st2 := by
  obtain ⟨r, st1, e1, i, e2, q⟩ := c
  exact ⟨_, _, by rw [a_fpSome, e1, Option.bind_some, e2]; rfl, q⟩
theorem cp_none {QP : Option Int → Sx → Prop} (c : QP none st) : ∃ l st2, fpNone st = some (l, st2) ∧ QP l st2 := ⟨_, _, rfl, c⟩
theorem lfI {k : Int → Option β} {P : Int → Prop} {st2 : Sx} (hh : (asI d).bind k = some ans) (c : ∀ i, k i = some ans → P i) : ∃ i, dat st2 (.val d) = some (.int i) ∧ P i := by
  obtain ⟨i, e1, e2⟩ := bs hh
  cases d <;> first | (cases e1; done) | skip
  cases e1
  exact ⟨_, rfl, c _ e2⟩
theorem ce_pop {b : Bool} {ds : List PyData} {k : PyData × List PyData → Option β} (hj : st[j]? = some (some (.ol b ds))) {op : List PyData → Option (PyData × List PyData)} (hh : (op ds).bind k = some ans) (c : ∀ r, k r = some ans → Q (.val r.1) (st.set j (some (.ol b r.2)))) : CE (eLm0 j op) st Q := by
  obtain ⟨r, e1, e2⟩ := bs hh
  refine ⟨_, _, ?_, c r e2⟩
  unfold eLm0
  rw [hj]
  show (op ds).bind _ = _
  rw [e1]; rfl
/-- a list changed by its method, what is handed over read only -/
theorem ce_lm {b : Bool} {ds : List PyData} {x : Option PyData} {op : List PyData → PyData → Option (PyData × List PyData)} {k : PyData × List PyData → Option β} (hj : st[j]? = some (some (.ol b ds))) (p : XS f st x) (hh : (x.bind fun u => op ds u).bind k = some ans) (c : ∀ r, k r = some ans → Q (.val r.1) (st.set j (some (.ol b r.2)))) : CE (eLm1 j op f) st Q := by
  obtain ⟨r, e1, e2⟩ := bs hh
  obtain ⟨u, e3, e4⟩ := bs e1
  obtain ⟨q, a1, a2, a3⟩ := p u e3
  refine ⟨_, _, ?_, c r e2⟩
  unfold eLm1
  rw [hj]
  show (f st).bind _ = _
  rw [a1, Option.bind_some]
  show (share st q).bind _ = _
  rw [a3, Option.bind_some]
  show (match st[j]? with
    | some (some (.ol b ds)) => (op ds u).bind fun r => some (R.val r.1, st.set j (some (.ol b r.2)))
    | _ => none) = _
  rw [hj]
  show (op ds u).bind _ = _
  rw [e4]; rfl
/-- .. what is handed over changes the state -/
theorem ce_lmC {b : Bool} {ds0 : List PyData} {op : List PyData → PyData → Option (PyData × List PyData)} (hj : st[j]? = some (some (.ol b ds0))) (c : CA (aCons f aNil) st fun l st2 => match l with
  | [u] => ∃ b2 ds, st2[j]? = some (some (.ol b2 ds)) ∧ ∃ r, op ds u = some r ∧ Q (.val r.1) (st2.set j (some (.ol b2 r.2)))
  | _ => False) : CE (eLm1 j op f) st Q := by
  obtain ⟨rs, st1, e1, l, st2, e2, q⟩ := c
  obtain ⟨⟨r1, s1⟩, e3, e1⟩ := bs (show ((f st).bind fun p => (aNil p.2).bind fun q => some (p.1 :: q.1, q.2)) = some (rs, st1) from e1)
  cases e1
  obtain ⟨⟨u, s2⟩, e4, e2⟩ := bs (show ((share s1 r1).bind fun p => (shares p.2 []).bind fun q => some (p.1 :: q.1, q.2)) = some (l, st2) from e2)
  cases e2
  obtain ⟨b2, ds, e5, r, e6, q⟩ := q
  refine ⟨_, _, ?_, q⟩
  unfold eLm1
  rw [hj]
  show (f st).bind _ = _
  rw [e3, Option.bind_some]
  show (share s1 r1).bind _ = _
  rw [e4, Option.bind_some]
  show (match s2[j]? with
    | some (some (.ol b ds)) => (op ds u).bind fun r => some (R.val r.1, s2.set j (some (.ol b r.2)))
    | _ => none) = _
  rw [e5]
  show (op ds u).bind _ = _
  rw [e6]; rfl
theorem ce_dm {b : Bool} {ds : List (PyData × PyData)} {x : Option PyData} {op : List (PyData × PyData) → PyData → Option (PyData × List (PyData × PyData))} {k : PyData × List (PyData × PyData) → Option β} (hj : st[j]? = some (some (.od b ds))) (p : XS f st x) (hh : (x.bind fun u => op ds u).bind k = some ans) (c : ∀ r, k r = some ans → Q (.val r.1) (st.set j (some (.od b r.2)))) : CE (eDm1 j op f) st Q := by
  obtain ⟨r, e1, e2⟩ := bs hh
  obtain ⟨u, e3, e4⟩ := bs e1
  obtain ⟨q, a1, a2, a3⟩ := p u e3
  refine ⟨_, _, ?_, c r e2⟩
  unfold eDm1
  rw [hj]
  show (f st).bind _ = _
  rw [a1, Option.bind_some]
  show (share st q).bind _ = _
  rw [a3, Option.bind_some]
  show (match st[j]? with
    | some (some (.od b kvs)) => (op kvs u).bind fun r => some (R.val r.1, st.set j (some (.od b r.2)))
    | _ => none) = _
  rw [hj]
  show (op ds u).bind _ = _
  rw [e4]; rfl
theorem ce_srcPop {s : Src} {k : Int → Option β} (hj : st[j]? = some (some (.src s))) (hh : (s.cells[s.cells.length - 1]?).bind k = some ans) (c : ∀ i, k i = some ans → Q (.val (.int i)) (st.set j (some (.src { s with cells := s.cells.dropLast })))) : CE (eSrcPop j) st Q := by
  obtain ⟨i, e1, e2⟩ := bs hh
  refine ⟨_, _, ?_, c i e2⟩
  unfold eSrcPop
  rw [hj]
  show (s.cells[s.cells.length - 1]?).bind _ = _
  rw [e1]; rfl
/-! arguments -/
theorem ca_p {n : Nat} {x : Option (List PyData)} {k : List PyData → Option β} (p : XAn a st n x) (hh : x.bind k = some ans) (c : ∀ l, k l = some ans → QA l st) : CA a st QA := by
  obtain ⟨l, e1, e2⟩ := bs hh
  obtain ⟨_, rs, a1, a2⟩ := p l e1
  exact ⟨rs, _, a1, l, _, a2, c l e2⟩
theorem ca_raw (c : ∃ rs st1, a st = some (rs, st1) ∧ ∃ l st2, shares st1 rs = some (l, st2) ∧ QA l st2) : CA a st QA := c
theorem cr_nil {QR : List R → Sx → Prop} (c : QR [] st) : ∃ rs st1, aNil st = some (rs, st1) ∧ QR rs st1 := ⟨_, _, rfl, c⟩
theorem cr_cons {QR : List R → Sx → Prop} (c : CE f st fun r st1 => ∃ rs st2, a st1 = some (rs, st2) ∧ QR (r :: rs) st2) : ∃ rs st1, aCons f a st = some (rs, st1) ∧ QR rs st1 := by
  obtain ⟨r, st1, e1, rs, st2, e2, q⟩ := c
  exact ⟨_, _, by rw [a_aCons, e1, Option.bind_some, e2]; rfl, q⟩
/-! a new thing -/
theorem co_p {x : Option κ} {k : κ → Option β} (p : XO emb o st x) (hh : x.bind k = some ans) (c : ∀ d, k d = some ans → QO (emb d) st) : CO o st QO := by
  obtain ⟨d, e1, e2⟩ := bs hh
  exact ⟨_, _, p d e1, c d e2⟩
theorem co_p0 {d : κ} (p : XO emb o st (some d)) (c : QO (emb d) st) : CO o st QO := ⟨_, _, p d rfl, c⟩
theorem co_mv (hi : st[i]? = some (some m)) (hf : m.free = true) (c : QO m (st.set i none)) : CO (oMv i) st QO := ⟨_, _, by unfold oMv; rw [hi]; exact if_pos hf, c⟩
theorem co_sh (c : CE f st fun r st1 => ∃ d st2, share st1 r = some (d, st2) ∧ QO (.sh d) st2) : CO (oSh f) st QO := by
  obtain ⟨r, st1, e1, d, st2, e2, q⟩ := c
  exact ⟨_, _, by rw [a_oSh, e1, Option.bind_some, e2]; rfl, q⟩
theorem co_lst (c : CA a st fun l st1 => l.length ≤ LIM ∧ QO (.ol false l) st1) : CO (oLst a) st QO := by
  obtain ⟨rs, st1, e1, l, st2, e2, hl, q⟩ := c
  exact ⟨_, _, by rw [a_oLst, e1, Option.bind_some, e2, Option.bind_some]; exact if_pos hl, q⟩
theorem co_if (c : CT t st fun b st1 => ifW b (CO o st1 QO) (CO o2' st1 QO)) : CO (oIf t o o2') st QO := by
  obtain ⟨b, st1, e1, q⟩ := c
  cases b with
  | true => obtain ⟨r, st2, e2, q⟩ := q; exact ⟨r, st2, by rw [a_oIf, e1, Option.bind_some, if_pos rfl, e2], q⟩
  | false => obtain ⟨r, st2, e2, q⟩ := q; exact ⟨r, st2, by rw [a_oIf, e1, Option.bind_some, if_neg Bool.false_ne_true, e2], q⟩
theorem co_1 {k : PyData → Option (List PyData)} (c : CE f st fun r st1 => ∃ u, dat st1 r = some u ∧ ∃ d, k u = some d ∧ QO (.ol false d) st1) : CO (o1 k f) st QO := by
  obtain ⟨r, st1, e1, u, e2, d, e3, q⟩ := c
  exact ⟨_, _, by rw [a_o1, e1, Option.bind_some, e2, Option.bind_some, e3]; rfl, q⟩
theorem co_2 {k : PyData → PyData → Option (List PyData)} (c : CE f st fun r st1 => CE g st1 fun r2 st2 => ∃ u, dat st2 r = some u ∧ ∃ v, dat st2 r2 = some v ∧ ∃ d, k u v = some d ∧ QO (.ol false d) st2) : CO (o2 k f g) st QO := by
  obtain ⟨r, st1, e1, r2, st2, e2, u, e3, v, e4, d, e5, q⟩ := c
  exact ⟨_, _, by rw [a_o2, e1, Option.bind_some, e2, Option.bind_some, e3, Option.bind_some, e4, Option.bind_some, e5]; rfl, q⟩
theorem co_3 {k : PyData → Option Int → Option Int → Option (List PyData)} {fl fh : FP} (c : CE f st fun r st1 => ∃ l st2, fl st1 = some (l, st2) ∧ ∃ h st3, fh st2 = some (h, st3) ∧ ∃ u, dat st3 r = some u ∧ ∃ d, k u l h = some d ∧ QO (.ol false d) st3) : CO (o3 k f fl fh) st QO := by
  obtain ⟨r, st1, e1, l, st2, e2, h, st3, e3, u, e4, d, e5, q⟩ := c
  refine ⟨_, _, ?_, q⟩
  show (f st).bind _ = _
  rw [e1, Option.bind_some]
  show (fl st1).bind _ = _
  rw [e2, Option.bind_some]
  show (fh st2).bind _ = _
  rw [e3, Option.bind_some]
  show (dat st3 r).bind _ = _
  rw [e4, Option.bind_some, e5]; rfl
theorem co_call {sem : Sem'} (c : CA a st fun l st1 => ∃ m' ms, sem (l.map M.sh) = some (m', ms) ∧ QO m' st1) : CO (oCall sem a) st QO := by
  obtain ⟨rs, st1, e1, l, st2, e2, m', ms, e3, q⟩ := c
  exact ⟨_, _, by rw [a_oCall, e1, Option.bind_some, e2, Option.bind_some, e3]; rfl, q⟩
theorem co_callS {sem : Sem'} {s0 : Src} (h0 : st[j]? = some (some (.src s0))) (c : CA a st fun l st1 => ∃ s, st1[j]? = some (some (.src s)) ∧ ∃ m' s' ms, sem (.src s :: l.map M.sh) = some (m', .src s' :: ms) ∧ QO m' (st1.set j (some (.src s')))) : CO (oCallS sem j a) st QO := by
  obtain ⟨rs, st1, e1, l, st2, e2, s, e4, m', s', ms, e3, q⟩ := c
  have hs : has st j = true := by unfold has; rw [h0]
  refine ⟨m', _, ?_, q⟩
  rw [r_oCallS, if_pos hs, e1, Option.bind_some, e2, Option.bind_some]
  simp only [e4, s_ld, Option.bind_some, e3, s_uld]
theorem co_oSrc {f1 : FO} {f2 f3 f4 : FE} {ds : List PyData} {ns : List Int} {i2 i3 i4 : Int} (p1 : XO eL f1 st (some ds)) (p2 : XD f2 st (some (.int i2))) (p3 : XD f3 st (some (.int i3))) (p4 : XD f4 st (some (.int i4))) (hn : intsOf ds = some ns) (c : QO (.src ⟨ns, i2, i3, i4⟩) st) : CO (oSrc f1 f2 f3 f4) st QO := by
  obtain ⟨r2, a2, b2⟩ := p2 _ rfl
  obtain ⟨r3, a3, b3⟩ := p3 _ rfl
  obtain ⟨r4, a4, b4⟩ := p4 _ rfl
  refine ⟨_, _, ?_, c⟩
  unfold oSrc
  rw [p1 _ rfl, Option.bind_some, a2, Option.bind_some, b2, Option.bind_some, a3, Option.bind_some, b3, Option.bind_some, a4, Option.bind_some, b4, Option.bind_some]
  show (intsOf ds).bind _ = _
  rw [hn]; rfl
/-! tests -/
theorem ct_p {x : Option Bool} {k : Bool → Option β} (p : XT t st x) (hh : x.bind k = some ans) (c : ∀ b, k b = some ans → QT b st) : CT t st QT := by
  obtain ⟨d, e1, e2⟩ := bs hh
  exact ⟨_, _, p d e1, c d e2⟩
theorem ct_bl (c : CE f st fun r st1 => ∃ b, dat st1 r = some (.bool b) ∧ QT b st1) : CT (tBl f) st QT := by
  obtain ⟨r, st1, e1, b, e2, q⟩ := c
  exact ⟨_, _, by rw [a_tBl, e1, Option.bind_some, e2]; rfl, q⟩
theorem ct_tr (c : CE f st fun r st1 => ∃ u, dat st1 r = some u ∧ ∃ b, truD u = some b ∧ QT b st1) : CT (tTr f) st QT := by
  obtain ⟨r, st1, e1, u, e2, b, e3, q⟩ := c
  exact ⟨_, _, x_tr e1 e2 e3, q⟩
theorem lfB {k : Bool → Option β} {P : Bool → Prop} {st2 : Sx} (hh : (asB d).bind k = some ans) (c : ∀ b, k b = some ans → P b) : ∃ b, dat st2 (.val d) = some (.bool b) ∧ P b := by
  obtain ⟨b, e1, e2⟩ := bs hh
  cases d <;> first | (cases e1; done) | skip
  cases e1
  exact ⟨_, rfl, c _ e2⟩
theorem ct_no (c : CT t st fun b st1 => QT (!b) st1) : CT (tNo t) st QT := by
  obtain ⟨b, st1, e1, q⟩ := c
  exact ⟨_, _, by rw [a_tNo, e1]; rfl, q⟩
theorem ct_an (c : CT t st fun b st1 => ifW b (CT t2 st1 QT) (QT false st1)) : CT (tAn t t2) st QT := by
  obtain ⟨b, st1, e1, q⟩ := c
  cases b with
  | true => obtain ⟨b2, st2, e2, q⟩ := q; exact ⟨_, _, x_an1 e1 e2, q⟩
  | false => exact ⟨_, _, x_an0 e1, q⟩
theorem ct_or (c : CT t st fun b st1 => ifW b (QT true st1) (CT t2 st1 QT)) : CT (tOr' t t2) st QT := by
  obtain ⟨b, st1, e1, q⟩ := c
  cases b with
  | false => obtain ⟨b2, st2, e2, q⟩ := q; exact ⟨_, _, x_or0 e1 e2, q⟩
  | true => exact ⟨_, _, x_or1 e1, q⟩
/-! loops over -/
theorem ci_p {fi : FI} {x : Option (List PyData)} {k : List PyData → Option β} (p : XI fi st x) (hh : x.bind k = some ans) (c : ∀ l, k l = some ans → QI l st) : CI fi st QI := by
  obtain ⟨d, e1, e2⟩ := bs hh
  exact ⟨_, _, p d e1, c d e2⟩
theorem ci_seqE (c : CE f st fun r st1 => ∃ d st2, share st1 r = some (d, st2) ∧ ∃ ds, seqD d = some ds ∧ QI ds st2) : CI (iSeq f) st QI := by
  obtain ⟨r, st1, e1, d, st2, e2, ds, e3, q⟩ := c
  refine ⟨_, _, ?_, q⟩
  rw [a_iSeq, e1, Option.bind_some, e2, Option.bind_some]
  cases d <;> first | (cases e3; done) | skip
  all_goals (cases e3; rfl)
theorem ci_rg1E (c : CE f st fun r st1 => ∃ d, dat st1 r = some d ∧ ∃ ds, gR1 d = some ds ∧ QI ds st1) : CI (iRg1 f) st QI := by
  obtain ⟨r, st1, e1, d, e2, ds, e3, q⟩ := c
  refine ⟨_, _, ?_, q⟩
  rw [a_iRg1, e1, Option.bind_some, e2, Option.bind_some]
  cases d <;> first | (cases e3; done) | skip
  unfold gR1 at e3
  dsimp only at e3 ⊢
  split at e3
  · rename_i c; cases e3; rw [if_pos c]
  · cases e3
/-! statements -/
theorem ws_cons {s rest : FS} (c : WS s st (Tn rest G)) : WS (bCons s rest) st G := by
  obtain ⟨o, st1, e1, q⟩ := c
  cases o with
  | next => obtain ⟨o2, st2, e2, q⟩ := q; exact ⟨o2, st2, bc e1 e2, q⟩
  | brk => exact ⟨_, _, by rw [a_bCons, e1]; rfl, q⟩
  | cont => exact ⟨_, _, by rw [a_bCons, e1]; rfl, q⟩
  | ret m => exact ⟨_, _, by rw [a_bCons, e1]; rfl, q⟩
theorem ws_nil (c : G .next st) : WS bNil st G := ⟨_, _, rfl, c⟩
theorem ws_pass (c : G .next st) : WS sPass st G := ⟨_, _, rfl, c⟩
theorem ws_brk (c : G .brk st) : WS sBrk st G := ⟨_, _, rfl, c⟩
theorem ws_cont (c : G .cont st) : WS sCont st G := ⟨_, _, rfl, c⟩
theorem ws_retN (c : G (.ret (.sh .none)) st) : WS sRetN st G := ⟨_, _, rfl, c⟩
theorem ws_ret (c : CO o st fun m st1 => G (.ret m) st1) : WS (sRet o) st G := by
  obtain ⟨m, st1, e1, q⟩ := c
  exact ⟨_, _, v_ret e1, q⟩
theorem ws_expr (c : CE f st fun _ st1 => G .next st1) : WS (sExpr f) st G := by
  obtain ⟨m, st1, e1, q⟩ := c
  exact ⟨_, _, x_ex e1, q⟩
theorem ws_set (c : CO o st fun m st1 => open1 st1 i = true ∧ G .next (st1.set i (some m))) : WS (sSet i o) st G := by
  obtain ⟨m, st1, e1, h1, q⟩ := c
  exact ⟨_, _, v_set e1 h1, q⟩
theorem ws_par (c : CO o st fun m st1 => CO o2' st1 fun m2 st2 => open1 st2 j = true ∧ open1 (st2.set j (some m2)) i = true ∧ G .next ((st2.set j (some m2)).set i (some m))) : WS (sPar i j o o2') st G := by
  obtain ⟨m, st1, e1, m2, st2, e2, h1, h2, q⟩ := c
  exact ⟨_, _, v_par e1 e2 h1 h2, q⟩
theorem ws_par3 (c : CO o st fun m st1 => CO o2' st1 fun m2 st2 => CO o3' st2 fun m3 st3 => open1 st3 l = true ∧ open1 (st3.set l (some m3)) j = true ∧ open1 ((st3.set l (some m3)).set j (some m2)) i = true ∧ G .next (((st3.set l (some m3)).set j (some m2)).set i (some m))) : WS (sPar3 i j l o o2' o3') st G := by
  obtain ⟨m, st1, e1, m2, st2, e2, m3, st3, e3, h1, h2, h3, q⟩ := c
  exact ⟨_, _, x_par3 e1 e2 e3 h1 h2 h3, q⟩
theorem ws_if {k k2 : FS} (c : CT t st fun b st1 => ifW b (WS k st1 G) (WS k2 st1 G)) : WS (sIf t k k2) st G := by
  obtain ⟨b, st1, e1, q⟩ := c
  cases b with
  | true => obtain ⟨o2, st2, e2, q⟩ := q; exact ⟨_, _, v_ifT e1 e2, q⟩
  | false => obtain ⟨o2, st2, e2, q⟩ := q; exact ⟨_, _, v_ifF e1 e2, q⟩
theorem ws_asg {k : FG} (c : CO o st fun m st1 => ∃ d, m = .sh d ∧ ∃ st2, k d st1 = some st2 ∧ G .next st2) : WS (sAsg o k) st G := by
  obtain ⟨m, st1, e1, d, rfl, st2, e2, q⟩ := c
  exact ⟨_, _, x_asg e1 e2, q⟩
theorem ws_aug {k : PyData → PyData → Option PyData} {d0 : PyData} (h0 : has st i = true) (c : CE f st fun r st1 => ∃ u, dat st1 (.var i) = some u ∧ ∃ v, dat st1 r = some v ∧ ∃ d, k u v = some d ∧ open1 st1 i = true ∧ G .next (st1.set i (some (.sh d)))) : WS (sAug i k f) st G := by
  obtain ⟨r, st1, e1, u, e2, v, e3, d, e4, h1, q⟩ := c
  refine ⟨_, _, ?_, q⟩
  show (if has st i = true then _ else none) = _
  rw [if_pos h0, e1, Option.bind_some]
  show (dat st1 (.var i)).bind _ = _
  rw [e2, Option.bind_some]
  show (dat st1 r).bind _ = _
  rw [e3, Option.bind_some]
  show (k u v).bind _ = _
  rw [e4, Option.bind_some]
  exact if_pos h1
theorem ws_ext {b : Bool} {ds : List PyData} {x : Option PyData} {k : List PyData → Option β} (hi : st[i]? = some (some (.ol b ds))) (p : XS f st x) (hh : (x.bind fun u => exX ds u).bind k = some ans) (c : ∀ r, k r = some ans → G .next (st.set i (some (.ol b r)))) : WS (sExt i f) st G := by
  obtain ⟨r, e1, e2⟩ := bs hh
  obtain ⟨u, e3, e4⟩ := bs e1
  obtain ⟨q, a1, a2, a3⟩ := p u e3
  refine ⟨_, _, x_ext (d1 := .none) hi a1 a3 hi ?_, c r e2⟩
  cases u <;> first | (cases e4; done) | skip
  unfold exX at e4
  dsimp only at e4
  split at e4
  · rename_i c; cases e4; exact if_pos c
  · cases e4
theorem ws_dput {b : Bool} {kvs : List (PyData × PyData)} {x y : Option PyData} {k : List (PyData × PyData) → Option β} (hj : st[j]? = some (some (.od b kvs))) (p : XS g st x) (q : XS f st y) (hh : (x.bind fun v => y.bind fun u => dpX kvs u v).bind k = some ans) (c : ∀ r, k r = some ans → G .next (st.set j (some (.od b r)))) : WS (sDPut j f g) st G := by
  obtain ⟨r, e1, e2⟩ := bs hh
  obtain ⟨v, e3, e1⟩ := bs e1
  obtain ⟨u, e4, e1⟩ := bs e1
  obtain ⟨q1, a1, a2, a3⟩ := p v e3
  obtain ⟨q2, b1, b2, b3⟩ := q u e4
  unfold dpX at e1
  split at e1
  · rename_i cc
    cases e1
    exact ⟨_, _, x_dput a1 a3 hj b1 b3 hj cc, c _ e2⟩
  · cases e1
theorem g_at {b : Bool} {ds : List PyData} {x : Option PyData} {k : List PyData → Option β} {P : Sx → Prop} (hj : st[j]? = some (some (.ol b ds))) (p : XD f st x) (hh : (x.bind fun u => stX ds u d).bind k = some ans) (c : ∀ r, k r = some ans → P (st.set j (some (.ol b r)))) : ∃ st2, gAt j f d st = some st2 ∧ P st2 := by
  obtain ⟨r, e1, e2⟩ := bs hh
  obtain ⟨u, e3, e4⟩ := bs e1
  obtain ⟨q, a1, a2⟩ := p u e3
  obtain ⟨i, e5, e4⟩ := bs e4
  obtain ⟨n, e6, e4⟩ := bs e4
  cases e4
  cases u <;> first | (cases e5; done) | skip
  cases e5
  exact ⟨_, x_gat (by unfold has; rw [hj]) a1 a2 hj e6, c _ e2⟩
def slX (ds : List PyData) (l h : Option Int) (d : PyData) : Option (List PyData) := match d, l, h with
  | .list es, some a, some c => if 0 ≤ a ∧ a ≤ c ∧ ds.length + es.length ≤ LIM then some (ds.take a.toNat ++ es ++ ds.drop c.toNat) else none
  | _, _, _ => none
theorem g_slC {b : Bool} {ds : List PyData} {fl fh : FP} {xl xh : Option (Option Int)} {k : List PyData → Option β} {P : Sx → Prop} (hj : st[j]? = some (some (.ol b ds))) (pl : XP fl st xl) (ph : XP fh st xh) (hh : (xl.bind fun l => xh.bind fun h => slX ds l h d).bind k = some ans) (c : ∀ r, k r = some ans → P (st.set j (some (.ol b r)))) : ∃ st2, gSlC j fl fh d st = some st2 ∧ P st2 := by
  obtain ⟨r, e1, e2⟩ := bs hh
  obtain ⟨l, e3, e1⟩ := bs e1
  obtain ⟨h, e4, e1⟩ := bs e1
  cases d <;> first | (cases e1; done) | skip
  cases l <;> first | (cases e1; done) | skip
  cases h <;> first | (cases e1; done) | skip
  unfold slX at e1
  dsimp only at e1
  split at e1
  · rename_i cc
    cases e1
    exact ⟨_, x_gslC (by unfold has; rw [hj]) (pl _ e3) (ph _ e4) hj cc, c _ e2⟩
  · cases e1
theorem ws_src {k : SF} {s : Src} {i' : Int} (c : CE f st fun r st1 => ∃ i', dat st1 r = some (.int i') ∧ ∃ s, st1[j]? = some (some (.src s)) ∧ G .next (st1.set j (some (.src (k.put s i'))))) : WS (sSrc j k f) st G := by
  obtain ⟨r, st1, e1, i', e2, s, e3, q⟩ := c
  refine ⟨_, _, ?_, q⟩
  show (f st).bind _ = _
  rw [e1, Option.bind_some]
  show (dat st1 r).bind _ = _
  rw [e2, Option.bind_some]
  simp only [e3]
end
/-! loops -/
def GL {ρ α : Type} (Gf : ρ → Out → Sx → Prop) (T : α → Sx → Prop) : Rx ρ α → Out → Sx → Prop
  | .ret a, o, st => Gf a o st ∧ ∃ m, o = .ret m
  | .nxt v, o, st => (o = .next ∨ o = .cont) ∧ T v st
  | .brk v, o, st => o = .brk ∧ T v st
def GN {α : Type} (T : α → Sx → Prop) (v : α) (o : Out) (st : Sx) : Prop := (o = .next ∨ o = .cont) ∧ T v st
theorem for_run {ρ α : Type} {hd : FG} {body : FS} {F : PyData → α → Option (Rx ρ α)} {Gf : ρ → Out → Sx → Prop} {T : α → Sx → Prop} (step : ∀ d v st1 r, T v st1 → F d v = some r → ∃ s1, hd d st1 = some s1 ∧ WS body s1 (GL Gf T r)) :
    ∀ (ds : List PyData) (v : α) (st : Sx) (z : ρ ⊕ α), T v st → forX F ds v = some z → ∃ o st', runFor hd body ds st = some (o, st') ∧ ((∃ a m, z = .inl a ∧ o = .ret m ∧ Gf a o st') ∨ (∃ v', z = .inr v' ∧ o = .next ∧ T v' st'))
  | [], v, st, z, h, e => by cases e; exact ⟨_, _, rfl, .inr ⟨v, rfl, rfl, h⟩⟩
  | d :: ds, v, st, z, h, e => by
    obtain ⟨r, e1, e⟩ := bs e
    obtain ⟨s1, e2, o, s2, e3, g⟩ := step d v st r h e1
    rw [r_for, e2, Option.bind_some, e3]
    cases r with
    | ret a =>
      cases e
      obtain ⟨g, m, rfl⟩ := g
      exact ⟨_, _, rfl, .inl ⟨a, m, rfl, rfl, g⟩⟩
    | brk v' =>
      cases e
      obtain ⟨rfl, g⟩ := g
      exact ⟨_, _, rfl, .inr ⟨v', rfl, rfl, g⟩⟩
    | nxt v' =>
      obtain ⟨ho, g⟩ := g
      rcases ho with rfl | rfl
      · exact for_run step ds v' s2 z g e
      · exact for_run step ds v' s2 z g e
theorem fold_for {α : Type} (F : PyData → α → Option α) : ∀ (ds : List PyData) (v z : α), foldX F ds v = some z → forX (ρ := Empty) (fun d v => (F d v).bind fun v => some (.nxt v)) ds v = some (.inr z)
  | [], v, z, e => by cases e; rfl
  | d :: ds, v, z, e => by
    obtain ⟨v', e1, e⟩ := bs e
    show (((F d v).bind fun v => some (Rx.nxt v)).bind _) = _
    rw [e1]
    exact fold_for F ds v' z e
section
variable {fi : FI} {hd : FG} {body : FS} {st : Sx} {G : Out → Sx → Prop} {β α ρ : Type} {ans : β}
theorem ws_for {F : PyData → α → Option (Rx ρ α)} (Gf : ρ → Out → Sx → Prop) (T : α → Sx → Prop) (v0 : α) {kl : ρ → Option β} {kr : α → Option β}
    (c : CI fi st fun ds st1 => (forX F ds v0).bind (fun z => unInr z kl kr) = some ans ∧ T v0 st1) (step : ∀ d v st1 r, T v st1 → F d v = some r → ∃ s1, hd d st1 = some s1 ∧ WS body s1 (GL Gf T r))
    (cl : ∀ a m st', kl a = some ans → Gf a (.ret m) st' → G (.ret m) st') (cr : ∀ v st', T v st' → kr v = some ans → G .next st') : WS (sFor fi hd body) st G := by
  obtain ⟨ds, st1, e1, e2, h0⟩ := c
  obtain ⟨z, e3, e4⟩ := bs e2
  obtain ⟨o, st2, e5, q⟩ := for_run step ds v0 st1 z h0 e3
  refine ⟨o, st2, v_for e1 e5, ?_⟩
  rcases q with ⟨a, m, rfl, rfl, g⟩ | ⟨v', rfl, rfl, g⟩
  · exact cl a m st2 e4 g
  · exact cr v' st2 g e4
theorem ws_fold {F : PyData → α → Option α} (T : α → Sx → Prop) (v0 : α) {k : α → Option β}
    (c : CI fi st fun ds st1 => (foldX F ds v0).bind k = some ans ∧ T v0 st1) (step : ∀ d v st1 r, T v st1 → F d v = some r → ∃ s1, hd d st1 = some s1 ∧ WS body s1 (GN T r))
    (cr : ∀ v st', T v st' → k v = some ans → G .next st') : WS (sFor fi hd body) st G := by
  obtain ⟨ds, st1, e1, e2, h0⟩ := c
  obtain ⟨z, e3, e4⟩ := bs e2
  obtain ⟨o, st2, e5, q⟩ := for_run (ρ := Empty) (F := fun d v => (F d v).bind fun v => some (.nxt v)) (Gf := fun _ _ _ => False) (T := T) (hd := hd) (body := body) (fun d v st1 r t e => by
    obtain ⟨v', e1, e⟩ := bs e
    cases e
    exact step d v st1 v' t e1) ds v0 st1 _ h0 (fold_for F ds v0 z e3)
  refine ⟨o, st2, v_for e1 e5, ?_⟩
  rcases q with ⟨a, _⟩ | ⟨v', e, rfl, g⟩
  · exact a.elim
  · cases e; exact cr _ st2 g e4
theorem ws_while {t : FT} {tx : α → Option Bool} {F : α → Option (Rx ρ α)} (Gf : ρ → Out → Sx → Prop) (T : α → Sx → Prop) (v0 : α) {kl : ρ → Option β} {kr : α → Option β}
    (hh : (whileX tx F WF v0).bind (fun z => unInr z kl kr) = some ans) (h0 : T v0 st) (test : ∀ v st1 b, T v st1 → tx v = some b → t st1 = some (b, st1)) (step : ∀ v st1 r, T v st1 → F v = some r → WS body st1 (GL Gf T r))
    (cl : ∀ a m st', kl a = some ans → Gf a (.ret m) st' → G (.ret m) st') (cr : ∀ v st', T v st' → kr v = some ans → G .next st') : WS (sWhile t body) st G := by
  obtain ⟨z, e3, e4⟩ := bs hh
  have key : ∀ (n : Nat) (v : α) (st : Sx) (z : ρ ⊕ α), T v st → whileX tx F n v = some z → ∃ o st', runWhile t body n st = some (o, st') ∧ ((∃ a m, z = .inl a ∧ o = .ret m ∧ Gf a o st') ∨ (∃ v', z = .inr v' ∧ o = .next ∧ T v' st')) := fun n => by
    induction n with
    | zero => intro v st z _ e; cases e
    | succ n ih =>
      intro v st z h e
      obtain ⟨b, e1, e⟩ := bs e
      have et := test v st b h e1
      show ∃ o st', (t st).bind _ = some (o, st') ∧ _
      rw [et, Option.bind_some]
      cases b with
      | false => cases e; exact ⟨_, _, rfl, .inr ⟨v, rfl, rfl, h⟩⟩
      | true =>
        rw [cond_true] at e
        obtain ⟨r, e2, e⟩ := bs e
        obtain ⟨o, s2, e5, g⟩ := step v st r h e2
        rw [if_pos rfl]
        show ∃ o st', (body st).bind _ = some (o, st') ∧ _
        rw [e5, Option.bind_some]
        cases r with
        | ret a =>
          cases e
          obtain ⟨g, m, rfl⟩ := g
          exact ⟨_, _, rfl, .inl ⟨a, m, rfl, rfl, g⟩⟩
        | brk v' =>
          cases e
          obtain ⟨rfl, g⟩ := g
          exact ⟨_, _, rfl, .inr ⟨v', rfl, rfl, g⟩⟩
        | nxt v' =>
          obtain ⟨ho, g⟩ := g
          rcases ho with rfl | rfl
          · exact ih v' s2 z g e
          · exact ih v' s2 z g e
  obtain ⟨o, st2, e5, q⟩ := key WF v0 st z h0 e3
  refine ⟨o, st2, e5, ?_⟩
  rcases q with ⟨a, m, rfl, rfl, g⟩ | ⟨v', rfl, rfl, g⟩
  · exact cl a m st2 e4 g
  · exact cr v' st2 g e4
end
/-! a def -/
def outM : Out → Option M
  | .ret m => some m
  | .next => some (.sh .none)
  | _ => none
def GF (ms : List M) (m : M) (ms' : List M) (o : Out) (st : Sx) : Prop := outM o = some m ∧ backs ms st = some ms'
theorem run_w {np nl : Nat} {b : FS} {ms ms' : List M} {m : M} (hl : ms.length = np) (st0 : Sx) (h0 : ms.map some ++ List.replicate (nl - ms.length) none = st0) (w : WS b st0 (GF ms m ms')) : runDef np nl b ms = some (m, ms') := by
  subst h0
  obtain ⟨o, st', e, h1, h2⟩ := w
  rw [r_run, if_pos hl, e, Option.bind_some]
  cases o with
  | ret m' => cases h1; show (backs ms st').map _ = _; rw [h2]; rfl
  | next => cases h1; show (backs ms st').map _ = _; rw [h2]; rfl
  | brk => cases h1
  | cont => cases h1
end Pv
namespace Pv
open PySem PySem.Spec PyProof.Rows L2
theorem all1 {st : Sx} {v : Nat} (h : noOwn st v = true) : [v].all (noOwn st) = true := by rw [List.all_cons, h]; rfl
theorem all2 {st : Sx} {v u : Nat} (h : noOwn st v = true) (h2 : noOwn st u = true) : [v, u].all (noOwn st) = true := by rw [List.all_cons, h, List.all_cons, h2]; rfl
theorem all3 {st : Sx} {v u w : Nat} (h : noOwn st v = true) (h2 : noOwn st u = true) (h3 : noOwn st w = true) : [v, u, w].all (noOwn st) = true := by rw [List.all_cons, h, List.all_cons, h2, List.all_cons, h3]; rfl
section
variable {st : Sx} {i j : Nat} {κ β : Type} {emb : κ → M} {G : Out → Sx → Prop} {ans : β} {f : FE} {sem : Sem'} {QO : M → Sx → Prop} {s : Src} {a b c e e' : PyData}
theorem ap_eq {ds r : List PyData} {u : PyData} (h : apX ds u = some r) : gAppend ds u = some (.none, r) := by
  unfold apX at h
  split at h
  · rename_i c; cases h; exact if_pos c
  · cases h
theorem ex_eq {ds r : List PyData} {u : PyData} (h : exX ds u = some r) : gExtend ds u = some (.none, r) := by
  cases u <;> first | (cases h; done) | skip
  unfold exX at h
  dsimp only at h
  split at h
  · rename_i c; cases h; exact if_pos c
  · cases h
theorem ws_app {b : Bool} {ds : List PyData} {x : Option PyData} {k : List PyData → Option β} (hj : st[j]? = some (some (.ol b ds))) (p : XS f st x) (hh : (x.bind fun u => apX ds u).bind k = some ans) (c : ∀ r, k r = some ans → G .next (st.set j (some (.ol b r)))) : WS (sExpr (eLm1 j gAppend f)) st G := by
  obtain ⟨r, e1, e2⟩ := bs hh
  obtain ⟨u, e3, e4⟩ := bs e1
  refine ws_expr (ce_lm (k := fun r => k r.2) hj p (show (x.bind fun u => gAppend ds u).bind (fun r => k r.2) = some ans from ?_) fun r h => c r.2 h)
  rw [e3, Option.bind_some, ap_eq e4]; exact e2
theorem ws_exd {b : Bool} {ds : List PyData} {x : Option PyData} {k : List PyData → Option β} (hj : st[j]? = some (some (.ol b ds))) (p : XS f st x) (hh : (x.bind fun u => exX ds u).bind k = some ans) (c : ∀ r, k r = some ans → G .next (st.set j (some (.ol b r)))) : WS (sExpr (eLm1 j gExtend f)) st G := by
  obtain ⟨r, e1, e2⟩ := bs hh
  obtain ⟨u, e3, e4⟩ := bs e1
  refine ws_expr (ce_lm (k := fun r => k r.2) hj p (show (x.bind fun u => gExtend ds u).bind (fun r => k r.2) = some ans from ?_) fun r h => c r.2 h)
  rw [e3, Option.bind_some, ex_eq e4]; exact e2
theorem ap_l {ds : List PyData} {u : PyData} {k : List PyData → Option β} {P : PyData × List PyData → Prop} (hh : (apX ds u).bind k = some ans) (c : ∀ r, k r = some ans → P (.none, r)) : ∃ r, gAppend ds u = some r ∧ P r := by
  obtain ⟨r, e1, e2⟩ := bs hh
  exact ⟨_, ap_eq e1, c r e2⟩
theorem ex_l {ds : List PyData} {u : PyData} {k : List PyData → Option β} {P : PyData × List PyData → Prop} (hh : (exX ds u).bind k = some ans) (c : ∀ r, k r = some ans → P (.none, r)) : ∃ r, gExtend ds u = some r ∧ P r := by
  obtain ⟨r, e1, e2⟩ := bs hh
  exact ⟨_, ex_eq e1, c r e2⟩
/-! the answers of calls -/
theorem cc1 {X : PyData → Option κ} (T : ∀ a r, X a = some r → sem [.sh a] = some (emb r, [.sh a])) {k : κ → Option β} (hh : (X a).bind k = some ans) {P : M → Prop} (cc : ∀ r, k r = some ans → P (emb r)) : ∃ m' ms, sem ([a].map M.sh) = some (m', ms) ∧ P m' := by
  obtain ⟨r, e1, e2⟩ := bs hh
  exact ⟨_, _, T _ _ e1, cc r e2⟩
theorem cc2 {X : PyData → PyData → Option κ} (T : ∀ a b r, X a b = some r → sem [.sh a, .sh b] = some (emb r, [.sh a, .sh b])) {k : κ → Option β} (hh : (X a b).bind k = some ans) {P : M → Prop} (cc : ∀ r, k r = some ans → P (emb r)) : ∃ m' ms, sem ([a, b].map M.sh) = some (m', ms) ∧ P m' := by
  obtain ⟨r, e1, e2⟩ := bs hh
  exact ⟨_, _, T _ _ _ e1, cc r e2⟩
theorem cc3 {X : PyData → PyData → PyData → Option κ} (T : ∀ a b c r, X a b c = some r → sem [.sh a, .sh b, .sh c] = some (emb r, [.sh a, .sh b, .sh c])) {k : κ → Option β} (hh : (X a b c).bind k = some ans) {P : M → Prop} (cc : ∀ r, k r = some ans → P (emb r)) : ∃ m' ms, sem ([a, b, c].map M.sh) = some (m', ms) ∧ P m' := by
  obtain ⟨r, e1, e2⟩ := bs hh
  exact ⟨_, _, T _ _ _ _ e1, cc r e2⟩
theorem cc4 {X : PyData → PyData → PyData → PyData → Option κ} (T : ∀ a b c e r, X a b c e = some r → sem [.sh a, .sh b, .sh c, .sh e] = some (emb r, [.sh a, .sh b, .sh c, .sh e])) {k : κ → Option β} (hh : (X a b c e).bind k = some ans) {P : M → Prop} (cc : ∀ r, k r = some ans → P (emb r)) : ∃ m' ms, sem ([a, b, c, e].map M.sh) = some (m', ms) ∧ P m' := by
  obtain ⟨r, e1, e2⟩ := bs hh
  exact ⟨_, _, T _ _ _ _ _ e1, cc r e2⟩
theorem cs0 {X : Src → Option (κ × Src)} (T : ∀ s r s', X s = some (r, s') → sem [.src s] = some (emb r, [.src s'])) {k : κ × Src → Option β} (hh : (X s).bind k = some ans) {P : M → Src → Prop} (cc : ∀ p, k p = some ans → P (emb p.1) p.2) : ∃ m' s' ms, sem (.src s :: ([] : List PyData).map M.sh) = some (m', .src s' :: ms) ∧ P m' s' := by
  obtain ⟨⟨r, s'⟩, e1, e2⟩ := bs hh
  exact ⟨_, _, _, T _ _ _ e1, cc _ e2⟩
theorem cs1 {X : Src → PyData → Option (κ × Src)} (T : ∀ s a r s', X s a = some (r, s') → sem [.src s, .sh a] = some (emb r, [.src s', .sh a])) {k : κ × Src → Option β} (hh : (X s a).bind k = some ans) {P : M → Src → Prop} (cc : ∀ p, k p = some ans → P (emb p.1) p.2) : ∃ m' s' ms, sem (.src s :: [a].map M.sh) = some (m', .src s' :: ms) ∧ P m' s' := by
  obtain ⟨⟨r, s'⟩, e1, e2⟩ := bs hh
  exact ⟨_, _, _, T _ _ _ _ e1, cc _ e2⟩
theorem cs2 {X : Src → PyData → PyData → Option (κ × Src)} (T : ∀ s a b r s', X s a b = some (r, s') → sem [.src s, .sh a, .sh b] = some (emb r, [.src s', .sh a, .sh b])) {k : κ × Src → Option β} (hh : (X s a b).bind k = some ans) {P : M → Src → Prop} (cc : ∀ p, k p = some ans → P (emb p.1) p.2) : ∃ m' s' ms, sem (.src s :: [a, b].map M.sh) = some (m', .src s' :: ms) ∧ P m' s' := by
  obtain ⟨⟨r, s'⟩, e1, e2⟩ := bs hh
  exact ⟨_, _, _, T _ _ _ _ _ e1, cc _ e2⟩
theorem cs3 {X : Src → PyData → PyData → PyData → Option (κ × Src)} (T : ∀ s a b c r s', X s a b c = some (r, s') → sem [.src s, .sh a, .sh b, .sh c] = some (emb r, [.src s', .sh a, .sh b, .sh c])) {k : κ × Src → Option β} (hh : (X s a b c).bind k = some ans) {P : M → Src → Prop} (cc : ∀ p, k p = some ans → P (emb p.1) p.2) : ∃ m' s' ms, sem (.src s :: [a, b, c].map M.sh) = some (m', .src s' :: ms) ∧ P m' s' := by
  obtain ⟨⟨r, s'⟩, e1, e2⟩ := bs hh
  exact ⟨_, _, _, T _ _ _ _ _ _ e1, cc _ e2⟩
/-- a part of a text that ends where it goes on, whichever way it goes -/
theorem ws_join {α : Type} {b : FS} {xs : Option α} {k : α → Option β} (T : α → Sx → Prop) (hh : xs.bind k = some ans) (c1 : ∀ v, xs = some v → WS b st (fun o st' => o = .next ∧ T v st')) (c2 : ∀ v st', T v st' → k v = some ans → G .next st') : WS b st G := by
  obtain ⟨v, e1, e2⟩ := bs hh
  obtain ⟨o, st', e3, rfl, t⟩ := c1 v e1
  exact ⟨_, _, e3, c2 v st' t e2⟩
/-! a comprehension that draws -/
def compSR (F : PyData → Src → Option (Option PyData × Src)) : List PyData → Src → Option (List PyData × Src)
  | [], s => some ([], s)
  | d :: ds, s => (F d s).bind fun p => (compSR F ds p.2).bind fun r => match p.1 with
    | some y => some (y :: r.1, r.2)
    | none => some r
def compS (F : PyData → Src → Option (Option PyData × Src)) (ds : List PyData) (s : Src) : Option (List PyData × Src) := if ds.length ≤ LIM then compSR F ds s else none
theorem co_compS {vs : List Nat} {fi : FI} {hd : FG} {t : FT} {el : FE} {xi : Option (List PyData)} {F : PyData → Src → Option (Option PyData × Src)} {k : List PyData × Src → Option β} (pi : XI fi st xi) (hj : st[j]? = some (some (.src s))) (hv : j ∉ vs) (hn : vs.all (noOwn st) = true)
    (hh : xi.bind (fun ds => (compS F ds s).bind k) = some ans)
    (step : ∀ d s p, F d s = some p → ∃ s1, hd d (wipeS (st.set j (some (.src s))) vs) = some s1 ∧ CT t s1 fun b s2 => ifW b (CE el s2 fun r s3 => ∃ y s4, share s3 r = some (y, s4) ∧ p.1 = some y ∧ vs.all (noOwn s4) = true ∧ wipeS s4 vs = wipeS (st.set j (some (.src p.2))) vs)
      (p.1 = none ∧ vs.all (noOwn s2) = true ∧ wipeS s2 vs = wipeS (st.set j (some (.src p.2))) vs))
    (cc : ∀ p, k p = some ans → QO (.ol false p.1) (st.set j (some (.src p.2)))) : CO (oComp vs fi hd t el) st QO := by
  obtain ⟨ds, e1, e⟩ := bs hh
  obtain ⟨⟨out, s9⟩, e2, e3⟩ := bs e
  unfold compS at e2
  split at e2
  · rename_i hl
    have key : ∀ (ds : List PyData) (s : Src) (out : List PyData) (s9 : Src), compSR F ds s = some (out, s9) → runComp vs hd t el ds (wipeS (st.set j (some (.src s))) vs) = some (out, wipeS (st.set j (some (.src s9))) vs) := fun ds => by
      induction ds with
      | nil => intro s out s9 e; cases e; rfl
      | cons d ds ih =>
        intro s out s9 e
        obtain ⟨⟨o, s'⟩, e4, e⟩ := bs e
        obtain ⟨⟨r, s8⟩, e5, e⟩ := bs e
        obtain ⟨s1, h1, b, s2, h2, h3⟩ := step d s _ e4
        have ih' := ih s' r s8 e5
        rw [a_runComp, h1, Option.bind_some, h2, Option.bind_some]
        cases b with
        | false =>
          obtain ⟨ho, h4, h5⟩ := h3
          cases ho
          cases e
          rw [if_neg Bool.false_ne_true, if_pos h4, h5, ih']
        | true =>
          obtain ⟨r', s3, h4, y, s4, h5, ho, h6, h7⟩ := h3
          cases ho
          cases e
          rw [if_pos rfl, h4, Option.bind_some, h5, Option.bind_some, if_pos h6, h7, ih', Option.bind_some]
    have es : st.set j (some (.src s)) = st := set_same hj
    have k0 := key ds s out s9 e2
    rw [es] at k0
    refine ⟨_, _, ?_, cc _ e3⟩
    rw [a_oComp, pi ds e1, Option.bind_some, if_pos ⟨hl, hn⟩]
    show (runComp vs hd t el ds (wipeS st vs)).bind _ = _
    rw [k0, Option.bind_some]
    have eb : back st (wipeS (st.set j (some (.src s9))) vs) vs = st.set j (some (.src s9)) := by
      refine Eq.trans ?_ (back_wipe (vs := vs) (st.set j (some (.src s9))) fun v hv' => by rw [List.length_set]; exact noOwn_lt (List.all_eq_true.mp hn v hv'))
      refine List.ext_getElem? fun i => ?_
      by_cases hi : i ∈ vs
      · have hl := noOwn_lt (List.all_eq_true.mp hn i hi)
        have ne : j ≠ i := fun e => hv (by rw [e]; exact hi)
        rw [back_in st _ hi hl (by rw [wipeS_len, List.length_set]), back_in (st.set j (some (.src s9))) _ hi (by rw [List.length_set]; exact hl) (by rw [wipeS_len]), List.getElem?_set_ne ne]
      · rw [back_out _ _ hi, back_out _ _ hi]
    rw [eb]
  · cases e2
end
end Pv
namespace Pv
open PySem PySem.Spec PyProof.Rows L2
theorem co_shf {o : FO} {st : Sx} {QO : M → Sx → Prop} (c : CO o st fun m st1 => m.free = true ∧ ∃ d, m.dat = some d ∧ QO (.sh d) st1) : CO (oShF o) st QO := by
  obtain ⟨m, st1, e1, e2, d, e3, q⟩ := c
  refine ⟨_, _, ?_, q⟩
  show (o st).bind _ = _
  rw [e1, Option.bind_some, if_pos e2, e3]; rfl
end Pv
namespace Pv
open PySem PySem.Spec PyProof.Rows L2
theorem backs_ex {np nl : Nat} {b : FS} {ms ms' : List M} {m : M} (h : runDef np nl b ms = some (m, ms')) : ∃ st, backs ms st = some ms' := by
  rw [r_run] at h
  split at h
  · obtain ⟨⟨o, st⟩, _, h⟩ := bs h
    cases o with
    | ret m' =>
      obtain ⟨ms2, e, e2⟩ := Option.map_eq_some_iff.mp (show (backs ms st).map _ = _ from h)
      cases e2; exact ⟨st, e⟩
    | next =>
      obtain ⟨ms2, e, e2⟩ := Option.map_eq_some_iff.mp (show (backs ms st).map _ = _ from h)
      cases e2; exact ⟨st, e⟩
    | brk => cases h
    | cont => cases h
  · cases h
theorem run_sh1 {np nl : Nat} {b : FS} {q : PyData} {m : M} {ms' : List M} (h : runDef np nl b [.sh q] = some (m, ms')) : ms' = [.sh q] := by
  obtain ⟨st, e⟩ := backs_ex h
  cases st with
  | nil => cases e
  | cons o st => cases o <;> (cases e; rfl)
theorem run_ss {np nl : Nat} {b : FS} {s : Src} {q : PyData} {m : M} {ms' : List M} (h : runDef np nl b [.src s, .sh q] = some (m, ms')) : ∃ s', ms' = [.src s', .sh q] := by
  obtain ⟨st, e⟩ := backs_ex h
  match st, e with
  | some (.src s') :: o :: st, e => cases o <;> (cases e; exact ⟨s', rfl⟩)
  | [some (.src s')], e => cases e
  | some (.sh _) :: _, e => cases e
  | some (.ol _ _) :: _, e => cases e
  | some (.od _ _) :: _, e => cases e
  | none :: _, e => cases e
  | [], e => cases e
end Pv

namespace Pv
open PySem PySem.Spec PyProof.Rows L2
/-! ### plain functions of data, on data laid from plain things -/
def rgZ (m n : Int) : List Int := (List.range (n - m).toNat).map fun (i : Nat) => m + (i : Int)
theorem rgD_Z (m n : Int) : rgD m (n - m).toNat = (rgZ m n).map PyData.int := by
  unfold rgD rgZ
  rw [List.map_map]; rfl
theorem mem_rgZ {m n x : Int} : x ∈ rgZ m n ↔ m ≤ x ∧ x < n := by
  unfold rgZ
  rw [List.mem_map]
  constructor
  · rintro ⟨i, hi, rfl⟩
    rw [List.mem_range] at hi
    omega
  · rintro ⟨h1, h2⟩
    exact ⟨(x - m).toNat, List.mem_range.mpr (by omega), by omega⟩
theorem rgZ_len (m n : Int) : (rgZ m n).length = (n - m).toNat := by unfold rgZ; rw [List.length_map, List.length_range]
theorem rgZ_asc (m n : Int) : (rgZ m n).Pairwise (· < ·) := by
  unfold rgZ
  rw [List.pairwise_map]
  exact List.pairwise_lt_range.imp fun h => by omega
theorem rgZ_upTo (n : Nat) : rgZ 0 n = upTo n := by
  unfold rgZ upTo
  rw [show ((n : Int) - 0).toNat = n by omega]
  exact List.map_congr_left fun i _ => by omega
theorem rgZ_nil {m n : Int} (h : n ≤ m) : rgZ m n = [] := by
  unfold rgZ
  rw [show (n - m).toNat = 0 by omega]; rfl
theorem rgZ_cons {m n : Int} (h : m < n) : rgZ m n = m :: rgZ (m + 1) n := by
  unfold rgZ
  rw [show (n - m).toNat = (n - (m + 1)).toNat + 1 by omega, List.range_succ_eq_map, List.map_cons, List.map_map]
  refine congr (congrArg _ (by omega)) (List.map_congr_left fun i _ => ?_)
  show m + ((i + 1 : Nat) : Int) = m + 1 + (i : Int)
  omega
def big (i : Int) : Prop := -1000000 ≤ i ∧ i ≤ 1000000
section
variable {m n : Int}
theorem y_R1 (h : big n) : gR1 (.int n) = some ((rgZ 0 n).map .int) := by
  obtain ⟨h1, h2⟩ := h
  show (if -(2 ^ 62) ≤ n ∧ n < 2 ^ 62 then some (rgD 0 n.toNat) else none) = _
  rw [if_pos ⟨by omega, by omega⟩, ← rgD_Z, show n - 0 = n by omega]
theorem y_R2 (h0 : big m) (h : big n) : gR2 (.int m) (.int n) = some ((rgZ m n).map .int) := by
  obtain ⟨h1, h2⟩ := h
  obtain ⟨h3, h4⟩ := h0
  show (if -(2 ^ 62) ≤ m ∧ m < 2 ^ 62 ∧ -(2 ^ 62) ≤ n ∧ n < 2 ^ 62 then some (rgD m (n - m).toNat) else none) = _
  rw [if_pos ⟨by omega, by omega, by omega, by omega⟩, ← rgD_Z]
theorem limI : (LIM : Int) = 16000000 := rfl
theorem y_RL1 (h : big n) : gRL1 (.int n) = some ((rgZ 0 n).map .int) := by
  obtain ⟨h1, h2⟩ := h
  show (if n ≤ (LIM : Nat) ∧ -(2 ^ 62) ≤ n then some (rgD 0 n.toNat) else none) = _
  rw [if_pos ⟨by rw [limI]; omega, by omega⟩, ← rgD_Z, show n - 0 = n by omega]
theorem y_RL2 (h0 : big m) (h : big n) : gRL2 (.int m) (.int n) = some ((rgZ m n).map .int) := by
  obtain ⟨h1, h2⟩ := h
  obtain ⟨h3, h4⟩ := h0
  show (if -(2 ^ 61) ≤ m ∧ m ≤ 2 ^ 61 ∧ -(2 ^ 61) ≤ n ∧ n ≤ 2 ^ 61 ∧ n - m ≤ (LIM : Nat) then some (rgD m (n - m).toNat) else none) = _
  rw [if_pos ⟨by omega, by omega, by omega, by omega, by rw [limI]; omega⟩, ← rgD_Z]
end
/-! comprehensions -/
section
variable {α : Type} {e : α → PyData} {F : PyData → Option (Option PyData)} {G : PyData → Option PyData}
theorem compR_g (f : α → Option PyData) : ∀ {xs : List α}, (∀ x ∈ xs, F (e x) = some (f x)) → compR F (xs.map e) = some (xs.filterMap f)
  | [], _ => rfl
  | x :: xs, h => by
    rw [List.map_cons]
    show (F (e x)).bind _ = _
    rw [h x List.mem_cons_self, Option.bind_some, compR_g f (xs := xs) fun y hy => h y (List.mem_cons_of_mem _ hy), Option.bind_some, List.filterMap_cons]
    cases f x <;> rfl
theorem compX_g (f : α → Option PyData) {xs : List α} (hl : xs.length ≤ LIM) (h : ∀ x ∈ xs, F (e x) = some (f x)) : compX F (xs.map e) = some (xs.filterMap f) := by
  unfold compX
  rw [if_pos (by rw [List.length_map]; exact hl)]
  exact compR_g f h
/-- those that pass, each made anew -/
theorem compX_f (q : α → Bool) (f : α → PyData) {xs : List α} (hl : xs.length ≤ LIM) (h : ∀ x ∈ xs, F (e x) = some (if q x = true then some (f x) else none)) : compX F (xs.map e) = some ((xs.filter q).map f) := by
  rw [compX_g (fun x => if q x = true then some (f x) else none) hl h, filterMap_if]
theorem compM_m (f : α → PyData) {xs : List α} (hl : xs.length ≤ LIM) (h : ∀ x ∈ xs, G (e x) = some (f x)) : compM G (xs.map e) = some (xs.map f) := by
  show compX (fun d => (G d).bind fun y => some (some y)) (xs.map e) = _
  rw [compX_g (fun x => some (f x)) hl fun x hx => by rw [h x hx]; rfl, List.filterMap_eq_map']
end
/-! loops -/
section
variable {α β ρ : Type} {F : PyData → α → Option α} {K : PyData → α → Option (Rx ρ α)}
theorem foldX_inv (P : Nat → α → Prop) : ∀ (ds : List PyData) (k : Nat) (v : α), (∀ i d v, ds[i]? = some d → P (k + i) v → ∃ v', F d v = some v' ∧ P (k + i + 1) v') → P k v → ∃ v', foldX F ds v = some v' ∧ P (k + ds.length) v'
  | [], k, v, _, p => ⟨v, rfl, p⟩
  | d :: ds, k, v, h, p => by
    obtain ⟨v1, e1, p1⟩ := h 0 d v rfl p
    obtain ⟨v2, e2, p2⟩ := foldX_inv P ds (k + 1) v1 (fun i d v e q => by
      have := h (i + 1) d v (by simpa using e) (by rw [show k + (i + 1) = k + 1 + i by omega]; exact q)
      rw [show k + (i + 1) + 1 = k + 1 + i + 1 by omega] at this
      exact this) p1
    refine ⟨v2, ?_, by rw [List.length_cons, show k + (ds.length + 1) = k + 1 + ds.length by omega]; exact p2⟩
    show (F d v).bind _ = _
    rw [e1]; exact e2
theorem foldX_go (P : Nat → α → Prop) (ds : List PyData) (v : α) (h : ∀ i d v, ds[i]? = some d → P i v → ∃ v', F d v = some v' ∧ P (i + 1) v') (p : P 0 v) : ∃ v', foldX F ds v = some v' ∧ P ds.length v' := by
  have := foldX_inv (F := F) P ds 0 v (fun i d v e q => by rw [Nat.zero_add] at q ⊢; exact h i d v e q) p
  rwa [Nat.zero_add] at this
/-- a fold over plain things -/
theorem foldX_l {γ : Type} (e : γ → PyData) (w : β → α) (f : β → γ → β) (I : β → Prop) : ∀ (xs : List γ) (b : β), I b → (∀ x ∈ xs, ∀ b, I b → F (e x) (w b) = some (w (f b x)) ∧ I (f b x)) → foldX F (xs.map e) (w b) = some (w (xs.foldl f b)) ∧ I (xs.foldl f b)
  | [], b, hb, _ => ⟨rfl, hb⟩
  | x :: xs, b, hb, h => by
    obtain ⟨h1, h2⟩ := h x List.mem_cons_self b hb
    have ih := foldX_l e w f I xs (f b x) h2 fun y hy => h y (List.mem_cons_of_mem _ hy)
    refine ⟨?_, ih.2⟩
    rw [List.map_cons]
    show (F (e x) (w b)).bind _ = _
    rw [h1]; exact ih.1
theorem forX_inv (P : Nat → α → Prop) : ∀ (ds : List PyData) (k : Nat) (v : α), (∀ i d v, ds[i]? = some d → P (k + i) v → ∃ v', K d v = some (.nxt v') ∧ P (k + i + 1) v') → P k v → ∃ v', forX K ds v = some (.inr v') ∧ P (k + ds.length) v'
  | [], k, v, _, p => ⟨v, rfl, p⟩
  | d :: ds, k, v, h, p => by
    obtain ⟨v1, e1, p1⟩ := h 0 d v rfl p
    obtain ⟨v2, e2, p2⟩ := forX_inv P ds (k + 1) v1 (fun i d v e q => by
      have := h (i + 1) d v (by simpa using e) (by rw [show k + (i + 1) = k + 1 + i by omega]; exact q)
      rw [show k + (i + 1) + 1 = k + 1 + i + 1 by omega] at this
      exact this) p1
    refine ⟨v2, ?_, by rw [List.length_cons, show k + (ds.length + 1) = k + 1 + ds.length by omega]; exact p2⟩
    show (K d v).bind _ = _
    rw [e1]; exact e2
theorem forX_go (P : Nat → α → Prop) (ds : List PyData) (v : α) (h : ∀ i d v, ds[i]? = some d → P i v → ∃ v', K d v = some (.nxt v') ∧ P (i + 1) v') (p : P 0 v) : ∃ v', forX K ds v = some (.inr v') ∧ P ds.length v' := by
  have := forX_inv (K := K) P ds 0 v (fun i d v e q => by rw [Nat.zero_add] at q ⊢; exact h i d v e q) p
  rwa [Nat.zero_add] at this
/-- a search: the first that answers -/
theorem forX_find {γ : Type} (e : γ → PyData) (f : γ → Option ρ) (w : α) : ∀ (xs : List γ), (∀ x ∈ xs, K (e x) w = some (match f x with
  | some a => .ret a
  | none => .nxt w)) → forX K (xs.map e) w = some (match xs.findSome? f with
  | some a => .inl a
  | none => .inr w)
  | [], _ => rfl
  | x :: xs, h => by
    have h1 := h x List.mem_cons_self
    have ih := forX_find e f w xs fun y hy => h y (List.mem_cons_of_mem _ hy)
    rw [List.map_cons]
    show (K (e x) w).bind _ = _
    rw [h1, Option.bind_some, List.findSome?_cons]
    cases f x with
    | none => exact ih
    | some a => rfl
theorem whileX_go {t : α → Option Bool} {B : α → Option (Rx ρ α)} (P : Nat → α → Prop) (Q : α → Prop) (h : ∀ m v, P m v → (t v = some false ∧ Q v) ∨ (t v = some true ∧ ∃ v' m', B v = some (.nxt v') ∧ m' < m ∧ P m' v')) : ∀ (n m : Nat) (v : α), m < n → P m v → ∃ v', whileX t B n v = some (.inr v') ∧ Q v'
  | 0, m, v, hm, _ => absurd hm (Nat.not_lt_zero _)
  | n + 1, m, v, hm, p => by
    rcases h m v p with ⟨e1, q⟩ | ⟨e1, v', m', e2, hl, p2⟩
    · refine ⟨v, ?_, q⟩
      show (t v).bind _ = _
      rw [e1]; rfl
    · obtain ⟨v2, e3, q⟩ := whileX_go P Q h n m' v' (by omega) p2
      refine ⟨v2, ?_, q⟩
      show (t v).bind _ = _
      rw [e1, Option.bind_some, cond_true, e2]
      exact e3
end
@[simp] theorem unInr_l' {ρ α β : Type} (a : ρ) (kl : ρ → Option β) (kr : α → Option β) : unInr (.inl a) kl kr = kl a := rfl
@[simp] theorem unInr_r' {ρ α β : Type} (v : α) (kl : ρ → Option β) (kr : α → Option β) : unInr (.inr v) kl kr = kr v := rfl
@[simp] theorem y_asB (b : Bool) : asB (.bool b) = some b := rfl
@[simp] theorem y_asI (i : Int) : asI (.int i) = some i := rfl
@[simp] theorem y_seqL (l : List PyData) : seqD (.list l) = some l := rfl
@[simp] theorem y_seqT (l : List PyData) : seqD (.tuple l) = some l := rfl
@[simp] theorem y_un2 {β : Type} (a b : PyData) (K : PyData → PyData → Option β) : unT2 (.tuple [a, b]) K = K a b := rfl
@[simp] theorem y_un3 {β : Type} (a b c : PyData) (K : PyData → PyData → PyData → Option β) : unT3 (.tuple [a, b, c]) K = K a b c := rfl
@[simp] theorem y_un4 {β : Type} (a b c d : PyData) (K : PyData → PyData → PyData → PyData → Option β) : unT4 (.tuple [a, b, c, d]) K = K a b c d := rfl
@[simp] theorem y_unl2 {β : Type} (a b : PyData) (K : PyData → PyData → Option β) : unL2 (.list [a, b]) K = K a b := rfl
@[simp] theorem y_noD (b : Bool) : noD (.bool b) = some (.bool (!b)) := rfl
@[simp] theorem y_trB (b : Bool) : truD (.bool b) = some b := rfl
@[simp] theorem y_trI (i : Int) : truD (.int i) = some (i != 0) := rfl
@[simp] theorem y_trL (l : List PyData) : truD (.list l) = some (!l.isEmpty) := rfl
@[simp] theorem y_trT (l : List PyData) : truD (.tuple l) = some (!l.isEmpty) := rfl
@[simp] theorem y_ix20 (a b : PyData) : gIx2 (.tuple [a, b]) (.int 0) = some a := rfl
@[simp] theorem y_ix21 (a b : PyData) : gIx2 (.tuple [a, b]) (.int 1) = some b := rfl
@[simp] theorem y_ix30 (a b c : PyData) : gIx2 (.tuple [a, b, c]) (.int 0) = some a := rfl
@[simp] theorem y_ix31 (a b c : PyData) : gIx2 (.tuple [a, b, c]) (.int 1) = some b := rfl
@[simp] theorem y_ix32 (a b c : PyData) : gIx2 (.tuple [a, b, c]) (.int 2) = some c := rfl
@[simp] theorem y_ix10 (a : PyData) : gIx2 (.tuple [a]) (.int 0) = some a := rfl
@[simp] theorem y_sl2 (a b c : PyData) : gSl (.tuple [a, b, c]) none (some 2) = some (.tuple [a, b]) := rfl
theorem mkT_some {l : List PyData} (h : l.length ≤ LIM) : mkT l = some (.tuple l) := if_pos h
theorem apX_some {l : List PyData} {d : PyData} (h : l.length < LIM) : apX l d = some (l ++ [d]) := if_pos h
theorem exX_some {l es : List PyData} (h : l.length + es.length ≤ LIM) : exX l (.list es) = some (l ++ es) := if_pos h
theorem addL_some {l es : List PyData} (h : l.length + es.length ≤ LIM) : gAdd (.list l) (.list es) = some (.list (l ++ es)) := if_pos h
theorem addT_some {l es : List PyData} (h : l.length + es.length ≤ LIM) : gAdd (.tuple l) (.tuple es) = some (.tuple (l ++ es)) := if_pos h
end Pv

namespace Pv
open PySem PySem.Spec PyProof.Rows L2
section
variable (p q : Bool) (a b c : PyData)
theorem y_c1 : cond p (some (PyData.bool q)) (some (.bool false)) = some (.bool (p && q)) := by cases p <;> rfl
theorem y_c2 : cond p (some (PyData.bool true)) (some (.bool q)) = some (.bool (p || q)) := by cases p <;> rfl
theorem y_c3 : cond p (some q) (some false) = some (p && q) := by cases p <;> rfl
theorem y_c4 : cond p (some true) (some q) = some (p || q) := by cases p <;> rfl
theorem y_c5 {α : Type} (x : α) : cond p (some (some x)) (some none) = some (if p = true then some x else none) := by cases p <;> rfl
theorem y_c6 : cond (decide (p = true)) a b = cond p a b := by cases p <;> rfl
theorem y_bool_dec : decide (p = true) = p := by cases p <;> rfl
end
theorem y_tupL (d : List PyData) : gTuple (.list d) = some (.tuple d) := rfl
theorem y_tupT (d : List PyData) : gTuple (.tuple d) = some (.tuple d) := rfl
theorem y_lenT (r : List Int) : gLen2 (.tuple (r.map .int)) = some (.int r.length) := by rw [s_len4, List.length_map]
theorem y_lenL (r : List Int) : gLen2 (.list (r.map .int)) = some (.int r.length) := by rw [s_len3, List.length_map]
theorem y_inT (r : List Int) (x : Int) : gIn2 (.int x) (.tuple (r.map .int)) = some (.bool (decide (x ∈ r))) := in_T r x
theorem y_inL (r : List Int) (x : Int) : gIn2 (.int x) (.list (r.map .int)) = some (.bool (decide (x ∈ r))) := in_L r x
theorem y_ninT (r : List Int) (x : Int) : gNotIn2 (.int x) (.tuple (r.map .int)) = some (.bool (!decide (x ∈ r))) := nin_T r x
theorem y_ninL (r : List Int) (x : Int) : gNotIn2 (.int x) (.list (r.map .int)) = some (.bool (!decide (x ∈ r))) := by
  show gNotIn (.int x) (iL r) = _
  show (if okE (.int x) = true ∧ okE (iL r) = true then some (PyData.bool (!((r.map PyData.int).any fun z => PyData.eqv z (.int x)))) else none) = _
  rw [if_pos ⟨rfl, okE_L r⟩, any_int]
theorem y_eqI (x y : Int) : gEq (.int x) (.int y) = some (.bool (decide (x = y))) := by
  show some (PyData.bool (PyData.eqv (.int x) (.int y))) = _
  rw [eqv_int]
theorem y_neI (x y : Int) : gNe (.int x) (.int y) = some (.bool (!decide (x = y))) := by
  show some (PyData.bool (!PyData.eqv (.int x) (.int y))) = _
  rw [eqv_int]
theorem y_eqT (r s : List Int) : gEq (.tuple (r.map .int)) (.tuple (s.map .int)) = some (.bool (decide (r = s))) := by
  show (if okE (iT r) = true ∧ okE (iT s) = true then some (PyData.bool (PyData.eqv (iT r) (iT s))) else none) = _
  rw [if_pos ⟨okE_T r, okE_T s⟩, eqv_T]
theorem y_neT (r s : List Int) : gNe (.tuple (r.map .int)) (.tuple (s.map .int)) = some (.bool (!decide (r = s))) := ne_T r s
theorem y_eqL (r s : List Int) : gEq (.list (r.map .int)) (.list (s.map .int)) = some (.bool (decide (r = s))) := by
  show (if okE (iL r) = true ∧ okE (iL s) = true then some (PyData.bool (PyData.eqv (iL r) (iL s))) else none) = _
  rw [if_pos ⟨okE_L r, okE_L s⟩, eqv_L]
theorem y_neL (r s : List Int) : gNe (.list (r.map .int)) (.list (s.map .int)) = some (.bool (!decide (r = s))) := ne_L r s
theorem y_eqL0 (r : List Int) : gEq (.list (r.map .int)) (.list []) = some (.bool (decide (r = []))) := y_eqL r []
theorem y_neL0 (r : List Int) : gNe (.list (r.map .int)) (.list []) = some (.bool (!decide (r = []))) := y_neL r []
theorem y_eqB (a b : Bool) : gEq (.bool a) (.bool b) = some (.bool (a == b)) := eqB a b
theorem y_neB (a b : Bool) : gNe (.bool a) (.bool b) = some (.bool (a != b)) := neB a b
theorem y_sort (r : List Int) : gSort3 (.list (r.map .int)) = some ((sortI r).map .int) := by
  show gSort2 (.list (r.map .int)) = _
  unfold gSort2
  simp only [intsOf_map]
theorem y_sortT {r : List Int} (h : r.length ≤ LIM) : gSort3 (.tuple (r.map .int)) = some ((sortI r).map .int) := gSort3_ints h
theorem y_rev (r : List Int) : gRevT (.tuple (r.map .int)) = some (PyData.tuple (r.reverse.map PyData.int)) := by
  show some (PyData.tuple (r.map PyData.int).reverse) = _
  rw [List.map_reverse]
theorem y_ixT {r : List Int} {k : Int} (h0 : 0 ≤ k) (h : k < r.length) : gIx2 (.tuple (r.map .int)) (.int k) = some (.int (r.getD k.toNat 0)) := by
  obtain ⟨n, rfl⟩ : ∃ n : Nat, k = (n : Int) := ⟨k.toNat, by omega⟩
  exact ix_T (by omega)
theorem y_ixL {r : List Int} {k : Int} (h0 : 0 ≤ k) (h : k < r.length) : gIx2 (.list (r.map .int)) (.int k) = some (.int (r.getD k.toNat 0)) := by
  obtain ⟨n, rfl⟩ : ∃ n : Nat, k = (n : Int) := ⟨k.toNat, by omega⟩
  exact atI_get (by omega)
theorem y_slFT {l : List PyData} {k : Int} (h0 : 0 ≤ k) (h : k ≤ l.length) : gSl (.tuple l) (some k) none = some (.tuple (l.drop k.toNat)) := by
  obtain ⟨n, rfl⟩ : ∃ n : Nat, k = (n : Int) := ⟨k.toNat, by omega⟩
  show some (PyData.tuple (cut l _ _)) = _
  rw [cut_from (by omega)]; rfl
theorem y_slFL {l : List PyData} {k : Int} (h0 : 0 ≤ k) (h : k ≤ l.length) : gSl (.list l) (some k) none = some (.list (l.drop k.toNat)) := by
  obtain ⟨n, rfl⟩ : ∃ n : Nat, k = (n : Int) := ⟨k.toNat, by omega⟩
  show some (PyData.list (cut l _ _)) = _
  rw [cut_from (by omega)]; rfl
theorem y_slTT {l : List PyData} {k : Int} (h0 : 0 ≤ k) (h : k ≤ l.length) : gSl (.tuple l) none (some k) = some (.tuple (l.take k.toNat)) := by
  obtain ⟨n, rfl⟩ : ∃ n : Nat, k = (n : Int) := ⟨k.toNat, by omega⟩
  show some (PyData.tuple (cut l _ _)) = _
  rw [cut_to (by omega)]; rfl
theorem y_slTL {l : List PyData} {k : Int} (h0 : 0 ≤ k) (h : k ≤ l.length) : gSl (.list l) none (some k) = some (.list (l.take k.toNat)) := by
  obtain ⟨n, rfl⟩ : ∃ n : Nat, k = (n : Int) := ⟨k.toNat, by omega⟩
  show some (PyData.list (cut l _ _)) = _
  rw [cut_to (by omega)]; rfl
theorem y_slMT {l : List PyData} {j k : Int} (h0 : 0 ≤ j) (h1 : j ≤ k) (h : k ≤ l.length) : gSl (.tuple l) (some j) (some k) = some (.tuple ((l.drop j.toNat).take (k.toNat - j.toNat))) := by
  obtain ⟨n, rfl⟩ : ∃ n : Nat, k = (n : Int) := ⟨k.toNat, by omega⟩
  obtain ⟨m, rfl⟩ : ∃ n : Nat, j = (n : Int) := ⟨j.toNat, by omega⟩
  show some (PyData.tuple (cut l _ _)) = _
  rw [cut_mid (by omega) (by omega)]; rfl
theorem y_fdiv {i j : Int} (h : 0 < j ∧ j < 1073741824) : gFdiv (.int i) (.int j) = some (.int (i / j)) := by rw [s_fdiv, if_pos h]
theorem y_mod {i j : Int} (h : 0 < j) : gMod (.int i) (.int j) = some (.int (i % j)) := by rw [s_mod, if_pos h]
theorem y_mul {i j : Int} (h : big i) : gMul (.int i) (.int j) = some (.int (i * j)) := by
  obtain ⟨h1, h2⟩ := h
  rw [s_mul, if_pos (.inl ⟨by omega, by omega⟩)]
theorem y_allB (l : List Bool) : gAll (.list (l.map .bool)) = some (.bool (l.all id)) := by
  have : ∀ l : List Bool, boolsOf (l.map .bool) = some l := fun l => by
    induction l with
    | nil => rfl
    | cons b l ih => show (boolsOf (l.map PyData.bool)).map _ = _; rw [ih]; rfl
  show (boolsOf _).map _ = _
  rw [this]; rfl
theorem y_anyB (l : List Bool) : gAny (.list (l.map .bool)) = some (.bool (l.any id)) := by
  have : ∀ l : List Bool, boolsOf (l.map .bool) = some l := fun l => by
    induction l with
    | nil => rfl
    | cons b l ih => show (boolsOf (l.map PyData.bool)).map _ = _; rw [ih]; rfl
  show (boolsOf _).map _ = _
  rw [this]; rfl
theorem y_lim {n : Nat} (h : n ≤ 1000) : n ≤ LIM := small_lim h
theorem big_of {i : Int} (h0 : -1000 ≤ i) (h1 : i ≤ 1000) : big i := ⟨by omega, by omega⟩
end Pv

namespace Pv
open PySem PySem.Spec PyProof.Rows L2
/-! ### dicts, by their keys -/
structure KeyE {κ : Type} (ek : κ → PyData) : Prop where
  kn : (∀ k, isKk (ek k) = true) ∨ (∀ k, isKn (ek k) = true)
  eqv : ∀ a b, PyData.eqv (ek a) (ek b) = true ↔ a = b
def dF {κ : Type} (ek : κ → PyData) (f : κ → PyData) (ks : List κ) : List (PyData × PyData) := ks.map fun k => (ek k, f k)
section
variable {κ : Type} [BEq κ] [LawfulBEq κ] {ek : κ → PyData} (E : KeyE ek) (f : κ → PyData) (ks : List κ) (k : κ)
include E
theorem dF_ok : dOK (dF ek f ks) (ek k) = true := by
  unfold dOK dF
  rcases E.kn with h | h
  · rw [Bool.or_eq_true]
    refine .inl ?_
    rw [h k, Bool.true_and, List.all_map, List.all_eq_true]
    exact fun x _ => h x
  · rw [Bool.or_eq_true]
    refine .inr ?_
    rw [h k, Bool.true_and, List.all_map, List.all_eq_true]
    exact fun x _ => h x
theorem dF_get : dGet (dF ek f ks) (ek k) = if k ∈ ks then some (f k) else none := by
  induction ks with
  | nil => rfl
  | cons q ks ih =>
    show dGet ((ek q, f q) :: dF ek f ks) (ek k) = _
    rw [dGet_cons]
    show (if PyData.eqv (ek q) (ek k) = true then some (f q) else _) = _
    by_cases e : q = k
    · subst e; rw [if_pos ((E.eqv q q).mpr rfl)]; simp
    · rw [if_neg (fun z => e ((E.eqv q k).mp z)), ih]
      have : k ∈ q :: ks ↔ k ∈ ks := ⟨fun h => (List.mem_cons.mp h).resolve_left fun z => e z.symm, fun h => List.mem_cons_of_mem _ h⟩
      simp only [this]
theorem dF_in : gIn2 (ek k) (.dict (dF ek f ks)) = some (.bool (decide (k ∈ ks))) := by
  show (if dOK (dF ek f ks) (ek k) = true then some (PyData.bool (dGet (dF ek f ks) (ek k)).isSome) else none) = _
  rw [if_pos (dF_ok E f ks k), dF_get E]
  by_cases h : k ∈ ks <;> simp [h]
theorem dF_nin : gNotIn2 (ek k) (.dict (dF ek f ks)) = some (.bool (!decide (k ∈ ks))) := by
  show (if dOK (dF ek f ks) (ek k) = true then some (PyData.bool (!(dGet (dF ek f ks) (ek k)).isSome)) else none) = _
  rw [if_pos (dF_ok E f ks k), dF_get E]
  by_cases h : k ∈ ks <;> simp [h]
theorem dF_ix {k : κ} (h : k ∈ ks) : gIx2 (.dict (dF ek f ks)) (ek k) = some (f k) := by
  rw [s_ix5, if_pos (dF_ok E f ks k), dF_get E, if_pos h]
def updF (f : κ → PyData) (k : κ) (v : PyData) : κ → PyData := fun x => if (x == k) = true then v else f x
theorem dF_new {k : κ} (v : PyData) (h : k ∉ ks) : dPut (dF ek f ks) (ek k) v = dF ek (updF f k v) (ks ++ [k]) := by
  unfold dPut
  rw [dF_get E, if_neg h]
  rw [if_neg (by decide)]
  unfold dF
  rw [List.map_append]
  refine congr (congrArg _ (List.map_congr_left fun x hx => ?_)) ?_
  · have : x ≠ k := fun e => h (e ▸ hx)
    simp [updF, this]
  · simp [updF]
theorem dF_old {k : κ} (v : PyData) (h : k ∈ ks) : dPut (dF ek f ks) (ek k) v = dF ek (updF f k v) ks := by
  unfold dPut
  rw [dF_get E, if_pos h]
  simp only [Option.isSome_some, if_true]
  unfold dF
  rw [List.map_map]
  refine List.map_congr_left fun x _ => ?_
  show (if PyData.eqv (ek x) (ek k) = true then (ek x, v) else (ek x, f x)) = _
  by_cases e : x = k
  · subst e; rw [if_pos ((E.eqv x x).mpr rfl)]; simp [updF]
  · rw [if_neg fun z => e ((E.eqv x k).mp z)]; simp [e, updF]
theorem dF_dp {k : κ} (v : PyData) (h : k ∉ ks) (hl : ks.length < LIM) : dpX (dF ek f ks) (ek k) v = some (dF ek (updF f k v) (ks ++ [k])) := by
  unfold dpX
  rw [if_pos ⟨dF_ok E f ks k, by unfold dF; rw [List.length_map]; exact hl⟩, dF_new E f ks v h]
theorem dF_dpo {k : κ} (v : PyData) (h : k ∈ ks) (hl : ks.length < LIM) : dpX (dF ek f ks) (ek k) v = some (dF ek (updF f k v) ks) := by
  unfold dpX
  rw [if_pos ⟨dF_ok E f ks k, by unfold dF; rw [List.length_map]; exact hl⟩, dF_old E f ks v h]
omit E in
theorem dF_keys : dKeys (dF ek f ks) = ks.map ek := by unfold dKeys dF; rw [List.map_map]; rfl
omit E in
theorem dF_len : (dF ek f ks).length = ks.length := by unfold dF; rw [List.length_map]
/-- of one value for all -/
abbrev dS (ek : κ → PyData) (v : PyData) (ks : List κ) : List (PyData × PyData) := dF ek (fun _ => v) ks
theorem upd_const (v : PyData) (k : κ) : updF (fun _ => v) k v = fun (_ : κ) => v := by
  funext x; unfold updF; split <;> rfl
def addK (ks : List κ) (k : κ) : List κ := if k ∈ ks then ks else ks ++ [k]
theorem dS_put (v : PyData) : dPut (dS ek v ks) (ek k) v = dS ek v (addK ks k) := by
  unfold addK
  by_cases h : k ∈ ks
  · rw [dF_old E _ _ _ h, upd_const E, if_pos h]
  · rw [dF_new E _ _ _ h, upd_const E, if_neg h]
def addKs (ks more : List κ) : List κ := more.foldl addK ks
theorem dS_merge (v : PyData) : ∀ (more ks : List κ), dMerge (dS ek v ks) (dS ek v more) = dS ek v (addKs ks more)
  | [], ks => rfl
  | k :: more, ks => by
    show dMerge (dS ek v ks) ((ek k, v) :: dS ek v more) = _
    rw [dMerge_cons, dS_put E, dS_merge v more]
    rfl
omit E in
theorem mem_addK {ks : List κ} {k x : κ} : x ∈ addK ks k ↔ x ∈ ks ∨ x = k := by
  unfold addK
  split
  · rename_i h
    exact ⟨.inl, fun c => c.elim id fun e => e ▸ h⟩
  · rw [List.mem_append, List.mem_singleton]
omit E in
theorem mem_addKs {x : κ} : ∀ {more ks : List κ}, x ∈ addKs ks more ↔ x ∈ ks ∨ x ∈ more
  | [], ks => by simp [addKs]
  | k :: more, ks => by
    show x ∈ addKs (addK ks k) more ↔ _
    rw [mem_addKs, mem_addK, List.mem_cons, or_assoc]
omit E in
theorem addK_nd {ks : List κ} {k : κ} (h : ks.Nodup) : (addK ks k).Nodup := by
  unfold addK
  split
  · exact h
  · rename_i c
    rw [List.nodup_append]
    exact ⟨h, by simp, fun a ha b hb e => c (by rw [List.mem_singleton] at hb; rw [← hb, ← e]; exact ha)⟩
omit E in
theorem addKs_nd : ∀ {more ks : List κ}, ks.Nodup → (addKs ks more).Nodup
  | [], ks, h => h
  | k :: more, ks, h => addKs_nd (more := more) (addK_nd h)
omit E in
theorem addKs_new : ∀ {more ks : List κ}, (ks ++ more).Nodup → addKs ks more = ks ++ more
  | [], ks, _ => by simp [addKs]
  | k :: more, ks, h => by
    have hk : k ∉ ks := fun z => (List.nodup_append.mp h).2.2 k z k List.mem_cons_self rfl
    show addKs (addK ks k) more = _
    unfold addK
    rw [if_neg hk]
    have e : ks ++ [k] ++ more = ks ++ k :: more := by rw [List.append_assoc]; rfl
    rw [addKs_new (by rw [e]; exact h), e]
omit E in
theorem addKs_len : ∀ {more ks : List κ}, (addKs ks more).length ≤ ks.length + more.length
  | [], ks => Nat.le_refl _
  | k :: more, ks => by
    show (addKs (addK ks k) more).length ≤ _
    have h1 := addKs_len (more := more) (ks := addK ks k)
    have h2 : (addK ks k).length ≤ ks.length + 1 := by unfold addK; split <;> simp
    rw [List.length_cons]; omega
theorem dF_kind : kindOK (dF ek f ks) = true := by
  unfold kindOK dF
  rcases E.kn with h | h
  · rw [Bool.or_eq_true]; refine .inl ?_
    rw [List.all_map, List.all_eq_true]; exact fun x _ => h x
  · rw [Bool.or_eq_true]; refine .inr ?_
    rw [List.all_map, List.all_eq_true]; exact fun x _ => h x
omit E [BEq κ] [LawfulBEq κ] in
theorem gPairs_F : ∀ ks : List κ, gPairs (ks.map fun k => .tuple [ek k, f k]) = some (dF ek f ks)
  | [] => rfl
  | k :: ks => by
    rw [List.map_cons]
    show (gPairs _).map _ = _
    rw [gPairs_F ks]; rfl
/-- dict(pairs), one value for all -/
theorem gDict_S (v : PyData) (hl : ks.length ≤ LIM) : gDict (.list (ks.map fun k => .tuple [ek k, v])) = some (dS ek v (addKs [] ks)) := by
  show (gPairs _).bind _ = _
  rw [gPairs_F (ek := ek) (fun _ => v) ks, Option.bind_some, if_pos ⟨dF_kind E _ ks, by rw [List.length_map]; exact hl⟩]
  have := dS_merge E v ks []
  exact congrArg some this
theorem dF_merge : ∀ (more ks : List κ), (ks ++ more).Nodup → dMerge (dF ek f ks) (dF ek f more) = dF ek f (ks ++ more)
  | [], ks, _ => by rw [List.append_nil]; rfl
  | k :: more, ks, h => by
    have hk : k ∉ ks := fun z => (List.nodup_append.mp h).2.2 k z k List.mem_cons_self rfl
    show dMerge (dF ek f ks) ((ek k, f k) :: dF ek f more) = _
    rw [dMerge_cons, dF_new E _ _ _ hk]
    have eu : updF f k (f k) = f := by
      funext x; unfold updF; split
      · rename_i e; rw [eq_of_beq e]
      · rfl
    have e : ks ++ [k] ++ more = ks ++ k :: more := by rw [List.append_assoc]; rfl
    rw [eu, dF_merge more (ks ++ [k]) (by rw [e]; exact h), e]
/-- dict(pairs), no key twice -/
theorem gDict_F (nd : ks.Nodup) (hl : ks.length ≤ LIM) : gDict (.list (ks.map fun k => .tuple [ek k, f k])) = some (dF ek f ks) := by
  show (gPairs _).bind _ = _
  rw [gPairs_F f ks, Option.bind_some, if_pos ⟨dF_kind E _ ks, by rw [List.length_map]; exact hl⟩]
  have := dF_merge E f ks [] (by simpa using nd)
  exact congrArg some this
/-- {key: value for ..}, one value for all -/
theorem dcR_S (v : PyData) {G : PyData → Option (Option (PyData × PyData))} : ∀ (more ks : List κ), (∀ k ∈ more, G (ek k) = some (some (ek k, v))) → ks.length + more.length ≤ LIM → dcR G (more.map ek) (dS ek v ks) = some (dS ek v (addKs ks more))
  | [], ks, _, _ => rfl
  | k :: more, ks, h, hl => by
    rw [List.map_cons]
    show (G (ek k)).bind _ = _
    rw [h k List.mem_cons_self, Option.bind_some]
    show (dpX (dS ek v ks) (ek k) v).bind _ = _
    rw [List.length_cons] at hl
    have e : dpX (dS ek v ks) (ek k) v = some (dS ek v (addK ks k)) := by
      unfold dpX
      rw [if_pos ⟨dF_ok E _ ks k, by rw [dF_len]; omega⟩, dS_put E]
    rw [e, Option.bind_some]
    refine dcR_S v more (addK ks k) (fun x hx => h x (List.mem_cons_of_mem _ hx)) ?_
    have h2 : (addK ks k).length ≤ ks.length + 1 := by unfold addK; split <;> simp
    omega
theorem dcX_S (v : PyData) {G : PyData → Option (Option (PyData × PyData))} (h : ∀ k ∈ ks, G (ek k) = some (some (ek k, v))) (hl : ks.length ≤ LIM) : dcX G (ks.map ek) = some (dS ek v (addKs [] ks)) := by
  unfold dcX
  rw [if_pos (by rw [List.length_map]; exact hl)]
  exact dcR_S E v ks [] h (by simpa using hl)
end
/-! keys: ints, rows of ints, pairs -/
theorem keyI : KeyE PyData.int := ⟨.inl fun _ => rfl, fun a b => by rw [eqv_int, decide_eq_true_eq]⟩
theorem keyP : KeyE enP := ⟨.inr fun _ => rfl, fun a b => by rw [eqv_enP, decide_eq_true_eq]⟩
theorem keysN_ints : ∀ r : List Int, keysN (r.map PyData.int) = some (r.map NestedKey.num)
  | [] => rfl
  | x :: r => by
    rw [List.map_cons]
    show (keyN (.int x)).bind _ = _
    show (keysN (r.map PyData.int)).map _ = _
    rw [keysN_ints r]; rfl
theorem depth_ints : ∀ r : List Int, NestedKey.depthAll (r.map NestedKey.num) = 0
  | [] => by simp [NestedKey.depthAll]
  | x :: r => by
    rw [List.map_cons, NestedKey.depthAll, depth_ints r, NestedKey.depth]; rfl
theorem isKn_T (r : List Int) : isKn (.tuple (r.map .int)) = true := by
  unfold isKn
  simp only [keysN_ints]
  refine decide_eq_true ?_
  rw [NestedKey.depth, depth_ints]; decide
theorem keyT : KeyE (fun r : List Int => .tuple (r.map .int)) := ⟨.inr isKn_T, fun a b => by rw [eqv_T, decide_eq_true_eq]⟩
end Pv
namespace Pv
open PySem PySem.Spec PyProof.Rows L2
section
variable {α β ρ γ : Type}
theorem fold_b {F : PyData → α → Option α} (P : Nat → α → Prop) {ds : List PyData} {v : α} {k : α → Option β} {r : β} (p : P 0 v) (h : ∀ i d v, ds[i]? = some d → P i v → ∃ v', F d v = some v' ∧ P (i + 1) v') (c : ∀ v, P ds.length v → k v = some r) : (foldX F ds v).bind k = some r := by
  obtain ⟨v', e, q⟩ := foldX_go P ds v h p
  rw [e]; exact c v' q
/-- .. where what comes is one of many -/
theorem fold_e {F : PyData → α → Option α} (P : Nat → α → Prop) {ds : List PyData} {v : α} {k : α → Option β} (R : β → Prop) (p : P 0 v) (h : ∀ i d v, ds[i]? = some d → P i v → ∃ v', F d v = some v' ∧ P (i + 1) v') (c : ∀ v, P ds.length v → ∃ r, k v = some r ∧ R r) : ∃ r, (foldX F ds v).bind k = some r ∧ R r := by
  obtain ⟨v', e, q⟩ := foldX_go P ds v h p
  rw [e]; exact c v' q
theorem fold_lb {F : PyData → α → Option α} (e : γ → PyData) {δ : Type} (w : δ → α) (f : δ → γ → δ) (I : δ → Prop) {xs : List γ} (b : δ) {k : α → Option β} {r : β} (hb : I b) (h : ∀ x ∈ xs, ∀ b, I b → F (e x) (w b) = some (w (f b x)) ∧ I (f b x)) (c : I (xs.foldl f b) → k (w (xs.foldl f b)) = some r) : (foldX F (xs.map e) (w b)).bind k = some r := by
  obtain ⟨h1, h2⟩ := foldX_l e w f I xs b hb h
  rw [h1]; exact c h2
theorem for_b {K : PyData → α → Option (Rx ρ α)} (P : Nat → α → Prop) {ds : List PyData} {v : α} {k : ρ ⊕ α → Option β} {r : β} (p : P 0 v) (h : ∀ i d v, ds[i]? = some d → P i v → ∃ v', K d v = some (.nxt v') ∧ P (i + 1) v') (c : ∀ v, P ds.length v → k (.inr v) = some r) : (forX K ds v).bind k = some r := by
  obtain ⟨v', e, q⟩ := forX_go P ds v h p
  rw [e]; exact c v' q
theorem for_e {K : PyData → α → Option (Rx ρ α)} (P : Nat → α → Prop) {ds : List PyData} {v : α} {k : ρ ⊕ α → Option β} (R : β → Prop) (p : P 0 v) (h : ∀ i d v, ds[i]? = some d → P i v → ∃ v', K d v = some (.nxt v') ∧ P (i + 1) v') (c : ∀ v, P ds.length v → ∃ r, k (.inr v) = some r ∧ R r) : ∃ r, (forX K ds v).bind k = some r ∧ R r := by
  obtain ⟨v', e, q⟩ := forX_go P ds v h p
  rw [e]; exact c v' q
theorem for_fb {K : PyData → α → Option (Rx ρ α)} (e : γ → PyData) (f : γ → Option ρ) {w : α} {xs : List γ} {k : ρ ⊕ α → Option β} {r : β} (h : ∀ x ∈ xs, K (e x) w = some (match f x with
  | some a => .ret a
  | none => .nxt w)) (c : k (match xs.findSome? f with
  | some a => .inl a
  | none => .inr w) = some r) : (forX K (xs.map e) w).bind k = some r := by
  rw [forX_find e f w xs h]; exact c
theorem while_b {t : α → Option Bool} {B : α → Option (Rx ρ α)} (P : Nat → α → Prop) (Q : α → Prop) {v : α} {k : ρ ⊕ α → Option β} {r : β} (m : Nat) (hm : m < 1000000) (p : P m v) (h : ∀ m v, P m v → (t v = some false ∧ Q v) ∨ (t v = some true ∧ ∃ v' m', B v = some (.nxt v') ∧ m' < m ∧ P m' v')) (c : ∀ v, Q v → k (.inr v) = some r) : (whileX t B WF v).bind k = some r := by
  obtain ⟨v', e, q⟩ := whileX_go P Q h WF m v hm p
  rw [e]; exact c v' q
theorem while_e {t : α → Option Bool} {B : α → Option (Rx ρ α)} (P : Nat → α → Prop) (Q : α → Prop) {v : α} {k : ρ ⊕ α → Option β} (R : β → Prop) (m : Nat) (hm : m < 1000000) (p : P m v) (h : ∀ m v, P m v → (t v = some false ∧ Q v) ∨ (t v = some true ∧ ∃ v' m', B v = some (.nxt v') ∧ m' < m ∧ P m' v')) (c : ∀ v, Q v → ∃ r, k (.inr v) = some r ∧ R r) : ∃ r, (whileX t B WF v).bind k = some r ∧ R r := by
  obtain ⟨v', e, q⟩ := whileX_go P Q h WF m v hm p
  rw [e]; exact c v' q
inductive Al {γ δ : Type} (o : γ → δ → Prop) : List γ → List δ → Prop
  | nil : Al o [] []
  | cons {x : γ} {y : δ} {xs : List γ} {ys : List δ} : o x y → Al o xs ys → Al o (x :: xs) (y :: ys)
/-- a drawing comprehension -/
theorem compS_e {F : PyData → Src → Option (Option PyData × Src)} {k : List PyData × Src → Option β} (e : γ → PyData) (o : γ → Option PyData → Prop) (R : β → Prop) : ∀ {xs : List γ} {s : Src}, xs.length ≤ LIM → SI s → (∀ x ∈ xs, ∀ s, SI s → ∃ y s', F (e x) s = some (y, s') ∧ o x y ∧ SI s') → (∀ ys s', Al o xs ys → SI s' → ∃ r, k (ys.filterMap id, s') = some r ∧ R r) → ∃ r, (compS F (xs.map e) s).bind k = some r ∧ R r := fun {xs s} hl hs h c => by
  have key : ∀ (xs : List γ) (s : Src), SI s → (∀ x ∈ xs, ∀ s, SI s → ∃ y s', F (e x) s = some (y, s') ∧ o x y ∧ SI s') → ∃ ys s', compSR F (xs.map e) s = some (ys.filterMap id, s') ∧ Al o xs ys ∧ SI s' := fun xs => by
    induction xs with
    | nil => intro s hs _; exact ⟨[], s, rfl, .nil, hs⟩
    | cons x xs ih =>
      intro s hs h
      obtain ⟨y, s1, e1, o1, h1⟩ := h x List.mem_cons_self s hs
      obtain ⟨ys, s2, e2, o2, h2⟩ := ih s1 h1 fun z hz => h z (List.mem_cons_of_mem _ hz)
      refine ⟨y :: ys, s2, ?_, .cons o1 o2, h2⟩
      rw [List.map_cons]
      show (F (e x) s).bind _ = _
      rw [e1, Option.bind_some]
      show (compSR F (xs.map e) s1).bind _ = _
      rw [e2, Option.bind_some]
      cases y <;> rfl
  obtain ⟨ys, s', e1, o1, h1⟩ := key xs s hs h
  unfold compS
  rw [if_pos (by rw [List.length_map]; exact hl), e1]
  exact c ys s' o1 h1
end
end Pv
namespace Pv
open PySem PySem.Spec PyProof.Rows L2
section
variable {β γ : Type}
/-- .. that leaves some out -/
theorem compS_sub {F : PyData → Src → Option (Option PyData × Src)} {k : List PyData × Src → Option β} (e : γ → PyData) (R : β → Prop) {xs : List γ} {s : Src} (hl : xs.length ≤ LIM) (hs : SI s) (h : ∀ x ∈ xs, ∀ s, SI s → ∃ (b : Bool) (s' : Src), F (e x) s = some (if b = true then some (e x) else none, s') ∧ SI s') (c : ∀ (zs : List γ) (s' : Src), zs.Sublist xs → SI s' → ∃ r, k (zs.map e, s') = some r ∧ R r) : ∃ r, (compS F (xs.map e) s).bind k = some r ∧ R r := by
  refine compS_e e (fun x y => y = none ∨ y = some (e x)) R hl hs (fun x hx s hs => ?_) fun ys s' al hs' => ?_
  · obtain ⟨b, s', e1, h1⟩ := h x hx s hs
    refine ⟨_, s', e1, ?_, h1⟩
    cases b
    · exact .inl rfl
    · exact .inr rfl
  · have key : ∀ {xs : List γ} {ys : List (Option PyData)}, Al (fun x y => y = none ∨ y = some (e x)) xs ys → ∃ zs : List γ, ys.filterMap id = zs.map e ∧ zs.Sublist xs := fun {xs ys} al => by
      induction al with
      | nil => exact ⟨[], rfl, .slnil⟩
      | cons o al ih =>
        obtain ⟨zs, e1, s1⟩ := ih
        rcases o with rfl | rfl
        · exact ⟨zs, e1, .cons _ s1⟩
        · exact ⟨_ :: zs, by rw [List.filterMap_cons]; show _ :: _ = _; rw [e1]; rfl, .cons_cons _ s1⟩
    obtain ⟨zs, e1, s1⟩ := key al
    rw [e1]
    exact c zs s' s1 hs'
end
/-! lists that hold nothing -/
theorem eqvAll_nil : ∀ l : List PyData, PyData.eqvAll l [] = l.isEmpty
  | [] => by simp [PyData.eqvAll]
  | x :: l => by simp [PyData.eqvAll]
theorem y_eqNil {l : List PyData} (h : okE (.list l) = true) : gEq (.list l) (.list []) = some (.bool l.isEmpty) := by
  show (if okE (.list l) = true ∧ okE (.list []) = true then some (PyData.bool (PyData.eqvAll l [])) else none) = _
  rw [if_pos ⟨h, rfl⟩, eqvAll_nil]
theorem y_neNil {l : List PyData} (h : okE (.list l) = true) : gNe (.list l) (.list []) = some (.bool (!l.isEmpty)) := by
  show (if okE (.list l) = true ∧ okE (.list []) = true then some (PyData.bool (!PyData.eqvAll l [])) else none) = _
  rw [if_pos ⟨h, rfl⟩, eqvAll_nil]
theorem okD_Lm {α : Type} (k : Nat) {e : α → PyData} (h : ∀ x, okD k (e x) = true) (l : List α) : okD (k + 1) (.list (l.map e)) = true := by
  unfold okD
  rw [List.all_eq_true]
  intro y hy
  obtain ⟨x, _, rfl⟩ := List.mem_map.mp hy
  exact h x
theorem okD_Tm {α : Type} (k : Nat) {e : α → PyData} (h : ∀ x, okD k (e x) = true) (l : List α) : okD (k + 1) (.tuple (l.map e)) = true := by
  unfold okD
  rw [List.all_eq_true]
  intro y hy
  obtain ⟨x, _, rfl⟩ := List.mem_map.mp hy
  exact h x
theorem okD_T2 {k : Nat} {a b : PyData} (ha : okD k a = true) (hb : okD k b = true) : okD (k + 1) (.tuple [a, b]) = true := by
  unfold okD; simp [ha, hb]
theorem okD_T3 {k : Nat} {a b c : PyData} (ha : okD k a = true) (hb : okD k b = true) (hc : okD k c = true) : okD (k + 1) (.tuple [a, b, c]) = true := by
  unfold okD; simp [ha, hb, hc]
theorem okD_int (k : Nat) (i : Int) : okD k (.int i) = true := by cases k <;> rfl
theorem okD_bool (k : Nat) (i : Bool) : okD k (.bool i) = true := by cases k <;> rfl
theorem okD_enP (k : Nat) (p : Int × Int) : okD (k + 1) (enP p) = true := okD_T2 (okD_int _ _) (okD_int _ _)
end Pv
namespace Pv
open PySem PySem.Spec PyProof.Rows L2
/-! texts of data -/
def Rok (d : PyData) : Prop := okR 18 d = true ∧ d.bulk ≤ 10000
theorem okR_up : ∀ (n : Nat) (d : PyData), okR n d = true → okR (n + 1) d = true := fun n => by
  have all : ∀ (n : Nat), (∀ d, okR n d = true → okR (n + 1) d = true) → ∀ l : List PyData, l.all (okR n) = true → l.all (okR (n + 1)) = true := fun n ih l h => by
    rw [List.all_eq_true] at h ⊢
    exact fun x hx => ih x (h x hx)
  induction n with
  | zero =>
    intro d h
    cases d <;> first | (simp [okR] at h; done) | (simpa [okR] using h)
  | succ n ih =>
    intro d h
    cases d with
    | list l => exact all n ih l h
    | tuple l => exact all n ih l h
    | dict l => simp [okR] at h
    | none => rfl
    | bool b => rfl
    | int i => exact h
    | str s => exact h
theorem Rok.rep {d : PyData} (h : Rok d) : ∃ K, gRepr d = some (.str K) := repr_some (okR_up 19 d (okR_up 18 d h.1)) (small_bulk h.2)
theorem y_repNe {d : PyData} (h : Rok d) : ((gRepr d).bind fun u => (gRepr d).bind fun v => gNeS u v) = some (.bool false) := by
  obtain ⟨K, e⟩ := h.rep
  rw [e]
  show gNeS (.str K) (.str K) = _
  rw [s_neS, decide_eq_true rfl]; rfl
theorem y_repEq {d : PyData} (h : Rok d) : ((gRepr d).bind fun u => (gRepr d).bind fun v => gEqS u v) = some (.bool true) := by
  obtain ⟨K, e⟩ := h.rep
  rw [e]
  show gEqS (.str K) (.str K) = _
  rw [s_eqS, decide_eq_true rfl]
/-- texts kept apart -/
theorem y_neS {K : Str} : gNeS (.str K) (.str K) = some (.bool false) := by rw [s_neS, decide_eq_true rfl]; rfl
theorem okR_b (k : Nat) (b : Bool) : okR k (.bool b) = true := by cases k <;> rfl
theorem okR_i {k : Nat} {i : Int} (h : -1000 < i) (h2 : i < 1000) : okR k (.int i) = true := okR_I k (sml_of h h2)
theorem okR_n (k : Nat) : okR k .none = true := by cases k <;> rfl
theorem okR_t2 {k : Nat} {a b : PyData} (ha : okR k a = true) (hb : okR k b = true) : okR (k + 1) (.tuple [a, b]) = true := by
  unfold okR; simp [ha, hb]
theorem okR_t3 {k : Nat} {a b c : PyData} (ha : okR k a = true) (hb : okR k b = true) (hc : okR k c = true) : okR (k + 1) (.tuple [a, b, c]) = true := by
  unfold okR; simp [ha, hb, hc]
theorem okR_l1 {k : Nat} {a : PyData} (ha : okR k a = true) : okR (k + 1) (.list [a]) = true := by
  unfold okR; simp [ha]
theorem okR_l2 {k : Nat} {a b : PyData} (ha : okR k a = true) (hb : okR k b = true) : okR (k + 1) (.list [a, b]) = true := by
  unfold okR; simp [ha, hb]
theorem okR_l3 {k : Nat} {a b c : PyData} (ha : okR k a = true) (hb : okR k b = true) (hc : okR k c = true) : okR (k + 1) (.list [a, b, c]) = true := by
  unfold okR; simp [ha, hb, hc]
theorem okR_tm {α : Type} {k : Nat} {e : α → PyData} {l : List α} (h : ∀ x ∈ l, okR k (e x) = true) : okR (k + 1) (.tuple (l.map e)) = true := okR_Tp k _ fun y hy => by
  obtain ⟨x, hx, rfl⟩ := List.mem_map.mp hy
  exact h x hx
theorem okR_lm {α : Type} {k : Nat} {e : α → PyData} {l : List α} (h : ∀ x ∈ l, okR k (e x) = true) : okR (k + 1) (.list (l.map e)) = true := okR_L k _ fun y hy => by
  obtain ⟨x, hx, rfl⟩ := List.mem_map.mp hy
  exact h x hx
theorem okR_mono {n m : Nat} {d : PyData} (h : okR n d = true) (hm : n ≤ m) : okR m d = true := by
  obtain ⟨k, rfl⟩ := Nat.exists_eq_add_of_le hm
  induction k with
  | zero => exact h
  | succ k ih => exact okR_up _ _ (ih (by omega))
theorem bulk_m {α : Type} {e : α → PyData} {k : Nat} : ∀ {l : List α}, (∀ x ∈ l, (e x).bulk ≤ k) → PyData.bulkAll (l.map e) ≤ (k + 1) * l.length
  | [], _ => by simp [PyData.bulkAll]
  | x :: l, h => by
    have := bulk_m (l := l) fun y hy => h y (List.mem_cons_of_mem _ hy)
    have h1 := h x List.mem_cons_self
    rw [List.map_cons, bulkA, List.length_cons, Nat.mul_add]
    omega
end Pv
namespace Pv
open PySem PySem.Spec PyProof.Rows L2
section
variable {α β ρ : Type}
theorem bE {X : Option α} {k : α → Option β} {a : α} {R : β → Prop} (e : X = some a) (h : ∃ r, k a = some r ∧ R r) : ∃ r, X.bind k = some r ∧ R r := by rw [e]; exact h
theorem bQ {X : Option α} {k : α → Option β} {a : α} {r : β} (e : X = some a) (h : k a = some r) : X.bind k = some r := by rw [e]; exact h
/-- what comes first is drawn -/
theorem bR {X : Option α} {k : α → Option β} {Q : α → Prop} {R : β → Prop} (e : ∃ a, X = some a ∧ Q a) (h : ∀ a, Q a → ∃ r, k a = some r ∧ R r) : ∃ r, X.bind k = some r ∧ R r := by
  obtain ⟨a, e1, q⟩ := e
  rw [e1]; exact h a q
theorem nx {X : Option (Rx ρ α)} {P : α → Prop} (h : ∃ r, X = some r ∧ ∃ v', r = .nxt v' ∧ P v') : ∃ v', X = some (.nxt v') ∧ P v' := by
  obtain ⟨_, e, v', rfl, p⟩ := h
  exact ⟨v', e, p⟩
theorem cF {b : Bool} {x y : Option β} {R : β → Prop} (e : b = false) (h : ∃ r, y = some r ∧ R r) : ∃ r, cond b x y = some r ∧ R r := by subst e; exact h
theorem rgZ_get {n : Nat} {i : Nat} {d : PyData} (h : ((rgZ 0 (n : Int)).map PyData.int)[i]? = some d) : i < n ∧ d = .int (i : Int) := by
  rw [rgZ_upTo] at h
  unfold upTo at h
  rw [List.map_map, List.getElem?_map] at h
  obtain ⟨j, hj, rfl⟩ := Option.map_eq_some_iff.mp h
  obtain ⟨h1, h2⟩ := List.getElem?_eq_some_iff.mp hj
  rw [List.length_range] at h1
  rw [List.getElem_range] at h2
  subst h2
  exact ⟨h1, rfl⟩
end
end Pv

namespace Pv
open PySem PySem.Spec PyProof.Rows L2
def b_out_of_order : FS := (bCons (sSet 1 (oLst aNil))
 (bCons (sFor (iEn (eVar 0)) (gTp 2 (gTCons (gNm 2) (gTCons (gNm 3) gTNil))) (bCons (sExt 1 (eFr (oComp [4] (iSeq (e3 gSl (eVar 0) (fpSome (e2 gAdd (eVar 2) (eCst (.int 1)))) fpNone)) (gC 4) (tBl (e2 gLt (eVar 4) (eVar 3))) (eTup (aCons (eVar 4) (aCons (eVar 3) aNil))))))
 bNil))
 (bCons (sRet (oSh (e1 gTuple (eFr (o1 gSort3 (eVar 1))))))
 bNil)))
def m_out_of_order : Sem' := runDef 1 5 b_out_of_order
def b_drops : FS := (bCons (sRet (oSh (e1 gTuple (eFr (oComp [1] (iRg1 (e2 gSub (e1 gLen2 (eVar 0)) (eCst (.int 1)))) (gC 1) (tBl (e2 gGt (e2 gIx2 (eVar 0) (eVar 1)) (e2 gIx2 (eVar 0) (e2 gAdd (eVar 1) (eCst (.int 1)))))) (eVar 1))))))
 bNil)
def m_drops : Sem' := runDef 1 2 b_drops
def b_mirrored : FS := (bCons (sRet (oSh (e1 gRevT (eVar 0))))
 bNil)
def m_mirrored : Sem' := runDef 1 1 b_mirrored
def b_is_under (m_out_of_order : Sem') : FS := (bCons (sSet 2 (oShF (oD1 gDict (eFr (oComp [3] (iSeq (eFr (oCall m_out_of_order (aCons (eVar 1) aNil)))) (gC 3) tYe (eTup (aCons (eVar 3) (aCons (eCst (.bool true)) aNil))))))))
 (bCons (sRet (oSh (e1 gAll (eFr (oComp [3] (iSeq (eFr (oCall m_out_of_order (aCons (eVar 0) aNil)))) (gC 3) tYe (e2 gIn2 (eVar 3) (eVar 2)))))))
 bNil))
def m_is_under : Sem' := runDef 2 4 (b_is_under m_out_of_order)
def b_lots_between : FS := (bCons (sSet 2 (oShF (oLst (aCons (eTup aNil) aNil))))
 (bCons (sFor (iRg2 (e2 gAdd (eVar 0) (eCst (.int 1))) (eVar 1)) (gNm 3) (bCons (sSet 2 (oSh (e2 gAdd (eVar 2) (eFr (oComp [4] (iSeq (eVar 2)) (gC 4) tYe (eTup (aStar (eVar 4) (aCons (eVar 3) aNil))))))))
 bNil))
 (bCons (sRet (oSh (eVar 2)))
 bNil)))
def m_lots_between : Sem' := runDef 2 5 b_lots_between
def b_all_arcs (m_lots_between : Sem') : FS := (bCons (sIf (tBl (e2 gGt (e2 gSub (e2 gSub (e2 gShl (eCst (.int 1)) (eVar 0)) (eVar 0)) (eCst (.int 1))) (eCst (.int 2000)))) (bCons sNone
 bNil) bNil)
 (bCons (sSet 1 (oLst aNil))
 (bCons (sFor (iRg1 (eVar 0)) (gNm 2) (bCons (sFor (iRg2 (e2 gAdd (eVar 2) (eCst (.int 1))) (eVar 0)) (gNm 3) (bCons (sExpr (eLm1 1 gExtend (eFr (oComp [4] (iSeq (eFr (oCall m_lots_between (aCons (eVar 2) (aCons (eVar 3) aNil))))) (gC 4) tYe (eTup (aCons (eVar 2) (aCons (eVar 3) (aCons (eVar 4) aNil))))))))
 bNil))
 bNil))
 (bCons (sRet (o1 gSort3 (eVar 1)))
 bNil))))
def m_all_arcs : Sem' := runDef 1 5 (b_all_arcs m_lots_between)
def b_right_of : FS := (bCons (sRet (oSh (e1 gTuple (eFr (oComp [1] (iRg2 (e2 gAdd (e2 gIx2 (eVar 0) (eCst (.int 0))) (eCst (.int 1))) (e2 gIx2 (eVar 0) (eCst (.int 1)))) (gC 1) (tBl (e2 gNotIn2 (eVar 1) (e2 gIx2 (eVar 0) (eCst (.int 2))))) (eVar 1))))))
 bNil)
def m_right_of : Sem' := runDef 1 2 b_right_of
def b_low_row (m_right_of : Sem') : FS := (bCons (sAsg (oSh (eVar 1)) (gTp 3 (gTCons (gNm 2) (gTCons (gNm 3) (gTCons (gNm 4) gTNil)))))
 (bCons (sRet (oSh (eTup (aStarRg none (eVar 2) (aStar (eVar 4) (aCons (eVar 3) (aCons (eVar 2) (aStar (eFr (oCall m_right_of (aCons (eVar 1) aNil))) (aStarRg (some (e2 gAdd (eVar 3) (eCst (.int 1)))) (eVar 0) aNil)))))))))
 bNil))
def m_low_row : Sem' := runDef 2 5 (b_low_row m_right_of)
def b_sides_exchanged (m_right_of : Sem') : FS := (bCons (sRet (oSh (eTup (aCons (e2 gIx2 (eVar 0) (eCst (.int 0))) (aCons (e2 gIx2 (eVar 0) (eCst (.int 1))) (aCons (eFr (oCall m_right_of (aCons (eVar 0) aNil))) aNil))))))
 bNil)
def m_sides_exchanged : Sem' := runDef 1 1 (b_sides_exchanged m_right_of)
def b_high_row (m_low_row m_sides_exchanged : Sem') : FS := (bCons (sRet (oSh (e1 gRevT (eFr (oCall m_low_row (aCons (eVar 0) (aCons (eFr (oCall m_sides_exchanged (aCons (eVar 1) aNil))) aNil)))))))
 bNil)
def m_high_row : Sem' := runDef 2 2 (b_high_row m_low_row m_sides_exchanged)
def b_arc_at_step : FS := (bCons (sAsg (oSh (eFr (o1 gSort3 (e3 gSl (eVar 0) (fpSome (eVar 1)) (fpSome (e2 gAdd (eVar 1) (eCst (.int 2)))))))) (gTp2 2 (gTCons (gNm 2) (gTCons (gNm 3) gTNil))))
 (bCons (sRet (oSh (eTup (aCons (eVar 2) (aCons (eVar 3) (aCons (e1 gTuple (eFr (o1 gSort3 (eFr (oComp [4] (iSeq (e3 gSl (eVar 0) fpNone (fpSome (eVar 1)))) (gC 4) (tBl (eChain gLt gLt (eVar 2) (eVar 4) (eVar 3))) (eVar 4)))))) aNil))))))
 bNil))
def m_arc_at_step : Sem' := runDef 2 5 b_arc_at_step
def b_arcs_of (m_drops m_arc_at_step : Sem') : FS := (bCons (sRet (oSh (e1 gTuple (eFr (o1 gSort3 (eFr (oComp [1] (iSeq (eFr (oCall m_drops (aCons (eVar 0) aNil)))) (gC 1) tYe (eFr (oCall m_arc_at_step (aCons (eVar 0) (aCons (eVar 1) aNil)))))))))))
 bNil)
def m_arcs_of : Sem' := runDef 1 2 (b_arcs_of m_drops m_arc_at_step)
def b_arc_of_row (m_arcs_of : Sem') : FS := (bCons (sSet 1 (oShF (oCall m_arcs_of (aCons (eVar 0) aNil))))
 (bCons (sIf (tBl (e2 gNe (e1 gLen2 (eVar 1)) (eCst (.int 1)))) (bCons sNone
 bNil) bNil)
 (bCons (sRet (oSh (e2 gIx2 (eVar 1) (eCst (.int 0)))))
 bNil)))
def m_arc_of_row : Sem' := runDef 1 2 (b_arc_of_row m_arcs_of)
def b_runs_along : FS := (bCons (sAsg (oSh (eVar 1)) (gTp 3 (gTCons (gNm 2) (gTCons (gNm 3) (gTCons (gNm 4) gTNil)))))
 (bCons (sRet (oSh (eAn (e2 gLe (e2 gIx2 (eVar 0) (eCst (.int 0))) (eVar 2)) (eAn (e2 gLe (eVar 3) (e2 gIx2 (eVar 0) (eCst (.int 1)))) (e2 gEq (eVar 4) (e1 gTuple (eFr (oComp [5] (iSeq (e2 gIx2 (eVar 0) (eCst (.int 2)))) (gC 5) (tBl (eChain gLt gLt (eVar 2) (eVar 5) (eVar 3))) (eVar 5)))))))))
 bNil))
def m_runs_along : Sem' := runDef 2 6 b_runs_along
def b_is_stretch (m_right_of m_runs_along : Sem') : FS := (bCons (sAsg (oSh (e3 gSl (eVar 0) fpNone (fpSome (eCst (.int 2))))) (gTp 2 (gTCons (gNm 2) (gTCons (gNm 3) gTNil))))
 (bCons (sIf (tOr' (tAn (tBl (e2 gNe (eVar 2) (e2 gIx2 (eVar 1) (eCst (.int 0))))) (tBl (e2 gNotIn2 (eVar 2) (eFr (oCall m_right_of (aCons (eVar 1) aNil)))))) (tAn (tBl (e2 gNe (eVar 3) (e2 gIx2 (eVar 1) (eCst (.int 1))))) (tBl (e2 gNotIn2 (eVar 3) (e2 gIx2 (eVar 1) (eCst (.int 2))))))) (bCons (sRet (oSh (eCst (.bool false))))
 bNil) bNil)
 (bCons (sRet (oCall m_runs_along (aCons (eVar 1) (aCons (eVar 0) aNil))))
 bNil)))
def m_is_stretch : Sem' := runDef 2 4 (b_is_stretch m_right_of m_runs_along)
def b_has_one_drop (m_drops : Sem') : FS := (bCons (sRet (oSh (e2 gEq (e1 gLen2 (eFr (oCall m_drops (aCons (eVar 0) aNil)))) (eCst (.int 1)))))
 bNil)
def m_has_one_drop : Sem' := runDef 1 1 (b_has_one_drop m_drops)
def b_one_drop_rows (m_has_one_drop : Sem') : FS := (bCons (sIf (tBl (e2 gGt (e2 gSub (e2 gSub (e2 gShl (eCst (.int 1)) (eVar 0)) (eVar 0)) (eCst (.int 1))) (eCst (.int 2000)))) (bCons sNone
 bNil) bNil)
 (bCons (sSet 1 (oLst aNil))
 (bCons (sFor (iRg1 (e2 gShl (eCst (.int 1)) (eVar 0))) (gNm 2) (bCons (sSet 3 (oShF (oComp [5] (iRg1 (eVar 0)) (gC 5) (tBl (e2 gEq (e2 gAnd (e2 gShr (eVar 2) (eVar 5)) (eCst (.int 1))) (eCst (.int 1)))) (eVar 5))))
 (bCons (sSet 4 (oSh (e1 gTuple (e2 gAdd (eVar 3) (eFr (oComp [5] (iRg1 (eVar 0)) (gC 5) (tBl (e2 gEq (e2 gAnd (e2 gShr (eVar 2) (eVar 5)) (eCst (.int 1))) (eCst (.int 0)))) (eVar 5)))))))
 (bCons (sIf (tTr (eFr (oCall m_has_one_drop (aCons (eVar 4) aNil)))) (bCons (sExpr (eLm1 1 gAppend (eVar 4)))
 bNil) bNil)
 bNil))))
 (bCons (sRet (o1 gSort3 (eVar 1)))
 bNil))))
def m_one_drop_rows : Sem' := runDef 1 6 (b_one_drop_rows m_has_one_drop)
def b__law_source : FS := (bCons (sSet 1 (oSh (eCst (.int 11))))
 (bCons (sFor (iSeq (eVar 0)) (gNm 2) (bCons (sSet 1 (oSh (e2 gMod (e1 gInt (e2 gAdd (e2 gAdd (e2 gMul (eVar 1) (eCst (.int 69069))) (e2 gMul (eVar 2) (eCst (.int 31)))) (eCst (.int 5)))) (eCst (.int 2147483629)))))
 bNil))
 (bCons (sRet (oSrc (o1 gRevL (eFr (oComp [2] (iSeq (eVar 0)) (gC 2) tYe (e1 gAbs (eVar 2))))) (eCst (.int 1)) (eVar 1) (eCst (.int 0))))
 bNil)))
def m__law_source : Sem' := runDef 1 3 b__law_source
def b__law_pick : FS := (bCons (sWhile (tAn (tBl (e2 gGt (eVar 1) (eCst (.int 1)))) (tAn (tBl (e2 gLt (eSrc 0 .left) (eCst (.int 2)))) (tBl (e2 gGt (eSrcLen 0) (eCst (.int 0)))))) (bCons (sSrc 0 .left (eSrcPop 0))
 bNil))
 (bCons (sSet 2 (oSh (eSrc 0 .left)))
 (bCons (sIf (tOr' (tBl (e2 gLt (eVar 1) (eCst (.int 2)))) (tBl (e2 gGt (eVar 2) (eCst (.int 1))))) (bCons (sSrc 0 .left (e2 gFdiv (eVar 2) (e2 gMax2 (eCst (.int 1)) (eVar 1))))
 (bCons (sRet (oSh (e2 gMod (e1 gInt (eVar 2)) (e2 gMax2 (eCst (.int 1)) (eVar 1)))))
 bNil)) bNil)
 (bCons (sSrc 0 .turn (e2 gAdd (eSrc 0 .turn) (eCst (.int 1))))
 (bCons (sSet 3 (oSh (e2 gMod (e1 gInt (e2 gAdd (eSrc 0 .mixed) (e2 gMul (eSrc 0 .turn) (eCst (.int 104729))))) (eCst (.int 998244353)))))
 (bCons (sSet 3 (oSh (e2 gMod (e1 gInt (e2 gAdd (e2 gMul (eVar 3) (eVar 3)) (e2 gMul (eSrc 0 .turn) (eCst (.int 17))))) (eCst (.int 2147483647)))))
 (bCons (sSrc 0 .mixed (eVar 3))
 (bCons (sRet (oSh (e2 gMod (e1 gInt (e2 gFdiv (eVar 3) (eCst (.int 16)))) (eVar 1))))
 bNil))))))))
def m__law_pick : Sem' := runDef 2 4 b__law_pick
def b__law_arc (m__law_pick : Sem') : FS := (bCons (sSet 2 (oSh (e2 gAdd (eCst (.int 1)) (eFr (oCallS m__law_pick 0 (aCons (e2 gSub (eVar 1) (eCst (.int 1))) aNil))))))
 (bCons (sSet 3 (oShF (oCallS m__law_pick 0 (aCons (eVar 2) aNil))))
 (bCons (sRet (oSh (eTup (aCons (eVar 3) (aCons (eVar 2) (aCons (e1 gTuple (eFr (oComp [4] (iRg2 (e2 gAdd (eVar 3) (eCst (.int 1))) (eVar 2)) (gC 4) (tBl (e2 gEq (eFr (oCallS m__law_pick 0 (aCons (eCst (.int 2)) aNil))) (eCst (.int 0)))) (eVar 4)))) aNil))))))
 bNil)))
def m__law_arc : Sem' := runDef 2 5 (b__law_arc m__law_pick)
def b__law_right : FS := (bCons (sRet (oSh (e1 gTuple (eFr (oComp [1] (iRg2 (e2 gAdd (e2 gIx2 (eVar 0) (eCst (.int 0))) (eCst (.int 1))) (e2 gIx2 (eVar 0) (eCst (.int 1)))) (gC 1) (tBl (e2 gNotIn2 (eVar 1) (e2 gIx2 (eVar 0) (eCst (.int 2))))) (eVar 1))))))
 bNil)
def m__law_right : Sem' := runDef 1 2 b__law_right
def b__law_pairs : FS := (bCons (sSet 1 oD0)
 (bCons (sFor (iEn (eVar 0)) (gTp 2 (gTCons (gNm 2) (gTCons (gNm 3) gTNil))) (bCons (sExpr (eDm1 1 gUpd (eFr (oD1 gDict (eFr (oComp [4] (iSeq (e3 gSl (eVar 0) (fpSome (e2 gAdd (eVar 2) (eCst (.int 1)))) fpNone)) (gC 4) (tBl (e2 gLt (eVar 4) (eVar 3))) (eTup (aCons (eTup (aCons (eVar 4) (aCons (eVar 3) aNil))) (aCons (eCst (.int 0)) aNil)))))))))
 bNil))
 (bCons (sRet (oMv 1))
 bNil)))
def m__law_pairs : Sem' := runDef 1 5 b__law_pairs
def b__law_under (m__law_pairs : Sem') : FS := (bCons (sSet 2 (oShF (oCall m__law_pairs (aCons (eVar 1) aNil))))
 (bCons (sRet (oSh (e2 gEq (eFr (oComp [3] (iDk (oCall m__law_pairs (aCons (eVar 0) aNil))) (gC 3) (tBl (e2 gNotIn2 (eVar 3) (eVar 2))) (eVar 3))) (eFr (oLst aNil)))))
 bNil))
def m__law_under : Sem' := runDef 2 4 (b__law_under m__law_pairs)
def b__law_stretch (m__law_right : Sem') : FS := (bCons (sAsg (oSh (eVar 0)) (gTp 3 (gTCons (gNm 2) (gTCons (gNm 3) (gTCons (gNm 4) gTNil)))))
 (bCons (sIf (tOr' (tAn (tBl (e2 gNe (eVar 2) (e2 gIx2 (eVar 1) (eCst (.int 0))))) (tBl (e2 gNotIn2 (eVar 2) (eFr (oCall m__law_right (aCons (eVar 1) aNil)))))) (tAn (tBl (e2 gNe (eVar 3) (e2 gIx2 (eVar 1) (eCst (.int 1))))) (tBl (e2 gNotIn2 (eVar 3) (e2 gIx2 (eVar 1) (eCst (.int 2))))))) (bCons (sRet (oSh (eCst (.bool false))))
 bNil) bNil)
 (bCons (sRet (oSh (e2 gEq (eVar 4) (e1 gTuple (eFr (oComp [5] (iSeq (e2 gIx2 (eVar 1) (eCst (.int 2)))) (gC 5) (tBl (eChain gLt gLt (eVar 2) (eVar 5) (eVar 3))) (eVar 5)))))))
 bNil)))
def m__law_stretch : Sem' := runDef 2 6 (b__law_stretch m__law_right)
def b__law_along : FS := (bCons (sAsg (oSh (eVar 1)) (gTp 3 (gTCons (gNm 2) (gTCons (gNm 3) (gTCons (gNm 4) gTNil)))))
 (bCons (sRet (oSh (eAn (e2 gLe (e2 gIx2 (eVar 0) (eCst (.int 0))) (eVar 2)) (eAn (e2 gLe (eVar 3) (e2 gIx2 (eVar 0) (eCst (.int 1)))) (e2 gEq (eVar 4) (e1 gTuple (eFr (oComp [5] (iSeq (e2 gIx2 (eVar 0) (eCst (.int 2)))) (gC 5) (tBl (eChain gLt gLt (eVar 2) (eVar 5) (eVar 3))) (eVar 5)))))))))
 bNil))
def m__law_along : Sem' := runDef 2 6 b__law_along
def b__law_near (m__law_pick : Sem') : FS := (bCons (sAsg (oSh (eVar 1)) (gTp 3 (gTCons (gNm 2) (gTCons (gNm 3) (gTCons (gNm 4) gTNil)))))
 (bCons (sPar 5 6 (oSh (e2 gAdd (eVar 2) (eFr (oCallS m__law_pick 0 (aCons (e2 gSub (eVar 3) (eVar 2)) aNil))))) (oSh (e2 gSub (eVar 3) (eFr (oCallS m__law_pick 0 (aCons (e2 gSub (eVar 3) (eVar 2)) aNil))))))
 (bCons (sAsg (oSh (eIf (tBl (e2 gLt (eVar 5) (eVar 6))) (eTup (aCons (eVar 5) (aCons (eVar 6) aNil))) (eTup (aCons (eVar 2) (aCons (eVar 3) aNil))))) (gTp 2 (gTCons (gNm 5) (gTCons (gNm 6) gTNil))))
 (bCons (sSet 7 (oSh (e1 gTuple (eFr (oComp [8] (iRg2 (e2 gAdd (eVar 5) (eCst (.int 1))) (eVar 6)) (gC 8) (tBl (e2 gEq (e2 gIn2 (eVar 8) (eVar 4)) (e2 gGt (eFr (oCallS m__law_pick 0 (aCons (eCst (.int 8)) aNil))) (eCst (.int 0))))) (eVar 8))))))
 (bCons (sRet (oSh (eTup (aCons (eVar 5) (aCons (eVar 6) (aCons (eVar 7) aNil))))))
 bNil)))))
def m__law_near : Sem' := runDef 2 9 (b__law_near m__law_pick)
def b_law (m__law_source m__law_pick m_all_arcs m_low_row m_one_drop_rows m_has_one_drop m_arc_of_row m__law_arc m__law_near m__law_stretch m__law_under m_is_under m_is_stretch m__law_along m_runs_along m_sides_exchanged m_mirrored m_high_row m__law_right : Sem') : FS := (bCons (sSet 1 (oCall m__law_source (aCons (eVar 0) aNil)))
 (bCons (sSet 2 (oSh (e2 gAdd (eCst (.int 2)) (eFr (oCallS m__law_pick 1 (aCons (eCst (.int 4)) aNil))))))
 (bCons (sSet 3 (oShF (oComp [14] (iSeq (eFr (oCall m_all_arcs (aCons (eVar 2) aNil)))) (gC 14) tYe (eFr (oCall m_low_row (aCons (eVar 2) (aCons (eVar 14) aNil)))))))
 (bCons (sIf (tOr' (tBl (e2 gNe (eFr (o1 gSort3 (eVar 3))) (eFr (oCall m_one_drop_rows (aCons (eVar 2) aNil))))) (tBl (e2 gNe (eFr (oComp [15] (iSeq (eVar 3)) (gC 15) (tNo (tTr (eFr (oCall m_has_one_drop (aCons (eVar 15) aNil))))) (eVar 15))) (eFr (oLst aNil))))) (bCons (sRet (oSh (eCst (.bool false))))
 bNil) bNil)
 (bCons (sIf (tBl (e2 gNe (eFr (oComp [15] (iSeq (eVar 3)) (gC 15) tYe (eFr (oCall m_arc_of_row (aCons (eVar 15) aNil))))) (eFr (oCall m_all_arcs (aCons (eVar 2) aNil))))) (bCons (sRet (oSh (eCst (.bool false))))
 bNil) bNil)
 (bCons (sFor (iRg1 (eCst (.int 8))) (gNm 4) (bCons (sSet 2 (oSh (e2 gAdd (eCst (.int 2)) (eFr (oCallS m__law_pick 1 (aCons (e2 gIx2 (eFr (oLst (aCons (eCst (.int 3)) (aCons (eCst (.int 5)) (aCons (eCst (.int 8)) aNil))))) (e2 gSub (eVar 4) (e2 gMul (e2 gFdiv (eVar 4) (eCst (.int 3))) (eCst (.int 3))))) aNil))))))
 (bCons (sSet 5 (oShF (oCallS m__law_arc 1 (aCons (eVar 2) aNil))))
 (bCons (sSet 6 (oSh (eIf (tBl (e2 gGt (eFr (oCallS m__law_pick 1 (aCons (eCst (.int 3)) aNil))) (eCst (.int 0)))) (eFr (oCallS m__law_near 1 (aCons (eVar 5) aNil))) (eFr (oCallS m__law_arc 1 (aCons (eVar 2) aNil))))))
 (bCons (sFor (iSeq (eTup (aCons (eTup (aCons (eVar 5) (aCons (eVar 6) aNil))) (aCons (eTup (aCons (eVar 6) (aCons (eVar 5) aNil))) (aCons (eTup (aCons (eVar 5) (aCons (eVar 5) aNil))) aNil))))) (gTp 2 (gTCons (gNm 7) (gTCons (gNm 8) gTNil))) (bCons (sSet 9 (oShF (oCall m__law_stretch (aCons (eVar 7) (aCons (eVar 8) aNil)))))
 (bCons (sPar 10 11 (oSh (eFr (oCall m_low_row (aCons (eVar 2) (aCons (eVar 7) aNil))))) (oSh (eFr (oCall m_low_row (aCons (eVar 2) (aCons (eVar 8) aNil))))))
 (bCons (sSet 12 (oShF (oLst (aCons (eFr (oCall m_is_stretch (aCons (eVar 7) (aCons (eVar 8) aNil)))) (aCons (eFr (oCall m_is_under (aCons (eVar 10) (aCons (eVar 11) aNil)))) (aCons (eFr (oCall m__law_under (aCons (eVar 10) (aCons (eVar 11) aNil)))) aNil))))))
 (bCons (sIf (tBl (e2 gNeS (e1 gRepr (eVar 12)) (e1 gRepr (eFr (oLst (aCons (eVar 9) (aCons (eVar 9) (aCons (eVar 9) aNil)))))))) (bCons (sRet (oSh (eCst (.bool false))))
 bNil) bNil)
 (bCons (sSet 13 (oShF (oCall m__law_along (aCons (eVar 8) (aCons (eVar 7) aNil)))))
 (bCons (sIf (tOr' (tBl (e2 gNeS (e1 gRepr (eFr (oCall m_runs_along (aCons (eVar 8) (aCons (eVar 7) aNil))))) (e1 gRepr (eVar 13)))) (tAn (tTr (eVar 9)) (tNo (tTr (eVar 13))))) (bCons (sRet (oSh (eCst (.bool false))))
 bNil) bNil)
 bNil)))))))
 (bCons (sFor (iSeq (eTup (aCons (eVar 5) (aCons (eVar 6) aNil)))) (gNm 14) (bCons (sSet 11 (oShF (oCall m_sides_exchanged (aCons (eVar 14) aNil))))
 (bCons (sIf (tOr' (tBl (e2 gNe (eFr (oCall m_mirrored (aCons (eFr (oCall m_high_row (aCons (eVar 2) (aCons (eVar 14) aNil)))) aNil))) (eFr (oCall m_low_row (aCons (eVar 2) (aCons (eVar 11) aNil)))))) (tBl (e2 gNe (eFr (oCall m_sides_exchanged (aCons (eVar 11) aNil))) (eVar 14)))) (bCons (sRet (oSh (eCst (.bool false))))
 bNil) bNil)
 (bCons (sIf (tBl (e2 gNeS (e1 gRepr (eVar 11)) (e1 gRepr (eTup (aCons (e2 gIx2 (eVar 14) (eCst (.int 0))) (aCons (e2 gIx2 (eVar 14) (eCst (.int 1))) (aCons (eFr (oCall m__law_right (aCons (eVar 14) aNil))) aNil))))))) (bCons (sRet (oSh (eCst (.bool false))))
 bNil) bNil)
 bNil))))
 bNil))))))
 (bCons (sRet (oCall m_is_stretch (aCons (eTup (aCons (eCst (.int 1)) (aCons (eCst (.int 2)) (aCons (eTup aNil) aNil)))) (aCons (eTup (aCons (eCst (.int 0)) (aCons (eCst (.int 2)) (aCons (eTup aNil) aNil)))) aNil))))
 bNil)))))))
def m_law : Sem' := runDef 1 16 (b_law m__law_source m__law_pick m_all_arcs m_low_row m_one_drop_rows m_has_one_drop m_arc_of_row m__law_arc m__law_near m__law_stretch m__law_under m_is_under m_is_stretch m__law_along m_runs_along m_sides_exchanged m_mirrored m_high_row m__law_right)
end Pv

set_option maxHeartbeats 0
namespace Pv
open PySem PySem.Spec PyProof.Rows L2
def x_out_of_order (q0 : PyData) : Option (PyData) :=
  (((seqD q0).bind fun l20 => some (enD l20)).bind fun l21 => ((foldX (fun d2 v1 => (unT2 d2 fun a4 a5 => ((((((((gAdd a4 (.int 1)).bind fun u7 => ((asI u7).bind fun i6 => some (some i6))).bind fun u8 => (gSl q0 u8 none)).bind fun u9 => (seqD u9)).bind fun s13 => compX (fun d10 => (((gLt d10 a5).bind fun u11 => (asB u11)).bind fun c12 => cond c12 (some (some (.tuple [d10, a5]))) (some none))) s13).bind fun l14 => some (.list l14)).bind fun u16 => (exX v1 u16)).bind fun r15 => (some r15)))) l21 ([] : (List PyData))).bind fun v3 => ((((gSort3 (.list v3)).bind fun l17 => some (.list l17)).bind fun u18 => (gTuple u18)).bind fun d19 => (some d19))))
theorem t_out_of_order (q0 : PyData) (r : PyData) (h : x_out_of_order q0 = some r) : m_out_of_order [.sh q0] = some (M.sh r, [.sh q0]) := by
  unfold x_out_of_order at h
  refine run_w rfl [some (.sh q0), none, none, none, none] rfl ?_
  unfold b_out_of_order
  exact (ws_cons (ws_set (co_p0 (xo_lstn xn_nil) ⟨rfl, (ws_cons (ws_fold (fun (v : (List PyData)) st => ∃ z2 z3 : Option M, st = [some (.sh q0), some (.ol false v), z2, z3, none] ∧ nZ z2 = true ∧ nZ z3 = true) ([] : (List PyData)) (ci_p (xi_en (xi_seq (xs_var rfl))) h fun l21 h => ⟨h, ⟨none, none, rfl, rfl, rfl⟩⟩) (fun d2 v1 st1 r t h => by obtain ⟨z2, z3, rfl, hz2, hz3⟩ := t; exact (tg_u2 h fun a4 a5 h => ⟨_, x_gp rfl (x_g1 (x_gn (x_op rfl (nZ_oZ hz2))) (x_g1 (x_gn (x_op rfl (nZ_oZ hz3))) x_g0)), (ws_cons (ws_ext rfl (XV.s (xv_frL (xl_comp (xi_seq (XV.s (xv_3 (XS.r (xs_var rfl)) (xp_some (XV.r (xv_2 (XS.r (xs_var rfl)) (XV.r xv_cst)))) xp_none))) rfl (fun d10 => (xh_1 rfl rfl rfl (xf_if (xt_bl (XV.r (xv_2 (XS.r (xs_var rfl)) (XS.r (xs_var rfl))))) (XV.s (xv_tupn (xn_cons (xs_var rfl) (xn_cons (xs_var rfl) xn_nil)))))))))) h fun r15 h => (ws_nil (by cases h; exact ⟨.inl rfl, ⟨some (.sh a4), some (.sh a5), rfl, rfl, rfl⟩⟩))))⟩)) (fun v3 st1 t h => by obtain ⟨z2, z3, rfl, hz2, hz3⟩ := t; exact (ws_cons (ws_ret (co_p (xo_sh (XV.s (xv_1 (XV.r (xv_frL (xo_1 (xd_var rfl rfl))))))) h fun d19 h => (by cases h; exact ⟨rfl, rfl⟩)))))))⟩)))
def x_drops (q0 : PyData) : Option (PyData) :=
  (((((((gLen2 q0).bind fun u1 => (gSub u1 (.int 1))).bind fun u2 => (gR1 u2)).bind fun s9 => compX (fun d3 => ((((gIx2 q0 d3).bind fun u5 => (((gAdd d3 (.int 1)).bind fun u4 => (gIx2 q0 u4)).bind fun u6 => (gGt u5 u6))).bind fun u7 => (asB u7)).bind fun c8 => cond c8 (some (some d3)) (some none))) s9).bind fun l10 => some (.list l10)).bind fun u11 => (gTuple u11)).bind fun d12 => (some d12))
theorem t_drops (q0 : PyData) (r : PyData) (h : x_drops q0 = some r) : m_drops [.sh q0] = some (M.sh r, [.sh q0]) := by
  unfold x_drops at h
  refine run_w rfl [some (.sh q0), none] rfl ?_
  unfold b_drops
  exact (ws_cons (ws_ret (co_p (xo_sh (XV.s (xv_1 (XV.r (xv_frL (xl_comp (xi_rg1 (XV.r (xv_2 (XV.r (xv_1 (XS.r (xs_var rfl)))) (XV.r xv_cst)))) rfl (fun d3 => (xh_1 rfl rfl rfl (xf_if (xt_bl (XV.r (xv_2 (XV.r (xv_2 (XS.r (xs_var rfl)) (XS.r (xs_var rfl)))) (XV.r (xv_2 (XS.r (xs_var rfl)) (XV.r (xv_2 (XS.r (xs_var rfl)) (XV.r xv_cst)))))))) (xs_var rfl)))))))))) h fun d12 h => (by cases h; exact ⟨rfl, rfl⟩))))
def x_mirrored (q0 : PyData) : Option (PyData) :=
  ((gRevT q0).bind fun d1 => (some d1))
theorem t_mirrored (q0 : PyData) (r : PyData) (h : x_mirrored q0 = some r) : m_mirrored [.sh q0] = some (M.sh r, [.sh q0]) := by
  unfold x_mirrored at h
  refine run_w rfl [some (.sh q0)] rfl ?_
  unfold b_mirrored
  exact (ws_cons (ws_ret (co_p (xo_sh (XV.s (xv_1 (XS.r (xs_var rfl))))) h fun d1 h => (by cases h; exact ⟨rfl, rfl⟩))))
def x_is_under (q0 : PyData) (q1 : PyData) : Option (PyData) :=
  (((((((x_out_of_order q1).bind fun u1 => (seqD u1)).bind fun s3 => compM (fun d2 => (some (.tuple [d2, (.bool true)]))) s3).bind fun l4 => some (.list l4)).bind fun u5 => (gDict u5)).bind fun l6 => some (.dict l6)).bind fun d7 => ((((((x_out_of_order q0).bind fun u8 => (seqD u8)).bind fun s11 => compM (fun d9 => (gIn2 d9 d7)) s11).bind fun l12 => some (.list l12)).bind fun u13 => (gAll u13)).bind fun d14 => (some d14)))
theorem t_is_under (q0 : PyData) (q1 : PyData) (r : PyData) (h : x_is_under q0 q1 = some r) : m_is_under [.sh q0, .sh q1] = some (M.sh r, [.sh q0, .sh q1]) := by
  unfold x_is_under at h
  refine run_w rfl [some (.sh q0), some (.sh q1), none, none] rfl ?_
  unfold b_is_under
  exact (ws_cons (ws_set (co_p (xo_shfD (xo_d1 (XV.r (xv_frL (xl_comp (xi_seq (XV.s (xv_frS (xo_call1 t_out_of_order (xs_var rfl))))) rfl (fun d2 => (xh_1 rfl rfl rfl (xf_all (XV.s (xv_tupn (xn_cons (xs_var rfl) (xn_cons (XV.s xv_cst) xn_nil)))))))))))) h fun d7 h => ⟨rfl, (ws_cons (ws_ret (co_p (xo_sh (XV.s (xv_1 (XV.r (xv_frL (xl_comp (xi_seq (XV.s (xv_frS (xo_call1 t_out_of_order (xs_var rfl))))) rfl (fun d9 => (xh_1 rfl rfl rfl (xf_all (XV.s (xv_2 (XS.r (xs_var rfl)) (XS.r (xs_var rfl))))))))))))) h fun d14 h => (by cases h; exact ⟨rfl, rfl⟩))))⟩)))
def x_lots_between (q0 : PyData) (q1 : PyData) : Option (PyData) :=
  (((gAdd q0 (.int 1)).bind fun u13 => (gR2 u13 q1)).bind fun l14 => ((foldX (fun d2 v1 => (((((seqD v1).bind fun s9 => compM (fun d4 => (((seqD d4).bind fun s7 => ((some []).bind fun l5 => some (d2 :: l5)).bind fun l6 => some (s7 ++ l6)).bind mkT)) s9).bind fun l10 => some (.list l10)).bind fun u11 => (gAdd v1 u11)).bind fun d12 => (some d12))) l14 ((.list [(.tuple [])]) : PyData)).bind fun v3 => (some v3)))
theorem t_lots_between (q0 : PyData) (q1 : PyData) (r : PyData) (h : x_lots_between q0 q1 = some r) : m_lots_between [.sh q0, .sh q1] = some (M.sh r, [.sh q0, .sh q1]) := by
  unfold x_lots_between at h
  refine run_w rfl [some (.sh q0), some (.sh q1), none, none, none] rfl ?_
  unfold b_lots_between
  exact (ws_cons (ws_set (co_p0 (xo_shfL (xo_lstn (xn_cons (XV.s (xv_tupn xn_nil)) xn_nil))) ⟨rfl, (ws_cons (ws_fold (fun (v : PyData) st => ∃ z3 : Option M, st = [some (.sh q0), some (.sh q1), some (.sh v), z3, none] ∧ nZ z3 = true) ((.list [(.tuple [])]) : PyData) (ci_p (xi_rg2 (XV.r (xv_2 (XS.r (xs_var rfl)) (XV.r xv_cst))) (XS.r (xs_var rfl))) h fun l14 h => ⟨h, ⟨none, rfl, rfl⟩⟩) (fun d2 v1 st1 r t h => by obtain ⟨z3, rfl, hz3⟩ := t; exact ⟨_, x_gn (x_op rfl (nZ_oZ hz3)), (ws_cons (ws_set (co_p (xo_sh (XV.s (xv_2 (XS.r (xs_var rfl)) (XV.r (xv_frL (xl_comp (xi_seq (xs_var rfl)) rfl (fun d4 => (xh_1 rfl rfl rfl (xf_all (XV.s (xv_tup (xa_star (xs_var rfl) (xa_cons (xs_var rfl) (XAn.a xn_nil)))))))))))))) h fun d12 h => ⟨rfl, (ws_nil (by cases h; exact ⟨.inl rfl, ⟨some (.sh d2), rfl, rfl⟩⟩))⟩)))⟩) (fun v3 st1 t h => by obtain ⟨z3, rfl, hz3⟩ := t; exact (ws_cons (ws_ret (co_p0 (xo_sh (xs_var rfl)) (by cases h; exact ⟨rfl, rfl⟩)))))))⟩)))
def x_all_arcs (q0 : PyData) : Option (List PyData) :=
  ((((((gShl (.int 1) q0).bind fun u1 => (gSub u1 q0)).bind fun u2 => (gSub u2 (.int 1))).bind fun u3 => (gGt u3 (.int 2000))).bind fun u4 => (asB u4)).bind fun c5 => (cond c5 none ((gR1 q0).bind fun l21 => ((foldX (fun d7 v6 => (((gAdd d7 (.int 1)).bind fun u18 => (gR2 u18 q0)).bind fun l19 => ((foldX (fun d10 v9 => ((((((x_lots_between d7 d10).bind fun u12 => (seqD u12)).bind fun s14 => compM (fun d13 => (some (.tuple [d7, d10, d13]))) s14).bind fun l15 => some (.list l15)).bind fun u17 => (exX v9 u17)).bind fun r16 => (some r16))) l19 (v6 : (List PyData))).bind fun v11 => (some v11)))) l21 ([] : (List PyData))).bind fun v8 => ((gSort3 (.list v8)).bind fun d20 => (some d20))))))
theorem t_all_arcs (q0 : PyData) (r : List PyData) (h : x_all_arcs q0 = some r) : m_all_arcs [.sh q0] = some (eL r, [.sh q0]) := by
  unfold x_all_arcs at h
  refine run_w rfl [some (.sh q0), none, none, none, none] rfl ?_
  unfold b_all_arcs
  exact (ws_cons (ws_if (ct_p (xt_bl (XV.r (xv_2 (XV.r (xv_2 (XV.r (xv_2 (XV.r (xv_2 (XV.r xv_cst) (XS.r (xs_var rfl)))) (XS.r (xs_var rfl)))) (XV.r xv_cst))) (XV.r xv_cst)))) h fun c5 h => (br2 h (fun h => (ws_cons (nomatch h))) (fun h => (ws_nil (ws_cons (ws_set (co_p0 (xo_lstn xn_nil) ⟨rfl, (ws_cons (ws_fold (fun (v : (List PyData)) st => ∃ z2 z3 : Option M, st = [some (.sh q0), some (.ol false v), z2, z3, none] ∧ nZ z2 = true ∧ nZ z3 = true) ([] : (List PyData)) (ci_p (xi_rg1 (XS.r (xs_var rfl))) h fun l21 h => ⟨h, ⟨none, none, rfl, rfl, rfl⟩⟩) (fun d7 v6 st1 r t h => by obtain ⟨z2, z3, rfl, hz2, hz3⟩ := t; exact ⟨_, x_gn (x_op rfl (nZ_oZ hz2)), (ws_cons (ws_fold (fun (v : (List PyData)) st => ∃ z3 : Option M, st = [some (.sh q0), some (.ol false v), some (.sh d7), z3, none] ∧ nZ z3 = true) (v6 : (List PyData)) (ci_p (xi_rg2 (XV.r (xv_2 (XS.r (xs_var rfl)) (XV.r xv_cst))) (XS.r (xs_var rfl))) h fun l19 h => ⟨h, ⟨z3, rfl, hz3⟩⟩) (fun d10 v9 st1 r t h => by obtain ⟨z3, rfl, hz3⟩ := t; exact ⟨_, x_gn (x_op rfl (nZ_oZ hz3)), (ws_cons (ws_exd rfl (XV.s (xv_frL (xl_comp (xi_seq (XV.s (xv_frS (xo_call2 t_lots_between (xs_var rfl) (xs_var rfl))))) rfl (fun d13 => (xh_1 rfl rfl rfl (xf_all (XV.s (xv_tupn (xn_cons (xs_var rfl) (xn_cons (xs_var rfl) (xn_cons (xs_var rfl) xn_nil))))))))))) h fun r16 h => (ws_nil (by cases h; exact ⟨.inl rfl, ⟨some (.sh d10), rfl, rfl⟩⟩))))⟩) (fun v11 st1 t h => by obtain ⟨z3, rfl, hz3⟩ := t; exact (ws_nil (by cases h; exact ⟨.inl rfl, ⟨some (.sh d7), z3, rfl, rfl, hz3⟩⟩)))))⟩) (fun v8 st1 t h => by obtain ⟨z2, z3, rfl, hz2, hz3⟩ := t; exact (ws_cons (ws_ret (co_p (xo_1 (xd_var rfl rfl)) h fun d20 h => (by cases h; exact ⟨rfl, rfl⟩)))))))⟩)))))))))
def x_right_of (q0 : PyData) : Option (PyData) :=
  (((((((gIx2 q0 (.int 0)).bind fun u1 => (gAdd u1 (.int 1))).bind fun u2 => ((gIx2 q0 (.int 1)).bind fun u3 => (gR2 u2 u3))).bind fun s8 => compX (fun d4 => ((((gIx2 q0 (.int 2)).bind fun u5 => (gNotIn2 d4 u5)).bind fun u6 => (asB u6)).bind fun c7 => cond c7 (some (some d4)) (some none))) s8).bind fun l9 => some (.list l9)).bind fun u10 => (gTuple u10)).bind fun d11 => (some d11))
theorem t_right_of (q0 : PyData) (r : PyData) (h : x_right_of q0 = some r) : m_right_of [.sh q0] = some (M.sh r, [.sh q0]) := by
  unfold x_right_of at h
  refine run_w rfl [some (.sh q0), none] rfl ?_
  unfold b_right_of
  exact (ws_cons (ws_ret (co_p (xo_sh (XV.s (xv_1 (XV.r (xv_frL (xl_comp (xi_rg2 (XV.r (xv_2 (XV.r (xv_2 (XS.r (xs_var rfl)) (XV.r xv_cst))) (XV.r xv_cst))) (XV.r (xv_2 (XS.r (xs_var rfl)) (XV.r xv_cst)))) rfl (fun d4 => (xh_1 rfl rfl rfl (xf_if (xt_bl (XV.r (xv_2 (XS.r (xs_var rfl)) (XV.r (xv_2 (XS.r (xs_var rfl)) (XV.r xv_cst)))))) (xs_var rfl)))))))))) h fun d11 h => (by cases h; exact ⟨rfl, rfl⟩))))
def x_low_row (q0 : PyData) (q1 : PyData) : Option (PyData) :=
  (unT3 q1 fun a1 a2 a3 => ((((gRL1 a1).bind fun s15 => ((seqD a3).bind fun s13 => ((((x_right_of q1).bind fun u9 => ((seqD u9).bind fun s8 => ((gAdd a2 (.int 1)).bind fun u6 => ((gRL2 u6 q0).bind fun s5 => (some []).bind fun l4 => some (s5 ++ l4))).bind fun l7 => some (s8 ++ l7))).bind fun l10 => some (a1 :: l10)).bind fun l11 => some (a2 :: l11)).bind fun l12 => some (s13 ++ l12)).bind fun l14 => some (s15 ++ l14)).bind mkT).bind fun d16 => (some d16)))
theorem t_low_row (q0 : PyData) (q1 : PyData) (r : PyData) (h : x_low_row q0 q1 = some r) : m_low_row [.sh q0, .sh q1] = some (M.sh r, [.sh q0, .sh q1]) := by
  unfold x_low_row at h
  refine run_w rfl [some (.sh q0), some (.sh q1), none, none, none] rfl ?_
  unfold b_low_row
  exact (ws_cons (ws_asg (co_p0 (xo_sh (xs_var rfl)) ⟨_, rfl, (tg_u3 h fun a1 a2 a3 h => ⟨_, x_gp rfl (x_g1 (x_gn rfl) (x_g1 (x_gn rfl) (x_g1 (x_gn rfl) x_g0))), (ws_cons (ws_ret (co_p (xo_sh (XV.s (xv_tup (xa_starRg1 (XS.r (xs_var rfl)) (xa_star (xs_var rfl) (xa_cons (xs_var rfl) (xa_cons (xs_var rfl) (xa_star (XV.s (xv_frS (xo_call1 t_right_of (xs_var rfl)))) (xa_starRg2 (XV.r (xv_2 (XS.r (xs_var rfl)) (XV.r xv_cst))) (XS.r (xs_var rfl)) (XAn.a xn_nil)))))))))) h fun d16 h => (by cases h; exact ⟨rfl, rfl⟩))))⟩)⟩)))
def x_sides_exchanged (q0 : PyData) : Option (PyData) :=
  ((((gIx2 q0 (.int 0)).bind fun u5 => ((gIx2 q0 (.int 1)).bind fun u3 => ((x_right_of q0).bind fun u1 => some [u1]).bind fun l2 => some (u3 :: l2)).bind fun l4 => some (u5 :: l4)).bind fun l6 => some (.tuple l6)).bind fun d7 => (some d7))
theorem t_sides_exchanged (q0 : PyData) (r : PyData) (h : x_sides_exchanged q0 = some r) : m_sides_exchanged [.sh q0] = some (M.sh r, [.sh q0]) := by
  unfold x_sides_exchanged at h
  refine run_w rfl [some (.sh q0)] rfl ?_
  unfold b_sides_exchanged
  exact (ws_cons (ws_ret (co_p (xo_sh (XV.s (xv_tupn (xn_cons (XV.s (xv_2 (XS.r (xs_var rfl)) (XV.r xv_cst))) (xn_cons (XV.s (xv_2 (XS.r (xs_var rfl)) (XV.r xv_cst))) (xn_cons (XV.s (xv_frS (xo_call1 t_right_of (xs_var rfl)))) xn_nil)))))) h fun d7 h => (by cases h; exact ⟨rfl, rfl⟩))))
def x_high_row (q0 : PyData) (q1 : PyData) : Option (PyData) :=
  ((((x_sides_exchanged q1).bind fun u1 => (x_low_row q0 u1)).bind fun u2 => (gRevT u2)).bind fun d3 => (some d3))
theorem t_high_row (q0 : PyData) (q1 : PyData) (r : PyData) (h : x_high_row q0 q1 = some r) : m_high_row [.sh q0, .sh q1] = some (M.sh r, [.sh q0, .sh q1]) := by
  unfold x_high_row at h
  refine run_w rfl [some (.sh q0), some (.sh q1)] rfl ?_
  unfold b_high_row
  exact (ws_cons (ws_ret (co_p (xo_sh (XV.s (xv_1 (XV.r (xv_frS (xo_call2 t_low_row (xs_var rfl) (XV.s (xv_frS (xo_call1 t_sides_exchanged (xs_var rfl)))))))))) h fun d3 h => (by cases h; exact ⟨rfl, rfl⟩))))
def x_arc_at_step (q0 : PyData) (q1 : PyData) : Option (PyData) :=
  ((((((asI q1).bind fun i1 => some (some i1)).bind fun u4 => (((gAdd q1 (.int 2)).bind fun u3 => ((asI u3).bind fun i2 => some (some i2))).bind fun u5 => (gSl q0 u4 u5))).bind fun u6 => (gSort3 u6)).bind fun l7 => some (.list l7)).bind fun d8 => (unL2 d8 fun a9 a10 => ((((((((((((((asI q1).bind fun i11 => some (some i11)).bind fun u12 => (gSl q0 none u12)).bind fun u13 => (seqD u13)).bind fun s19 => compX (fun d14 => ((((gLt a9 d14).bind fun d16 => (asB d16).bind fun c15 => cond c15 (gLt d14 a10) (some (.bool false))).bind fun u17 => (asB u17)).bind fun c18 => cond c18 (some (some d14)) (some none))) s19).bind fun l20 => some (.list l20)).bind fun u21 => (gSort3 u21)).bind fun l22 => some (.list l22)).bind fun u23 => (gTuple u23)).bind fun u24 => some [u24]).bind fun l25 => some (a10 :: l25)).bind fun l26 => some (a9 :: l26)).bind fun l27 => some (.tuple l27)).bind fun d28 => (some d28))))
theorem t_arc_at_step (q0 : PyData) (q1 : PyData) (r : PyData) (h : x_arc_at_step q0 q1 = some r) : m_arc_at_step [.sh q0, .sh q1] = some (M.sh r, [.sh q0, .sh q1]) := by
  unfold x_arc_at_step at h
  refine run_w rfl [some (.sh q0), some (.sh q1), none, none, none] rfl ?_
  unfold b_arc_at_step
  exact (ws_cons (ws_asg (co_p (xo_sh (XV.s (xv_frL (xo_1 (XV.r (xv_3 (XS.r (xs_var rfl)) (xp_some (XS.r (xs_var rfl))) (xp_some (XV.r (xv_2 (XS.r (xs_var rfl)) (XV.r xv_cst)))))))))) h fun d8 h => ⟨_, rfl, (tg_l2 h fun a9 a10 h => ⟨_, x_gp2 rfl (x_g1 (x_gn rfl) (x_g1 (x_gn rfl) x_g0)), (ws_cons (ws_ret (co_p (xo_sh (XV.s (xv_tupn (xn_cons (xs_var rfl) (xn_cons (xs_var rfl) (xn_cons (XV.s (xv_1 (XV.r (xv_frL (xo_1 (XV.r (xv_frL (xl_comp (xi_seq (XV.s (xv_3 (XS.r (xs_var rfl)) xp_none (xp_some (XS.r (xs_var rfl)))))) rfl (fun d14 => (xh_1 rfl rfl rfl (xf_if (xt_bl (XV.r (xv_chain (XS.r (xs_var rfl)) (XS.r (xs_var rfl)) (XS.r (xs_var rfl))))) (xs_var rfl)))))))))))) xn_nil)))))) h fun d28 h => (by cases h; exact ⟨rfl, rfl⟩))))⟩)⟩)))
def x_arcs_of (q0 : PyData) : Option (PyData) :=
  ((((((((x_drops q0).bind fun u1 => (seqD u1)).bind fun s4 => compM (fun d2 => (x_arc_at_step q0 d2)) s4).bind fun l5 => some (.list l5)).bind fun u6 => (gSort3 u6)).bind fun l7 => some (.list l7)).bind fun u8 => (gTuple u8)).bind fun d9 => (some d9))
theorem t_arcs_of (q0 : PyData) (r : PyData) (h : x_arcs_of q0 = some r) : m_arcs_of [.sh q0] = some (M.sh r, [.sh q0]) := by
  unfold x_arcs_of at h
  refine run_w rfl [some (.sh q0), none] rfl ?_
  unfold b_arcs_of
  exact (ws_cons (ws_ret (co_p (xo_sh (XV.s (xv_1 (XV.r (xv_frL (xo_1 (XV.r (xv_frL (xl_comp (xi_seq (XV.s (xv_frS (xo_call1 t_drops (xs_var rfl))))) rfl (fun d2 => (xh_1 rfl rfl rfl (xf_all (XV.s (xv_frS (xo_call2 t_arc_at_step (xs_var rfl) (xs_var rfl)))))))))))))))) h fun d9 h => (by cases h; exact ⟨rfl, rfl⟩))))
def x_arc_of_row (q0 : PyData) : Option (PyData) :=
  ((x_arcs_of q0).bind fun d1 => ((((gLen2 d1).bind fun u2 => (gNe u2 (.int 1))).bind fun u3 => (asB u3)).bind fun c4 => (cond c4 none ((gIx2 d1 (.int 0)).bind fun d5 => (some d5)))))
theorem t_arc_of_row (q0 : PyData) (r : PyData) (h : x_arc_of_row q0 = some r) : m_arc_of_row [.sh q0] = some (M.sh r, [.sh q0]) := by
  unfold x_arc_of_row at h
  refine run_w rfl [some (.sh q0), none] rfl ?_
  unfold b_arc_of_row
  exact (ws_cons (ws_set (co_p (xo_shfS (xo_call1 t_arcs_of (xs_var rfl))) h fun d1 h => ⟨rfl, (ws_cons (ws_if (ct_p (xt_bl (XV.r (xv_2 (XV.r (xv_1 (XS.r (xs_var rfl)))) (XV.r xv_cst)))) h fun c4 h => (br2 h (fun h => (ws_cons (nomatch h))) (fun h => (ws_nil (ws_cons (ws_ret (co_p (xo_sh (XV.s (xv_2 (XS.r (xs_var rfl)) (XV.r xv_cst)))) h fun d5 h => (by cases h; exact ⟨rfl, rfl⟩))))))))))⟩)))
def x_runs_along (q0 : PyData) (q1 : PyData) : Option (PyData) :=
  (unT3 q1 fun a1 a2 a3 => ((((gIx2 q0 (.int 0)).bind fun u4 => (gLe u4 a1)).bind fun u19 => ((asB u19).bind fun c18 => cond c18 (((gIx2 q0 (.int 1)).bind fun u5 => (gLe a2 u5)).bind fun u17 => ((asB u17).bind fun c16 => cond c16 ((((((gIx2 q0 (.int 2)).bind fun u6 => (seqD u6)).bind fun s12 => compX (fun d7 => ((((gLt a1 d7).bind fun d9 => (asB d9).bind fun c8 => cond c8 (gLt d7 a2) (some (.bool false))).bind fun u10 => (asB u10)).bind fun c11 => cond c11 (some (some d7)) (some none))) s12).bind fun l13 => some (.list l13)).bind fun u14 => (gTuple u14)).bind fun u15 => (gEq a3 u15)) (some (.bool false)))) (some (.bool false)))).bind fun d20 => (some d20)))
theorem t_runs_along (q0 : PyData) (q1 : PyData) (r : PyData) (h : x_runs_along q0 q1 = some r) : m_runs_along [.sh q0, .sh q1] = some (M.sh r, [.sh q0, .sh q1]) := by
  unfold x_runs_along at h
  refine run_w rfl [some (.sh q0), some (.sh q1), none, none, none, none] rfl ?_
  unfold b_runs_along
  exact (ws_cons (ws_asg (co_p0 (xo_sh (xs_var rfl)) ⟨_, rfl, (tg_u3 h fun a1 a2 a3 h => ⟨_, x_gp rfl (x_g1 (x_gn rfl) (x_g1 (x_gn rfl) (x_g1 (x_gn rfl) x_g0))), (ws_cons (ws_ret (co_p (xo_sh (XV.s (xv_an (XV.r (xv_2 (XV.r (xv_2 (XS.r (xs_var rfl)) (XV.r xv_cst))) (XS.r (xs_var rfl)))) (xv_an (XV.r (xv_2 (XS.r (xs_var rfl)) (XV.r (xv_2 (XS.r (xs_var rfl)) (XV.r xv_cst))))) (xv_2 (XS.r (xs_var rfl)) (XV.r (xv_1 (XV.r (xv_frL (xl_comp (xi_seq (XV.s (xv_2 (XS.r (xs_var rfl)) (XV.r xv_cst)))) rfl (fun d7 => (xh_1 rfl rfl rfl (xf_if (xt_bl (XV.r (xv_chain (XS.r (xs_var rfl)) (XS.r (xs_var rfl)) (XS.r (xs_var rfl))))) (xs_var rfl)))))))))))))) h fun d20 h => (by cases h; exact ⟨rfl, rfl⟩))))⟩)⟩)))
def x_is_stretch (q0 : PyData) (q1 : PyData) : Option (PyData) :=
  ((gSl q0 none (some 2)).bind fun d1 => (unT2 d1 fun a2 a3 => ((((((gIx2 q1 (.int 0)).bind fun u4 => (gNe a2 u4)).bind fun u5 => (asB u5)).bind fun c8 => cond c8 (((x_right_of q1).bind fun u6 => (gNotIn2 a2 u6)).bind fun u7 => (asB u7)) (some false)).bind fun c14 => cond c14 (some true) ((((gIx2 q1 (.int 1)).bind fun u9 => (gNe a3 u9)).bind fun u10 => (asB u10)).bind fun c13 => cond c13 (((gIx2 q1 (.int 2)).bind fun u11 => (gNotIn2 a3 u11)).bind fun u12 => (asB u12)) (some false))).bind fun c15 => (cond c15 (some (.bool false)) ((x_runs_along q1 q0).bind fun d16 => (some d16))))))
theorem t_is_stretch (q0 : PyData) (q1 : PyData) (r : PyData) (h : x_is_stretch q0 q1 = some r) : m_is_stretch [.sh q0, .sh q1] = some (M.sh r, [.sh q0, .sh q1]) := by
  unfold x_is_stretch at h
  refine run_w rfl [some (.sh q0), some (.sh q1), none, none] rfl ?_
  unfold b_is_stretch
  exact (ws_cons (ws_asg (co_p (xo_sh (XV.s (xv_3 (XS.r (xs_var rfl)) xp_none (xp_some (XV.r xv_cst))))) h fun d1 h => ⟨_, rfl, (tg_u2 h fun a2 a3 h => ⟨_, x_gp rfl (x_g1 (x_gn rfl) (x_g1 (x_gn rfl) x_g0)), (ws_cons (ws_if (ct_p (xt_or (xt_an (xt_bl (XV.r (xv_2 (XS.r (xs_var rfl)) (XV.r (xv_2 (XS.r (xs_var rfl)) (XV.r xv_cst)))))) (xt_bl (XV.r (xv_2 (XS.r (xs_var rfl)) (XV.r (xv_frS (xo_call1 t_right_of (xs_var rfl)))))))) (xt_an (xt_bl (XV.r (xv_2 (XS.r (xs_var rfl)) (XV.r (xv_2 (XS.r (xs_var rfl)) (XV.r xv_cst)))))) (xt_bl (XV.r (xv_2 (XS.r (xs_var rfl)) (XV.r (xv_2 (XS.r (xs_var rfl)) (XV.r xv_cst)))))))) h fun c15 h => (br2 h (fun h => (ws_cons (ws_ret (co_p0 (xo_sh (XV.s xv_cst)) (by cases h; exact ⟨rfl, rfl⟩))))) (fun h => (ws_nil (ws_cons (ws_ret (co_p (xo_call2 t_runs_along (xs_var rfl) (xs_var rfl)) h fun d16 h => (by cases h; exact ⟨rfl, rfl⟩))))))))))⟩)⟩)))
def x_has_one_drop (q0 : PyData) : Option (PyData) :=
  ((((x_drops q0).bind fun u1 => (gLen2 u1)).bind fun u2 => (gEq u2 (.int 1))).bind fun d3 => (some d3))
theorem t_has_one_drop (q0 : PyData) (r : PyData) (h : x_has_one_drop q0 = some r) : m_has_one_drop [.sh q0] = some (M.sh r, [.sh q0]) := by
  unfold x_has_one_drop at h
  refine run_w rfl [some (.sh q0)] rfl ?_
  unfold b_has_one_drop
  exact (ws_cons (ws_ret (co_p (xo_sh (XV.s (xv_2 (XV.r (xv_1 (XV.r (xv_frS (xo_call1 t_drops (xs_var rfl)))))) (XV.r xv_cst)))) h fun d3 h => (by cases h; exact ⟨rfl, rfl⟩))))
def x_one_drop_rows (q0 : PyData) : Option (List PyData) :=
  ((((((gShl (.int 1) q0).bind fun u1 => (gSub u1 q0)).bind fun u2 => (gSub u2 (.int 1))).bind fun u3 => (gGt u3 (.int 2000))).bind fun u4 => (asB u4)).bind fun c5 => (cond c5 none (((gShl (.int 1) q0).bind fun u31 => (gR1 u31)).bind fun l32 => ((foldX (fun d7 v6 => ((((gR1 q0).bind fun s14 => compX (fun d9 => (((((gShr d7 d9).bind fun u10 => (gAnd u10 (.int 1))).bind fun u11 => (gEq u11 (.int 1))).bind fun u12 => (asB u12)).bind fun c13 => cond c13 (some (some d9)) (some none))) s14).bind fun l15 => some (.list l15)).bind fun d16 => ((((((gR1 q0).bind fun s22 => compX (fun d17 => (((((gShr d7 d17).bind fun u18 => (gAnd u18 (.int 1))).bind fun u19 => (gEq u19 (.int 0))).bind fun u20 => (asB u20)).bind fun c21 => cond c21 (some (some d17)) (some none))) s22).bind fun l23 => some (.list l23)).bind fun u24 => (gAdd d16 u24)).bind fun u25 => (gTuple u25)).bind fun d26 => (((x_has_one_drop d26).bind fun u27 => (truD u27)).bind fun c28 => (cond c28 ((apX v6 d26).bind fun r29 => (some r29)) (some v6)))))) l32 ([] : (List PyData))).bind fun v8 => ((gSort3 (.list v8)).bind fun d30 => (some d30))))))
theorem t_one_drop_rows (q0 : PyData) (r : List PyData) (h : x_one_drop_rows q0 = some r) : m_one_drop_rows [.sh q0] = some (eL r, [.sh q0]) := by
  unfold x_one_drop_rows at h
  refine run_w rfl [some (.sh q0), none, none, none, none, none] rfl ?_
  unfold b_one_drop_rows
  exact (ws_cons (ws_if (ct_p (xt_bl (XV.r (xv_2 (XV.r (xv_2 (XV.r (xv_2 (XV.r (xv_2 (XV.r xv_cst) (XS.r (xs_var rfl)))) (XS.r (xs_var rfl)))) (XV.r xv_cst))) (XV.r xv_cst)))) h fun c5 h => (br2 h (fun h => (ws_cons (nomatch h))) (fun h => (ws_nil (ws_cons (ws_set (co_p0 (xo_lstn xn_nil) ⟨rfl, (ws_cons (ws_fold (fun (v : (List PyData)) st => ∃ z2 z3 z4 : Option M, st = [some (.sh q0), some (.ol false v), z2, z3, z4, none] ∧ nZ z2 = true ∧ nZ z3 = true ∧ nZ z4 = true) ([] : (List PyData)) (ci_p (xi_rg1 (XV.r (xv_2 (XV.r xv_cst) (XS.r (xs_var rfl))))) h fun l32 h => ⟨h, ⟨none, none, none, rfl, rfl, rfl, rfl⟩⟩) (fun d7 v6 st1 r t h => by obtain ⟨z2, z3, z4, rfl, hz2, hz3, hz4⟩ := t; exact ⟨_, x_gn (x_op rfl (nZ_oZ hz2)), (ws_cons (ws_set (co_p (xo_shfL (xl_comp (xi_rg1 (XS.r (xs_var rfl))) rfl (fun d9 => (xh_1 rfl rfl rfl (xf_if (xt_bl (XV.r (xv_2 (XV.r (xv_2 (XV.r (xv_2 (XS.r (xs_var rfl)) (XS.r (xs_var rfl)))) (XV.r xv_cst))) (XV.r xv_cst)))) (xs_var rfl)))))) h fun d16 h => ⟨(x_op rfl (nZ_oZ hz3)), (ws_cons (ws_set (co_p (xo_sh (XV.s (xv_1 (XV.r (xv_2 (XS.r (xs_var rfl)) (XV.r (xv_frL (xl_comp (xi_rg1 (XS.r (xs_var rfl))) rfl (fun d17 => (xh_1 rfl rfl rfl (xf_if (xt_bl (XV.r (xv_2 (XV.r (xv_2 (XV.r (xv_2 (XS.r (xs_var rfl)) (XS.r (xs_var rfl)))) (XV.r xv_cst))) (XV.r xv_cst)))) (xs_var rfl)))))))))))) h fun d26 h => ⟨(x_op rfl (nZ_oZ hz4)), (ws_cons (ws_if (ct_p (xt_tr (XV.r (xv_frS (xo_call1 t_has_one_drop (xs_var rfl))))) h fun c28 h => (br2 h (fun h => (ws_cons (ws_app rfl (xs_var rfl) h fun r29 h => (ws_nil (ws_nil (by cases h; exact ⟨.inl rfl, ⟨some (.sh d7), some (.sh d16), some (.sh d26), rfl, rfl, rfl, rfl⟩⟩)))))) (fun h => (ws_nil (ws_nil (by cases h; exact ⟨.inl rfl, ⟨some (.sh d7), some (.sh d16), some (.sh d26), rfl, rfl, rfl, rfl⟩⟩))))))))⟩)))⟩)))⟩) (fun v8 st1 t h => by obtain ⟨z2, z3, z4, rfl, hz2, hz3, hz4⟩ := t; exact (ws_cons (ws_ret (co_p (xo_1 (xd_var rfl rfl)) h fun d30 h => (by cases h; exact ⟨rfl, rfl⟩)))))))⟩)))))))))
def x__law_source (q0 : PyData) : Option Src := match m__law_source [.sh q0] with
  | some (.src s, _) => some s
  | _ => none
theorem t__law_source (q0 : PyData) (s : Src) (h : x__law_source q0 = some s) : m__law_source [.sh q0] = some (.src s, [.sh q0]) := by
  unfold x__law_source at h
  split at h
  · rename_i e
    cases h
    have e2 := e
    unfold m__law_source at e2
    rw [run_sh1 e2] at e
    exact e
  · cases h
def x__law_pick (s : Src) (q1 : PyData) : Option ((PyData) × Src) := match m__law_pick [.src s, .sh q1] with
  | some (.sh r, .src s' :: _) => some (r, s')
  | _ => none
theorem t__law_pick (s : Src) (q1 : PyData) (r : PyData) (s' : Src) (h : x__law_pick s q1 = some (r, s')) : m__law_pick [.src s, .sh q1] = some (M.sh r, [.src s', .sh q1]) := by
  unfold x__law_pick at h
  split at h
  · rename_i e
    cases h
    have e2 := e
    unfold m__law_pick at e2
    obtain ⟨s2, e3⟩ := run_ss e2
    cases e3
    exact e
  · cases h
def x__law_arc (s : Src) (q1 : PyData) : Option (((PyData) × Src)) :=
  ((gSub q1 (.int 1)).bind fun d1 => ((x__law_pick s d1).bind fun p2 => ((gAdd (.int 1) p2.1).bind fun d3 => ((x__law_pick p2.2 d3).bind fun p4 => (((gAdd p4.1 (.int 1)).bind fun u5 => (gR2 u5 d3)).bind fun l12 => (compS (fun d8 s6 => ((x__law_pick s6 (.int 2)).bind fun p9 => ((gEq p9.1 (.int 0)).bind fun d10 => ((asB d10).bind fun c11 => (cond c11 (some (some d8, p9.2)) (some (none, p9.2))))))) l12 p4.2).bind fun r13 => ((gTuple (.list r13.1)).bind fun d14 => (some ((.tuple [p4.1, d3, d14]), r13.2))))))))
theorem t__law_arc (s : Src) (q1 : PyData) (r : PyData) (s' : Src) (h : x__law_arc s q1 = some (r, s')) : m__law_arc [.src s, .sh q1] = some (M.sh r, [.src s', .sh q1]) := by
  unfold x__law_arc at h
  refine run_w rfl [some (.src s), some (.sh q1), none, none, none] rfl ?_
  unfold b__law_arc
  exact (ws_cons (ws_set (co_sh (ce_2 (ce_v0 xv_cst (ce_fr (co_callS rfl (ca_raw (cr_cons (ce_v (xv_2 (XS.r (xs_var rfl)) (XV.r xv_cst)) h fun d1 h => (cr_nil ⟨_, _, rfl, ⟨_, rfl, cs1 t__law_pick h fun p2 h => ⟨_, rfl, ⟨_, rfl, _, rfl, lf h fun d3 h => ⟨_, _, rfl, ⟨rfl, (ws_cons (ws_set (co_shf (co_callS rfl (ca_raw (cr_cons (ce_var rfl (cr_nil ⟨_, _, rfl, ⟨_, rfl, cs1 t__law_pick h fun p4 h => ⟨rfl, _, rfl, ⟨rfl, (ws_cons (ws_ret (co_sh (ce_tup (ca_raw (cr_cons (ce_var rfl (cr_cons (ce_var rfl (cr_cons (ce_1 (ce_fr (co_compS (j := 0) (xi_rg2 (XV.r (xv_2 (XS.r (xs_var rfl)) (XV.r xv_cst))) (XS.r (xs_var rfl))) rfl (by decide) rfl h (fun d8 s6 q7 h => ⟨_, rfl, (ct_bl (ce_2 (ce_fr (co_callS rfl (ca_raw (cr_cons (ce_v0 xv_cst (cr_nil ⟨_, _, rfl, ⟨_, rfl, cs1 t__law_pick h fun p9 h => ⟨_, rfl, (ce_v0 xv_cst ⟨_, rfl, _, rfl, lf h fun d10 h => (lfB h fun c11 h => (br2 h (fun h => (ce_var rfl ⟨_, _, rfl, by cases h; exact ⟨rfl, rfl, rfl⟩⟩)) (fun h => by cases h; exact ⟨rfl, rfl, rfl⟩)))⟩)⟩⟩⟩))))))))⟩) fun r13 h => ⟨_, rfl, ⟨_, rfl, lf h fun d14 h => (cr_nil ⟨_, _, rfl, ⟨le1000 rfl, ⟨_, _, rfl, (by cases h; exact ⟨rfl, rfl⟩)⟩⟩⟩)⟩⟩)))))))))))))⟩⟩⟩⟩))))))))⟩⟩⟩⟩⟩⟩)))))))))))
def x__law_right (q0 : PyData) : Option (PyData) :=
  (((((((gIx2 q0 (.int 0)).bind fun u1 => (gAdd u1 (.int 1))).bind fun u2 => ((gIx2 q0 (.int 1)).bind fun u3 => (gR2 u2 u3))).bind fun s8 => compX (fun d4 => ((((gIx2 q0 (.int 2)).bind fun u5 => (gNotIn2 d4 u5)).bind fun u6 => (asB u6)).bind fun c7 => cond c7 (some (some d4)) (some none))) s8).bind fun l9 => some (.list l9)).bind fun u10 => (gTuple u10)).bind fun d11 => (some d11))
theorem t__law_right (q0 : PyData) (r : PyData) (h : x__law_right q0 = some r) : m__law_right [.sh q0] = some (M.sh r, [.sh q0]) := by
  unfold x__law_right at h
  refine run_w rfl [some (.sh q0), none] rfl ?_
  unfold b__law_right
  exact (ws_cons (ws_ret (co_p (xo_sh (XV.s (xv_1 (XV.r (xv_frL (xl_comp (xi_rg2 (XV.r (xv_2 (XV.r (xv_2 (XS.r (xs_var rfl)) (XV.r xv_cst))) (XV.r xv_cst))) (XV.r (xv_2 (XS.r (xs_var rfl)) (XV.r xv_cst)))) rfl (fun d4 => (xh_1 rfl rfl rfl (xf_if (xt_bl (XV.r (xv_2 (XS.r (xs_var rfl)) (XV.r (xv_2 (XS.r (xs_var rfl)) (XV.r xv_cst)))))) (xs_var rfl)))))))))) h fun d11 h => (by cases h; exact ⟨rfl, rfl⟩))))
def x__law_pairs (q0 : PyData) : Option (List (PyData × PyData)) :=
  (((seqD q0).bind fun l19 => some (enD l19)).bind fun l20 => ((foldX (fun d2 v1 => (unT2 d2 fun a4 a5 => ((((((((((gAdd a4 (.int 1)).bind fun u7 => ((asI u7).bind fun i6 => some (some i6))).bind fun u8 => (gSl q0 u8 none)).bind fun u9 => (seqD u9)).bind fun s13 => compX (fun d10 => (((gLt d10 a5).bind fun u11 => (asB u11)).bind fun c12 => cond c12 (some (some (.tuple [(.tuple [d10, a5]), (.int 0)]))) (some none))) s13).bind fun l14 => some (.list l14)).bind fun u15 => (gDict u15)).bind fun l16 => some (.dict l16)).bind fun u18 => (gUpd v1 u18)).bind fun r17 => (some r17.2)))) l20 (([] : List (PyData × PyData)) : (List (PyData × PyData)))).bind fun v3 => (some v3)))
theorem t__law_pairs (q0 : PyData) (r : List (PyData × PyData)) (h : x__law_pairs q0 = some r) : m__law_pairs [.sh q0] = some (eD r, [.sh q0]) := by
  unfold x__law_pairs at h
  refine run_w rfl [some (.sh q0), none, none, none, none] rfl ?_
  unfold b__law_pairs
  exact (ws_cons (ws_set (co_p0 xo_d0 ⟨rfl, (ws_cons (ws_fold (fun (v : (List (PyData × PyData))) st => ∃ z2 z3 : Option M, st = [some (.sh q0), some (.od false v), z2, z3, none] ∧ nZ z2 = true ∧ nZ z3 = true) (([] : List (PyData × PyData)) : (List (PyData × PyData))) (ci_p (xi_en (xi_seq (xs_var rfl))) h fun l20 h => ⟨h, ⟨none, none, rfl, rfl, rfl⟩⟩) (fun d2 v1 st1 r t h => by obtain ⟨z2, z3, rfl, hz2, hz3⟩ := t; exact (tg_u2 h fun a4 a5 h => ⟨_, x_gp rfl (x_g1 (x_gn (x_op rfl (nZ_oZ hz2))) (x_g1 (x_gn (x_op rfl (nZ_oZ hz3))) x_g0)), (ws_cons (ws_expr (ce_dm rfl (XV.s (xv_frD (xo_d1 (XV.r (xv_frL (xl_comp (xi_seq (XV.s (xv_3 (XS.r (xs_var rfl)) (xp_some (XV.r (xv_2 (XS.r (xs_var rfl)) (XV.r xv_cst)))) xp_none))) rfl (fun d10 => (xh_1 rfl rfl rfl (xf_if (xt_bl (XV.r (xv_2 (XS.r (xs_var rfl)) (XS.r (xs_var rfl))))) (XV.s (xv_tupn (xn_cons (XV.s (xv_tupn (xn_cons (xs_var rfl) (xn_cons (xs_var rfl) xn_nil)))) (xn_cons (XV.s xv_cst) xn_nil))))))))))))) h fun r17 h => (ws_nil (by cases h; exact ⟨.inl rfl, ⟨some (.sh a4), some (.sh a5), rfl, rfl, rfl⟩⟩)))))⟩)) (fun v3 st1 t h => by obtain ⟨z2, z3, rfl, hz2, hz3⟩ := t; exact (ws_cons (ws_ret (co_mv rfl rfl (by cases h; exact ⟨rfl, rfl⟩)))))))⟩)))
def x__law_under (q0 : PyData) (q1 : PyData) : Option (PyData) :=
  (((x__law_pairs q1).bind fun l1 => some (.dict l1)).bind fun d2 => ((((((x__law_pairs q0).bind fun l3 => some (dKeys l3)).bind fun s7 => compX (fun d4 => (((gNotIn2 d4 d2).bind fun u5 => (asB u5)).bind fun c6 => cond c6 (some (some d4)) (some none))) s7).bind fun l8 => some (.list l8)).bind fun u9 => (gEq u9 (.list []))).bind fun d10 => (some d10)))
theorem t__law_under (q0 : PyData) (q1 : PyData) (r : PyData) (h : x__law_under q0 q1 = some r) : m__law_under [.sh q0, .sh q1] = some (M.sh r, [.sh q0, .sh q1]) := by
  unfold x__law_under at h
  refine run_w rfl [some (.sh q0), some (.sh q1), none, none] rfl ?_
  unfold b__law_under
  exact (ws_cons (ws_set (co_p (xo_shfD (xo_call1 t__law_pairs (xs_var rfl))) h fun d2 h => ⟨rfl, (ws_cons (ws_ret (co_p (xo_sh (XV.s (xv_2 (XV.r (xv_frL (xl_comp (xi_dk (xo_call1 t__law_pairs (xs_var rfl))) rfl (fun d4 => (xh_1 rfl rfl rfl (xf_if (xt_bl (XV.r (xv_2 (XS.r (xs_var rfl)) (XS.r (xs_var rfl))))) (xs_var rfl))))))) (XV.r (xv_frL (xo_lstn xn_nil)))))) h fun d10 h => (by cases h; exact ⟨rfl, rfl⟩))))⟩)))
def x__law_stretch (q0 : PyData) (q1 : PyData) : Option (PyData) :=
  (unT3 q0 fun a1 a2 a3 => ((((((gIx2 q1 (.int 0)).bind fun u4 => (gNe a1 u4)).bind fun u5 => (asB u5)).bind fun c8 => cond c8 (((x__law_right q1).bind fun u6 => (gNotIn2 a1 u6)).bind fun u7 => (asB u7)) (some false)).bind fun c14 => cond c14 (some true) ((((gIx2 q1 (.int 1)).bind fun u9 => (gNe a2 u9)).bind fun u10 => (asB u10)).bind fun c13 => cond c13 (((gIx2 q1 (.int 2)).bind fun u11 => (gNotIn2 a2 u11)).bind fun u12 => (asB u12)) (some false))).bind fun c15 => (cond c15 (some (.bool false)) (((((((gIx2 q1 (.int 2)).bind fun u16 => (seqD u16)).bind fun s22 => compX (fun d17 => ((((gLt a1 d17).bind fun d19 => (asB d19).bind fun c18 => cond c18 (gLt d17 a2) (some (.bool false))).bind fun u20 => (asB u20)).bind fun c21 => cond c21 (some (some d17)) (some none))) s22).bind fun l23 => some (.list l23)).bind fun u24 => (gTuple u24)).bind fun u25 => (gEq a3 u25)).bind fun d26 => (some d26)))))
theorem t__law_stretch (q0 : PyData) (q1 : PyData) (r : PyData) (h : x__law_stretch q0 q1 = some r) : m__law_stretch [.sh q0, .sh q1] = some (M.sh r, [.sh q0, .sh q1]) := by
  unfold x__law_stretch at h
  refine run_w rfl [some (.sh q0), some (.sh q1), none, none, none, none] rfl ?_
  unfold b__law_stretch
  exact (ws_cons (ws_asg (co_p0 (xo_sh (xs_var rfl)) ⟨_, rfl, (tg_u3 h fun a1 a2 a3 h => ⟨_, x_gp rfl (x_g1 (x_gn rfl) (x_g1 (x_gn rfl) (x_g1 (x_gn rfl) x_g0))), (ws_cons (ws_if (ct_p (xt_or (xt_an (xt_bl (XV.r (xv_2 (XS.r (xs_var rfl)) (XV.r (xv_2 (XS.r (xs_var rfl)) (XV.r xv_cst)))))) (xt_bl (XV.r (xv_2 (XS.r (xs_var rfl)) (XV.r (xv_frS (xo_call1 t__law_right (xs_var rfl)))))))) (xt_an (xt_bl (XV.r (xv_2 (XS.r (xs_var rfl)) (XV.r (xv_2 (XS.r (xs_var rfl)) (XV.r xv_cst)))))) (xt_bl (XV.r (xv_2 (XS.r (xs_var rfl)) (XV.r (xv_2 (XS.r (xs_var rfl)) (XV.r xv_cst)))))))) h fun c15 h => (br2 h (fun h => (ws_cons (ws_ret (co_p0 (xo_sh (XV.s xv_cst)) (by cases h; exact ⟨rfl, rfl⟩))))) (fun h => (ws_nil (ws_cons (ws_ret (co_p (xo_sh (XV.s (xv_2 (XS.r (xs_var rfl)) (XV.r (xv_1 (XV.r (xv_frL (xl_comp (xi_seq (XV.s (xv_2 (XS.r (xs_var rfl)) (XV.r xv_cst)))) rfl (fun d17 => (xh_1 rfl rfl rfl (xf_if (xt_bl (XV.r (xv_chain (XS.r (xs_var rfl)) (XS.r (xs_var rfl)) (XS.r (xs_var rfl))))) (xs_var rfl)))))))))))) h fun d26 h => (by cases h; exact ⟨rfl, rfl⟩))))))))))⟩)⟩)))
def x__law_along (q0 : PyData) (q1 : PyData) : Option (PyData) :=
  (unT3 q1 fun a1 a2 a3 => ((((gIx2 q0 (.int 0)).bind fun u4 => (gLe u4 a1)).bind fun u19 => ((asB u19).bind fun c18 => cond c18 (((gIx2 q0 (.int 1)).bind fun u5 => (gLe a2 u5)).bind fun u17 => ((asB u17).bind fun c16 => cond c16 ((((((gIx2 q0 (.int 2)).bind fun u6 => (seqD u6)).bind fun s12 => compX (fun d7 => ((((gLt a1 d7).bind fun d9 => (asB d9).bind fun c8 => cond c8 (gLt d7 a2) (some (.bool false))).bind fun u10 => (asB u10)).bind fun c11 => cond c11 (some (some d7)) (some none))) s12).bind fun l13 => some (.list l13)).bind fun u14 => (gTuple u14)).bind fun u15 => (gEq a3 u15)) (some (.bool false)))) (some (.bool false)))).bind fun d20 => (some d20)))
theorem t__law_along (q0 : PyData) (q1 : PyData) (r : PyData) (h : x__law_along q0 q1 = some r) : m__law_along [.sh q0, .sh q1] = some (M.sh r, [.sh q0, .sh q1]) := by
  unfold x__law_along at h
  refine run_w rfl [some (.sh q0), some (.sh q1), none, none, none, none] rfl ?_
  unfold b__law_along
  exact (ws_cons (ws_asg (co_p0 (xo_sh (xs_var rfl)) ⟨_, rfl, (tg_u3 h fun a1 a2 a3 h => ⟨_, x_gp rfl (x_g1 (x_gn rfl) (x_g1 (x_gn rfl) (x_g1 (x_gn rfl) x_g0))), (ws_cons (ws_ret (co_p (xo_sh (XV.s (xv_an (XV.r (xv_2 (XV.r (xv_2 (XS.r (xs_var rfl)) (XV.r xv_cst))) (XS.r (xs_var rfl)))) (xv_an (XV.r (xv_2 (XS.r (xs_var rfl)) (XV.r (xv_2 (XS.r (xs_var rfl)) (XV.r xv_cst))))) (xv_2 (XS.r (xs_var rfl)) (XV.r (xv_1 (XV.r (xv_frL (xl_comp (xi_seq (XV.s (xv_2 (XS.r (xs_var rfl)) (XV.r xv_cst)))) rfl (fun d7 => (xh_1 rfl rfl rfl (xf_if (xt_bl (XV.r (xv_chain (XS.r (xs_var rfl)) (XS.r (xs_var rfl)) (XS.r (xs_var rfl))))) (xs_var rfl)))))))))))))) h fun d20 h => (by cases h; exact ⟨rfl, rfl⟩))))⟩)⟩)))
def x__law_near (s : Src) (q1 : PyData) : Option (((PyData) × Src)) :=
  (unT3 q1 fun a1 a2 a3 => ((gSub a2 a1).bind fun d4 => ((x__law_pick s d4).bind fun p5 => ((gAdd a1 p5.1).bind fun d6 => ((gSub a2 a1).bind fun d7 => ((x__law_pick p5.2 d7).bind fun p8 => ((gSub a2 p8.1).bind fun d9 => ((((gLt d6 d9).bind fun u10 => (asB u10)).bind fun c11 => cond c11 (some (.tuple [d6, d9])) (some (.tuple [a1, a2]))).bind fun d12 => (unT2 d12 fun a13 a14 => (((gAdd a13 (.int 1)).bind fun u15 => (gR2 u15 a14)).bind fun l24 => (compS (fun d18 s16 => ((gIn2 d18 a3).bind fun d19 => ((x__law_pick s16 (.int 8)).bind fun p20 => ((gGt p20.1 (.int 0)).bind fun d21 => ((gEq d19 d21).bind fun d22 => ((asB d22).bind fun c23 => (cond c23 (some (some d18, p20.2)) (some (none, p20.2))))))))) l24 p8.2).bind fun r25 => ((gTuple (.list r25.1)).bind fun d26 => (some ((.tuple [a13, a14, d26]), r25.2)))))))))))))
theorem t__law_near (s : Src) (q1 : PyData) (r : PyData) (s' : Src) (h : x__law_near s q1 = some (r, s')) : m__law_near [.src s, .sh q1] = some (M.sh r, [.src s', .sh q1]) := by
  unfold x__law_near at h
  refine run_w rfl [some (.src s), some (.sh q1), none, none, none, none, none, none, none] rfl ?_
  unfold b__law_near
  exact (ws_cons (ws_asg (co_p0 (xo_sh (xs_var rfl)) ⟨_, rfl, (tg_u3 h fun a1 a2 a3 h => ⟨_, x_gp rfl (x_g1 (x_gn rfl) (x_g1 (x_gn rfl) (x_g1 (x_gn rfl) x_g0))), (ws_cons (ws_par (co_sh (ce_2 (ce_var rfl (ce_fr (co_callS rfl (ca_raw (cr_cons (ce_v (xv_2 (XS.r (xs_var rfl)) (XS.r (xs_var rfl))) h fun d4 h => (cr_nil ⟨_, _, rfl, ⟨_, rfl, cs1 t__law_pick h fun p5 h => ⟨_, rfl, ⟨_, rfl, _, rfl, lf h fun d6 h => ⟨_, _, rfl, (co_sh (ce_2 (ce_var rfl (ce_fr (co_callS rfl (ca_raw (cr_cons (ce_v (xv_2 (XS.r (xs_var rfl)) (XS.r (xs_var rfl))) h fun d7 h => (cr_nil ⟨_, _, rfl, ⟨_, rfl, cs1 t__law_pick h fun p8 h => ⟨_, rfl, ⟨_, rfl, _, rfl, lf h fun d9 h => ⟨_, _, rfl, ⟨rfl, rfl, (ws_cons (ws_asg (co_p (xo_sh (xs_if (xt_bl (XV.r (xv_2 (XS.r (xs_var rfl)) (XS.r (xs_var rfl))))) (XV.s (xv_tupn (xn_cons (xs_var rfl) (xn_cons (xs_var rfl) xn_nil)))) (XV.s (xv_tupn (xn_cons (xs_var rfl) (xn_cons (xs_var rfl) xn_nil)))))) h fun d12 h => ⟨_, rfl, (tg_u2 h fun a13 a14 h => ⟨_, x_gp rfl (x_g1 (x_gn rfl) (x_g1 (x_gn rfl) x_g0)), (ws_cons (ws_set (co_sh (ce_1 (ce_fr (co_compS (j := 0) (xi_rg2 (XV.r (xv_2 (XS.r (xs_var rfl)) (XV.r xv_cst))) (XS.r (xs_var rfl))) rfl (by decide) rfl h (fun d18 s16 q17 h => ⟨_, rfl, (ct_bl (ce_2 (ce_v (xv_2 (XS.r (xs_var rfl)) (XS.r (xs_var rfl))) h fun d19 h => (ce_2 (ce_fr (co_callS rfl (ca_raw (cr_cons (ce_v0 xv_cst (cr_nil ⟨_, _, rfl, ⟨_, rfl, cs1 t__law_pick h fun p20 h => ⟨_, rfl, (ce_v0 xv_cst ⟨_, rfl, _, rfl, lf h fun d21 h => ⟨_, rfl, _, rfl, lf h fun d22 h => (lfB h fun c23 h => (br2 h (fun h => (ce_var rfl ⟨_, _, rfl, by cases h; exact ⟨rfl, rfl, rfl⟩⟩)) (fun h => by cases h; exact ⟨rfl, rfl, rfl⟩)))⟩⟩)⟩⟩⟩))))))))))⟩) fun r25 h => ⟨_, rfl, ⟨_, rfl, lf h fun d26 h => ⟨_, _, rfl, ⟨rfl, (ws_cons (ws_ret (co_p0 (xo_sh (XV.s (xv_tupn (xn_cons (xs_var rfl) (xn_cons (xs_var rfl) (xn_cons (xs_var rfl) xn_nil)))))) (by cases h; exact ⟨rfl, rfl⟩))))⟩⟩⟩⟩))))))⟩)⟩)))⟩⟩⟩⟩⟩⟩)))))))))⟩⟩⟩⟩⟩)))))))))))⟩)⟩)))
def x_law (q0 : PyData) : Option (PyData) :=
  ((x__law_source q0).bind fun d1 => ((x__law_pick d1 (.int 4)).bind fun p2 => ((gAdd (.int 2) p2.1).bind fun d3 => ((((((x_all_arcs d3).bind fun l4 => some (.list l4)).bind fun u5 => (seqD u5)).bind fun s8 => compM (fun d6 => (x_low_row d3 d6)) s8).bind fun l9 => some (.list l9)).bind fun d10 => ((((((gSort3 d10).bind fun l11 => some (.list l11)).bind fun u13 => (((x_one_drop_rows d3).bind fun l12 => some (.list l12)).bind fun u14 => (gNe u13 u14))).bind fun u15 => (asB u15)).bind fun c24 => cond c24 (some true) (((((seqD d10).bind fun s20 => compX (fun d16 => ((((x_has_one_drop d16).bind fun u17 => (truD u17)).bind fun c18 => some (!c18)).bind fun c19 => cond c19 (some (some d16)) (some none))) s20).bind fun l21 => some (.list l21)).bind fun u22 => (gNe u22 (.list []))).bind fun u23 => (asB u23))).bind fun c25 => (cond c25 (some (.bool false)) ((((((seqD d10).bind fun s28 => compM (fun d26 => (x_arc_of_row d26)) s28).bind fun l29 => some (.list l29)).bind fun u31 => (((x_all_arcs d3).bind fun l30 => some (.list l30)).bind fun u32 => (gNe u31 u32))).bind fun u33 => (asB u33)).bind fun c34 => (cond c34 (some (.bool false)) ((gR1 (.int 8)).bind fun l108 => ((forX (ρ := PyData) (fun d36 v35 => (((((gFdiv d36 (.int 3)).bind fun u38 => (gMul u38 (.int 3))).bind fun u39 => (gSub d36 u39)).bind fun u40 => (gIx2 (.list [(.int 3), (.int 5), (.int 8)]) u40)).bind fun d41 => ((x__law_pick v35 d41).bind fun p42 => ((gAdd (.int 2) p42.1).bind fun d43 => ((x__law_arc p42.2 d43).bind fun p44 => ((((x__law_pick p44.2 (.int 3)).bind fun p46 => ((gGt p46.1 (.int 0)).bind fun d47 => ((asB d47).bind fun c48 => (cond c48 ((x__law_near p46.2 p44.1).bind fun p49 => (some (p49.2, p49.1))) ((x__law_arc p46.2 d43).bind fun p50 => (some (p50.2, p50.1))))))) : Option (Src × PyData)).bind fun v45 => ((seqD (.tuple [(.tuple [p44.1, v45.2]), (.tuple [v45.2, p44.1]), (.tuple [p44.1, p44.1])])).bind fun l105 => ((forX (ρ := PyData) (fun d52 v51 => (unT2 d52 fun a54 a55 => ((x__law_stretch a54 a55).bind fun d56 => ((x_low_row d43 a54).bind fun d57 => ((x_low_row d43 a55).bind fun d58 => ((((x_is_stretch a54 a55).bind fun u63 => ((x_is_under d57 d58).bind fun u61 => ((x__law_under d57 d58).bind fun u59 => some [u59]).bind fun l60 => some (u61 :: l60)).bind fun l62 => some (u63 :: l62)).bind fun l64 => some (.list l64)).bind fun d65 => ((((gRepr d65).bind fun u66 => ((gRepr (.list [d56, d56, d56])).bind fun u67 => (gNeS u66 u67))).bind fun u68 => (asB u68)).bind fun c69 => (cond c69 (some (.ret (.bool false))) ((x__law_along a55 a54).bind fun d70 => ((((((x_runs_along a55 a54).bind fun u71 => (gRepr u71)).bind fun u72 => ((gRepr d70).bind fun u73 => (gNeS u72 u73))).bind fun u74 => (asB u74)).bind fun c77 => cond c77 (some true) ((truD d56).bind fun c76 => cond c76 ((truD d70).bind fun c75 => some (!c75)) (some false))).bind fun c78 => (cond c78 (some (.ret (.bool false))) (some (.nxt ()))))))))))))) l105 (() : Unit)).bind fun z => unInr z (fun a104 => some (.ret a104)) fun v53 => ((seqD (.tuple [p44.1, v45.2])).bind fun l103 => ((forX (ρ := PyData) (fun d80 v79 => ((x_sides_exchanged d80).bind fun d82 => ((((((x_high_row d43 d80).bind fun u83 => (x_mirrored u83)).bind fun u84 => ((x_low_row d43 d82).bind fun u85 => (gNe u84 u85))).bind fun u86 => (asB u86)).bind fun c89 => cond c89 (some true) (((x_sides_exchanged d82).bind fun u87 => (gNe u87 d80)).bind fun u88 => (asB u88))).bind fun c90 => (cond c90 (some (.ret (.bool false))) ((((gRepr d82).bind fun u98 => (((((gIx2 d80 (.int 0)).bind fun u95 => ((gIx2 d80 (.int 1)).bind fun u93 => ((x__law_right d80).bind fun u91 => some [u91]).bind fun l92 => some (u93 :: l92)).bind fun l94 => some (u95 :: l94)).bind fun l96 => some (.tuple l96)).bind fun u97 => (gRepr u97)).bind fun u99 => (gNeS u98 u99))).bind fun u100 => (asB u100)).bind fun c101 => (cond c101 (some (.ret (.bool false))) (some (.nxt ())))))))) l103 (() : Unit)).bind fun z => unInr z (fun a102 => some (.ret a102)) fun v81 => (some (.nxt v45.1)))))))))))) l108 (p2.2 : Src)).bind fun z => unInr z (fun a107 => some a107) fun v37 => ((x_is_stretch (.tuple [(.int 1), (.int 2), (.tuple [])]) (.tuple [(.int 0), (.int 2), (.tuple [])])).bind fun d106 => (some d106))))))))))))
theorem t_law (q0 : PyData) (r : PyData) (h : x_law q0 = some r) : m_law [.sh q0] = some (M.sh r, [.sh q0]) := by
  unfold x_law at h
  refine run_w rfl [some (.sh q0), none, none, none, none, none, none, none, none, none, none, none, none, none, none, none] rfl ?_
  unfold b_law
  exact (ws_cons (ws_set (co_p (xo_call1 t__law_source (xs_var rfl)) h fun d1 h => ⟨rfl, (ws_cons (ws_set (co_sh (ce_2 (ce_v0 xv_cst (ce_fr (co_callS rfl (ca_raw (cr_cons (ce_v0 xv_cst (cr_nil ⟨_, _, rfl, ⟨_, rfl, cs1 t__law_pick h fun p2 h => ⟨_, rfl, ⟨_, rfl, _, rfl, lf h fun d3 h => ⟨_, _, rfl, ⟨rfl, (ws_cons (ws_set (co_p (xo_shfL (xl_comp (xi_seq (XV.s (xv_frL (xo_call1 t_all_arcs (xs_var rfl))))) rfl (fun d6 => (xh_1 rfl rfl rfl (xf_all (XV.s (xv_frS (xo_call2 t_low_row (xs_var rfl) (xs_var rfl))))))))) h fun d10 h => ⟨rfl, (ws_cons (ws_if (ct_p (xt_or (xt_bl (XV.r (xv_2 (XV.r (xv_frL (xo_1 (XS.r (xs_var rfl))))) (XV.r (xv_frL (xo_call1 t_one_drop_rows (xs_var rfl))))))) (xt_bl (XV.r (xv_2 (XV.r (xv_frL (xl_comp (xi_seq (xs_var rfl)) rfl (fun d16 => (xh_1 rfl rfl rfl (xf_if (xt_no (xt_tr (XV.r (xv_frS (xo_call1 t_has_one_drop (xs_var rfl)))))) (xs_var rfl))))))) (XV.r (xv_frL (xo_lstn xn_nil))))))) h fun c25 h => (br2 h (fun h => (ws_cons (ws_ret (co_p0 (xo_sh (XV.s xv_cst)) (by cases h; exact ⟨rfl, rfl⟩))))) (fun h => (ws_nil (ws_cons (ws_if (ct_p (xt_bl (XV.r (xv_2 (XV.r (xv_frL (xl_comp (xi_seq (xs_var rfl)) rfl (fun d26 => (xh_1 rfl rfl rfl (xf_all (XV.s (xv_frS (xo_call1 t_arc_of_row (xs_var rfl)))))))))) (XV.r (xv_frL (xo_call1 t_all_arcs (xs_var rfl))))))) h fun c34 h => (br2 h (fun h => (ws_cons (ws_ret (co_p0 (xo_sh (XV.s xv_cst)) (by cases h; exact ⟨rfl, rfl⟩))))) (fun h => (ws_nil (ws_cons (ws_for (fun a => GF [.sh q0] (M.sh a) [.sh q0]) (fun (v : Src) st => ∃ z2 z4 z5 z6 z7 z8 z9 z10 z11 z12 z13 z14 : Option M, st = [some (.sh q0), some (.src v), z2, some (.sh d10), z4, z5, z6, z7, z8, z9, z10, z11, z12, z13, z14, none] ∧ nZ z2 = true ∧ nZ z4 = true ∧ nZ z5 = true ∧ nZ z6 = true ∧ nZ z7 = true ∧ nZ z8 = true ∧ nZ z9 = true ∧ nZ z10 = true ∧ nZ z11 = true ∧ nZ z12 = true ∧ nZ z13 = true ∧ nZ z14 = true) (p2.2 : Src) (ci_p (xi_rg1 (XV.r xv_cst)) h fun l108 h => ⟨h, ⟨some (.sh d3), none, none, none, none, none, none, none, none, none, none, none, rfl, rfl, rfl, rfl, rfl, rfl, rfl, rfl, rfl, rfl, rfl, rfl, rfl⟩⟩) (fun d36 v35 st1 r t h => by obtain ⟨z2, z4, z5, z6, z7, z8, z9, z10, z11, z12, z13, z14, rfl, hz2, hz4, hz5, hz6, hz7, hz8, hz9, hz10, hz11, hz12, hz13, hz14⟩ := t; exact ⟨_, x_gn (x_op rfl (nZ_oZ hz4)), (ws_cons (ws_set (co_sh (ce_2 (ce_v0 xv_cst (ce_fr (co_callS rfl (ca_raw (cr_cons (ce_v (xv_2 (XV.r (xv_frL (xo_lstn (xn_cons (XV.s xv_cst) (xn_cons (XV.s xv_cst) (xn_cons (XV.s xv_cst) xn_nil)))))) (XV.r (xv_2 (XS.r (xs_var rfl)) (XV.r (xv_2 (XV.r (xv_2 (XS.r (xs_var rfl)) (XV.r xv_cst))) (XV.r xv_cst)))))) h fun d41 h => (cr_nil ⟨_, _, rfl, ⟨_, rfl, cs1 t__law_pick h fun p42 h => ⟨_, rfl, ⟨_, rfl, _, rfl, lf h fun d43 h => ⟨_, _, rfl, ⟨(x_op rfl (nZ_oZ hz2)), (ws_cons (ws_set (co_shf (co_callS rfl (ca_raw (cr_cons (ce_var rfl (cr_nil ⟨_, _, rfl, ⟨_, rfl, cs1 t__law_arc h fun p44 h => ⟨rfl, _, rfl, ⟨(x_op rfl (nZ_oZ hz5)), (ws_cons (ws_join (fun (v : Src × PyData) st => st = [some (.sh q0), some (.src v.1), some (.sh d43), some (.sh d10), some (.sh d36), some (.sh p44.1), some (.sh v.2), z7, z8, z9, z10, z11, z12, z13, z14, none]) h (fun v45 h => (ws_set (co_sh (ce_if (ct_bl (ce_2 (ce_fr (co_callS rfl (ca_raw (cr_cons (ce_v0 xv_cst (cr_nil ⟨_, _, rfl, ⟨_, rfl, cs1 t__law_pick h fun p46 h => ⟨_, rfl, (ce_v0 xv_cst ⟨_, rfl, _, rfl, lf h fun d47 h => (lfB h fun c48 h => (br2 h (fun h => (ce_fr (co_callS rfl (ca_raw (cr_cons (ce_var rfl (cr_nil ⟨_, _, rfl, ⟨_, rfl, cs1 t__law_near h fun p49 h => ⟨_, rfl, ⟨_, _, rfl, ⟨(x_op rfl (nZ_oZ hz6)), (by cases h; exact ⟨rfl, rfl⟩)⟩⟩⟩⟩⟩))))))) (fun h => (ce_fr (co_callS rfl (ca_raw (cr_cons (ce_var rfl (cr_nil ⟨_, _, rfl, ⟨_, rfl, cs1 t__law_arc h fun p50 h => ⟨_, rfl, ⟨_, _, rfl, ⟨(x_op rfl (nZ_oZ hz6)), (by cases h; exact ⟨rfl, rfl⟩)⟩⟩⟩⟩⟩)))))))))⟩)⟩⟩⟩)))))))))))) (fun v45 st1 t h => by obtain rfl := t; exact (ws_cons (ws_for (fun a => GF [.sh q0] (M.sh a) [.sh q0]) (fun (v : Unit) st => ∃ z7 z8 z9 z10 z11 z12 z13 : Option M, st = [some (.sh q0), some (.src v45.1), some (.sh d43), some (.sh d10), some (.sh d36), some (.sh p44.1), some (.sh v45.2), z7, z8, z9, z10, z11, z12, z13, z14, none] ∧ nZ z7 = true ∧ nZ z8 = true ∧ nZ z9 = true ∧ nZ z10 = true ∧ nZ z11 = true ∧ nZ z12 = true ∧ nZ z13 = true) (() : Unit) (ci_p (xi_seq (XV.s (xv_tupn (xn_cons (XV.s (xv_tupn (xn_cons (xs_var rfl) (xn_cons (xs_var rfl) xn_nil)))) (xn_cons (XV.s (xv_tupn (xn_cons (xs_var rfl) (xn_cons (xs_var rfl) xn_nil)))) (xn_cons (XV.s (xv_tupn (xn_cons (xs_var rfl) (xn_cons (xs_var rfl) xn_nil)))) xn_nil)))))) h fun l105 h => ⟨h, ⟨z7, z8, z9, z10, z11, z12, z13, rfl, hz7, hz8, hz9, hz10, hz11, hz12, hz13⟩⟩) (fun d52 v51 st1 r t h => by obtain ⟨z7, z8, z9, z10, z11, z12, z13, rfl, hz7, hz8, hz9, hz10, hz11, hz12, hz13⟩ := t; exact (tg_u2 h fun a54 a55 h => ⟨_, x_gp rfl (x_g1 (x_gn (x_op rfl (nZ_oZ hz7))) (x_g1 (x_gn (x_op rfl (nZ_oZ hz8))) x_g0)), (ws_cons (ws_set (co_p (xo_shfS (xo_call2 t__law_stretch (xs_var rfl) (xs_var rfl))) h fun d56 h => ⟨(x_op rfl (nZ_oZ hz9)), (ws_cons (ws_par (co_p (xo_sh (XV.s (xv_frS (xo_call2 t_low_row (xs_var rfl) (xs_var rfl))))) h fun d57 h => (co_p (xo_sh (XV.s (xv_frS (xo_call2 t_low_row (xs_var rfl) (xs_var rfl))))) h fun d58 h => ⟨(x_op rfl (nZ_oZ hz11)), (x_op rfl (nZ_oZ hz10)), (ws_cons (ws_set (co_p (xo_shfL (xo_lstn (xn_cons (XV.s (xv_frS (xo_call2 t_is_stretch (xs_var rfl) (xs_var rfl)))) (xn_cons (XV.s (xv_frS (xo_call2 t_is_under (xs_var rfl) (xs_var rfl)))) (xn_cons (XV.s (xv_frS (xo_call2 t__law_under (xs_var rfl) (xs_var rfl)))) xn_nil))))) h fun d65 h => ⟨(x_op rfl (nZ_oZ hz12)), (ws_cons (ws_if (ct_p (xt_bl (XV.r (xv_2 (XV.r (xv_1 (XS.r (xs_var rfl)))) (XV.r (xv_1 (XV.r (xv_frL (xo_lstn (xn_cons (xs_var rfl) (xn_cons (xs_var rfl) (xn_cons (xs_var rfl) xn_nil))))))))))) h fun c69 h => (br2 h (fun h => (ws_cons (ws_ret (co_p0 (xo_sh (XV.s xv_cst)) (by cases h; exact ⟨⟨rfl, rfl⟩, _, rfl⟩))))) (fun h => (ws_nil (ws_cons (ws_set (co_p (xo_shfS (xo_call2 t__law_along (xs_var rfl) (xs_var rfl))) h fun d70 h => ⟨(x_op rfl (nZ_oZ hz13)), (ws_cons (ws_if (ct_p (xt_or (xt_bl (XV.r (xv_2 (XV.r (xv_1 (XV.r (xv_frS (xo_call2 t_runs_along (xs_var rfl) (xs_var rfl)))))) (XV.r (xv_1 (XS.r (xs_var rfl))))))) (xt_an (xt_tr (XS.r (xs_var rfl))) (xt_no (xt_tr (XS.r (xs_var rfl)))))) h fun c78 h => (br2 h (fun h => (ws_cons (ws_ret (co_p0 (xo_sh (XV.s xv_cst)) (by cases h; exact ⟨⟨rfl, rfl⟩, _, rfl⟩))))) (fun h => (ws_nil (ws_nil (by cases h; exact ⟨.inl rfl, ⟨some (.sh a54), some (.sh a55), some (.sh d56), some (.sh d57), some (.sh d58), some (.sh d65), some (.sh d70), rfl, rfl, rfl, rfl, rfl, rfl, rfl, rfl⟩⟩))))))))⟩)))))))))⟩)))⟩))))⟩)))⟩)) (fun a m st1 h g => by cases h; exact ⟨g, _, rfl⟩) (fun v53 st1 t h => by obtain ⟨z7, z8, z9, z10, z11, z12, z13, rfl, hz7, hz8, hz9, hz10, hz11, hz12, hz13⟩ := t; exact (ws_cons (ws_for (fun a => GF [.sh q0] (M.sh a) [.sh q0]) (fun (v : Unit) st => ∃ z11 z14 : Option M, st = [some (.sh q0), some (.src v45.1), some (.sh d43), some (.sh d10), some (.sh d36), some (.sh p44.1), some (.sh v45.2), z7, z8, z9, z10, z11, z12, z13, z14, none] ∧ nZ z11 = true ∧ nZ z14 = true) (() : Unit) (ci_p (xi_seq (XV.s (xv_tupn (xn_cons (xs_var rfl) (xn_cons (xs_var rfl) xn_nil))))) h fun l103 h => ⟨h, ⟨z11, z14, rfl, hz11, hz14⟩⟩) (fun d80 v79 st1 r t h => by obtain ⟨z11, z14, rfl, hz11, hz14⟩ := t; exact ⟨_, x_gn (x_op rfl (nZ_oZ hz14)), (ws_cons (ws_set (co_p (xo_shfS (xo_call1 t_sides_exchanged (xs_var rfl))) h fun d82 h => ⟨(x_op rfl (nZ_oZ hz11)), (ws_cons (ws_if (ct_p (xt_or (xt_bl (XV.r (xv_2 (XV.r (xv_frS (xo_call1 t_mirrored (XV.s (xv_frS (xo_call2 t_high_row (xs_var rfl) (xs_var rfl))))))) (XV.r (xv_frS (xo_call2 t_low_row (xs_var rfl) (xs_var rfl))))))) (xt_bl (XV.r (xv_2 (XV.r (xv_frS (xo_call1 t_sides_exchanged (xs_var rfl)))) (XS.r (xs_var rfl)))))) h fun c90 h => (br2 h (fun h => (ws_cons (ws_ret (co_p0 (xo_sh (XV.s xv_cst)) (by cases h; exact ⟨⟨rfl, rfl⟩, _, rfl⟩))))) (fun h => (ws_nil (ws_cons (ws_if (ct_p (xt_bl (XV.r (xv_2 (XV.r (xv_1 (XS.r (xs_var rfl)))) (XV.r (xv_1 (XV.r (xv_tupn (xn_cons (XV.s (xv_2 (XS.r (xs_var rfl)) (XV.r xv_cst))) (xn_cons (XV.s (xv_2 (XS.r (xs_var rfl)) (XV.r xv_cst))) (xn_cons (XV.s (xv_frS (xo_call1 t__law_right (xs_var rfl)))) xn_nil)))))))))) h fun c101 h => (br2 h (fun h => (ws_cons (ws_ret (co_p0 (xo_sh (XV.s xv_cst)) (by cases h; exact ⟨⟨rfl, rfl⟩, _, rfl⟩))))) (fun h => (ws_nil (ws_nil (by cases h; exact ⟨.inl rfl, ⟨some (.sh d82), some (.sh d80), rfl, rfl, rfl⟩⟩))))))))))))))⟩)))⟩) (fun a m st1 h g => by cases h; exact ⟨g, _, rfl⟩) (fun v81 st1 t h => by obtain ⟨z11, z14, rfl, hz11, hz14⟩ := t; exact (ws_nil (by cases h; exact ⟨.inl rfl, ⟨some (.sh d43), some (.sh d36), some (.sh p44.1), some (.sh v45.2), z7, z8, z9, z10, z11, z12, z13, z14, rfl, rfl, rfl, rfl, rfl, hz7, hz8, hz9, hz10, hz11, hz12, hz13, hz14⟩⟩)))))))))))⟩⟩⟩⟩))))))))⟩⟩⟩⟩⟩⟩)))))))))))⟩) (fun a m st1 h g => by cases h; exact g) (fun v37 st1 t h => by obtain ⟨z2, z4, z5, z6, z7, z8, z9, z10, z11, z12, z13, z14, rfl, hz2, hz4, hz5, hz6, hz7, hz8, hz9, hz10, hz11, hz12, hz13, hz14⟩ := t; exact (ws_cons (ws_ret (co_p (xo_call2 t_is_stretch (XV.s (xv_tupn (xn_cons (XV.s xv_cst) (xn_cons (XV.s xv_cst) (xn_cons (XV.s (xv_tupn xn_nil)) xn_nil))))) (XV.s (xv_tupn (xn_cons (XV.s xv_cst) (xn_cons (XV.s xv_cst) (xn_cons (XV.s (xv_tupn xn_nil)) xn_nil)))))) h fun d106 h => (by cases h; exact ⟨rfl, rfl⟩)))))))))))))))))))⟩)))⟩⟩⟩⟩⟩⟩)))))))))))⟩)))
end Pv

set_option maxHeartbeats 1000000
namespace Pv
open PySem PySem.Spec PyProof.Rows L2
local macro_rules | `(tactic| walk_at "ys") => `(tactic| simp only [Option.bind_some, cond_true, cond_false, y_c1, y_c2, y_c3, y_c4, y_c5, y_bool_dec, y_asB, y_asI, y_seqL, y_seqT, y_un2, y_un3, y_un4, y_unl2, y_noD, y_trB, y_trI, y_ix20, y_ix21, y_ix30, y_ix31, y_ix32, y_ix10, y_sl2, y_tupL, y_tupT, y_lenT, y_lenL, y_inT, y_inL, y_ninT, y_ninL, y_eqI, y_neI, y_eqT, y_neT, y_eqL, y_neL, y_eqL0, y_neL0, y_eqB, y_neB, y_sort, y_rev, y_allB, y_anyB, s_add, s_sub, s_neg, s_lt, s_le, s_gt, s_ge, s_max, s_min, s_lst3, s_lst4, s_int, unInr_l', unInr_r'])
theorem lim2 : 2 ≤ LIM := by decide
theorem source_loop : ∀ (ns : List Int) (S : PyData) (m : Int) (z : Option M), 0 ≤ m → m < 2147483648 → (z = none ∨ ∃ d, z = some (.sh d)) →
    ∃ m' z', 0 ≤ m' ∧ m' < 2147483648 ∧ (z' = none ∨ ∃ d, z' = some (.sh d)) ∧ runFor (gNm 2) (bCons (sSet 1 (oSh (e2 gMod (e1 gInt (e2 gAdd (e2 gAdd (e2 gMul (eVar 1) (eCst (.int 69069))) (e2 gMul (eVar 2) (eCst (.int 31)))) (eCst (.int 5)))) (eCst (.int 2147483629))))) bNil) (ns.map .int) [some (.sh S), some (.sh (.int m)), z] = some (.next, [some (.sh S), some (.sh (.int m')), z'])
  | [], S, m, z, h0, h1, hz => ⟨m, z, h0, h1, hz, rfl⟩
  | n :: ns, S, m, z, h0, h1, hz => by
    have g0 : 0 ≤ (m * 69069 + n * 31 + 5) % 2147483629 := Int.emod_nonneg _ (by decide)
    have g1 : (m * 69069 + n * 31 + 5) % 2147483629 < 2147483648 := Int.lt_of_lt_of_le (Int.emod_lt_of_pos _ (by decide)) (by decide)
    obtain ⟨m', z', q1, q2, q3, e⟩ := source_loop ns S _ (some (.sh (.int n))) g0 g1 (.inr ⟨_, rfl⟩)
    refine ⟨m', z', q1, q2, q3, ?_⟩
    have hz' : open1 [some (.sh S), some (.sh (.int m)), z] 2 = true := by rcases hz with rfl | ⟨d, rfl⟩ <;> rfl
    rw [List.map_cons]
    refine r_forC (s1 := [some (.sh S), some (.sh (.int m)), some (.sh (.int n))]) (by rw [a_gNm, if_pos hz']; rfl) (b1 ?_) e
    simp
def absI (i : Int) : Int := if i < 0 then -i else i
theorem absD (ns : List Int) (W : PyData) (M1 : Option M) : runComp [2] (gC 2) tYe (e1 gAbs (eVar 2)) (ns.map .int) [some (.sh W), M1, none] = some ((ns.map absI).map .int, [some (.sh W), M1, none]) := by
  rw [runComp_map (fun d => match d with | .int i => .int (absI i) | d => d) _ _ fun d hd => ?_, List.map_map, List.map_map]
  · rfl
  · obtain ⟨i, _, rfl⟩ := List.mem_map.mp hd
    exact ⟨[some (.sh W), M1, some (.sh (.int i))], .val (.int (absI i)), [some (.sh W), M1, some (.sh (.int i))], by simp, rfl, by simp [absI], rfl, rfl, rfl⟩
theorem e_source (ns : List Int) (h : ns.length ≤ 63) : ∃ s, SI s ∧ m__law_source [.sh (iL ns)] = some (.src s, [.sh (iL ns)]) := by
  obtain ⟨m', z', q1, q2, q3, e⟩ := source_loop ns (iL ns) 11 none (by decide) (by decide) (.inl rfl)
  have el : ns.length ≤ LIM := Nat.le_trans h (by decide)
  refine ⟨⟨(ns.map absI).reverse, 1, m', 0⟩, ⟨fun c hc => ?_, by rw [List.length_reverse, List.length_map]; exact h, (by show (0 : Int) ≤ 1; decide), q1, q2, (by show (0 : Int) ≤ 0; decide)⟩, ?_⟩
  · obtain ⟨i, _, rfl⟩ := List.mem_map.mp (List.mem_reverse.mp hc)
    unfold absI; split <;> omega
  · have bk : z' = none ∨ ∃ d, z' = some (.sh d) := q3
    refine runR (st' := [some (.sh (iL ns)), some (.sh (.int m')), z']) rfl (bc (st' := [some (.sh (iL ns)), some (.sh (.int 11)), none]) ?_ (bc (st' := [some (.sh (iL ns)), some (.sh (.int m')), z']) ?_ (br ?_))) rfl
    · simp [List.replicate]
    · simp [e]
    · have io : intsOf ((ns.map absI).map PyData.int).reverse = some (ns.map absI).reverse := by rw [← List.map_reverse]; exact intsOf_map _
      have ab := absD ns (iL ns) (some (.sh (.int m')))
      rcases bk with rfl | ⟨d, rfl⟩
      · simp [-List.map_map, el, ab, io]
      · simp [-List.map_map, el, ab, io]
theorem e_pick (s : Src) (h : SI s) (many : Nat) (hm : many < 1073741824) : ∃ (p : Nat) (s' : Src), m__law_pick [.src s, .sh (.int (many : Int))] = some (.sh (.int (p : Int)), [.src s', .sh (.int (many : Int))]) ∧ SI s' ∧ p < max 1 many := by
  obtain ⟨st1, e1, s1, rfl, h1⟩ := runWhile_go (t := tAn (tBl (e2 gGt (eVar 1) (eCst (.int 1)))) (tAn (tBl (e2 gLt (eSrc 0 .left) (eCst (.int 2)))) (tBl (e2 gGt (eSrcLen 0) (eCst (.int 0)))))) (body := bCons (sSrc 0 .left (eSrcPop 0)) bNil)
    (P := fun m st => ∃ s, st = [some (.src s), some (.sh (.int (many : Int))), none, none] ∧ SI s ∧ m = s.cells.length) (R := fun st => ∃ s, st = [some (.src s), some (.sh (.int (many : Int))), none, none] ∧ SI s) (fun m st hp => by
      obtain ⟨s, rfl, hs, rfl⟩ := hp
      by_cases c1 : 1 < (many : Int)
      · by_cases c2 : s.left < 2
        · by_cases c3 : 0 < s.cells.length
          · refine .inr ⟨[some (.src s), some (.sh (.int (many : Int))), none, none], [some (.src { s with cells := s.cells.dropLast, left := s.cells.getD (s.cells.length - 1) 0 }), some (.sh (.int (many : Int))), none, none], s.cells.length - 1, by omega, by simp [c1, c2, c3], b1 ?_, _, rfl, ?_, by simp⟩
            · have g : s.cells[s.cells.length - 1]? = some (s.cells.getD (s.cells.length - 1) 0) := by
                rw [List.getD_eq_getElem?_getD, List.getElem?_eq_getElem (show s.cells.length - 1 < s.cells.length by omega)]; rfl
              simp [-List.getD_eq_getElem?_getD, g]
            · refine ⟨fun c hc => hs.cs c (List.dropLast_subset _ hc), ?_, ?_, hs.m0, hs.m1, hs.tn⟩
              · show s.cells.dropLast.length ≤ 63
                rw [List.length_dropLast]; have := hs.len; omega
              · show 0 ≤ s.cells.getD (s.cells.length - 1) 0
                rw [List.getD_eq_getElem?_getD, List.getElem?_eq_getElem (show s.cells.length - 1 < s.cells.length by omega)]
                exact hs.cs _ (List.getElem_mem _)
          · exact .inl ⟨_, by simp [c1, c2, c3], s, rfl, hs⟩
        · exact .inl ⟨_, by simp [c1, c2], s, rfl, hs⟩
      · exact .inl ⟨_, by simp [c1], s, rfl, hs⟩) WF s.cells.length _ (by have := h.len; show _ < 1000000; omega) ⟨s, rfl, h, rfl⟩
  obtain ⟨K, hK⟩ : ∃ K : Nat, K = max 1 many := ⟨_, rfl⟩
  have mx : (if (1 : Int) < many then (many : Int) else 1) = (K : Int) := by split <;> omega
  have K0 : 0 < K := by omega
  have K1 : (K : Int) < 1073741824 := by omega
  by_cases c : (many : Int) < 2 ∨ 1 < s1.left
  · have hp : 0 ≤ s1.left % (K : Int) := Int.emod_nonneg _ (by omega)
    have hp2 : s1.left % (K : Int) < (K : Int) := Int.emod_lt_of_pos _ (by omega)
    refine ⟨(s1.left % (K : Int)).toNat, { s1 with left := s1.left / (K : Int) }, ?_, ⟨h1.cs, h1.len, Int.ediv_nonneg h1.lf (by omega), h1.m0, h1.m1, h1.tn⟩, by omega⟩
    rw [Int.toNat_of_nonneg hp]
    refine runR (st' := [some (.src { s1 with left := s1.left / (K : Int) }), some (.sh (.int (many : Int))), some (.sh (.int s1.left)), none]) rfl (bc (st' := [some (.src s1), some (.sh (.int (many : Int))), none, none]) ?_ (bc (st' := [some (.src s1), some (.sh (.int (many : Int))), some (.sh (.int s1.left)), none]) ?_ (br ?_))) rfl
    · exact e1
    · simp
    · have t1 : tOr' (tBl (e2 gLt (eVar 1) (eCst (.int 2)))) (tBl (e2 gGt (eVar 2) (eCst (.int 1)))) [some (.src s1), some (.sh (.int (many : Int))), some (.sh (.int s1.left)), none] = some (true, [some (.src s1), some (.sh (.int (many : Int))), some (.sh (.int s1.left)), none]) := by
        by_cases c2 : (many : Int) < 2
        · simp [c2]
        · simp [c2, c.resolve_left c2]
      rw [a_sIf, t1, Option.bind_some, if_pos rfl]
      refine bc (st' := [some (.src { s1 with left := s1.left / (K : Int) }), some (.sh (.int (many : Int))), some (.sh (.int s1.left)), none]) ?_ (br ?_)
      · simp [mx, K0, K1]
      · simp [mx, K0]
  · have c1 : ¬ (many : Int) < 2 := fun z => c (.inl z)
    have c2 : ¬ 1 < s1.left := fun z => c (.inr z)
    have m0 : 0 < (many : Int) := by omega
    obtain ⟨m1, em1⟩ : ∃ m, m = (s1.mixed + (s1.turn + 1) * 104729) % 998244353 := ⟨_, rfl⟩
    obtain ⟨m2, em2⟩ : ∃ m, m = (m1 * m1 + (s1.turn + 1) * 17) % 2147483647 := ⟨_, rfl⟩
    have a0 : 0 ≤ m1 := by rw [em1]; exact Int.emod_nonneg _ (by decide)
    have a1 : m1 < 998244353 := by rw [em1]; exact Int.emod_lt_of_pos _ (by decide)
    have b0 : 0 ≤ m2 := by rw [em2]; exact Int.emod_nonneg _ (by decide)
    have b1' : m2 < 2147483647 := by rw [em2]; exact Int.emod_lt_of_pos _ (by decide)
    have sq : -18446744073709551616 < m1 ∧ m1 < 18446744073709551616 := by omega
    have hp : 0 ≤ m2 / 16 % (many : Int) := Int.emod_nonneg _ (by omega)
    have hp2 : m2 / 16 % (many : Int) < (many : Int) := Int.emod_lt_of_pos _ (by omega)
    have tn := h1.tn
    refine ⟨(m2 / 16 % (many : Int)).toNat, ⟨s1.cells, s1.left, m2, s1.turn + 1⟩, ?_, ⟨h1.cs, h1.len, h1.lf, b0, by show m2 < _; omega, by show 0 ≤ s1.turn + 1; omega⟩, by omega⟩
    rw [Int.toNat_of_nonneg hp]
    refine runR (st' := [some (.src ⟨s1.cells, s1.left, m2, s1.turn + 1⟩), some (.sh (.int (many : Int))), some (.sh (.int s1.left)), some (.sh (.int m2))]) rfl
      (bc (st' := [some (.src s1), some (.sh (.int (many : Int))), none, none]) e1
      (bc (st' := [some (.src s1), some (.sh (.int (many : Int))), some (.sh (.int s1.left)), none]) ?_
      (bc (st' := [some (.src s1), some (.sh (.int (many : Int))), some (.sh (.int s1.left)), none]) ?_
      (bc (st' := [some (.src { s1 with turn := s1.turn + 1 }), some (.sh (.int (many : Int))), some (.sh (.int s1.left)), none]) ?_
      (bc (st' := [some (.src { s1 with turn := s1.turn + 1 }), some (.sh (.int (many : Int))), some (.sh (.int s1.left)), some (.sh (.int m1))]) ?_
      (bc (st' := [some (.src { s1 with turn := s1.turn + 1 }), some (.sh (.int (many : Int))), some (.sh (.int s1.left)), some (.sh (.int m2))]) ?_
      (bc (st' := [some (.src ⟨s1.cells, s1.left, m2, s1.turn + 1⟩), some (.sh (.int (many : Int))), some (.sh (.int s1.left)), some (.sh (.int m2))]) ?_ (br ?_)))))))) rfl
    · simp
    · simp [c1, c2]
    · simp
    · simp [em1]
    · simp [em2, sq]
    · simp
    · simp [m0, show 0 < many by omega]

/-- what draws a number below many -/
def PK (pk : Sem') : Prop := ∀ (s : Src), SI s → ∀ many : Nat, many < 1073741824 → ∃ (p : Nat) (s' : Src), pk [.src s, .sh (.int (many : Int))] = some (.sh (.int (p : Int)), [.src s', .sh (.int (many : Int))]) ∧ SI s' ∧ p < max 1 many
theorem xe_source (ns : List Int) (h : ns.length ≤ 63) : ∃ s, SI s ∧ x__law_source (.list (ns.map .int)) = some s := by
  obtain ⟨s, hs, e⟩ := e_source ns h
  exact ⟨s, hs, by unfold x__law_source; rw [e]⟩
theorem xe_pick (s : Src) (h : SI s) {many : Int} (h0 : 1 ≤ many) (h1 : many < 1073741824) : ∃ (p : Int) (s' : Src), x__law_pick s (.int many) = some (.int p, s') ∧ SI s' ∧ 0 ≤ p ∧ p < many := by
  obtain ⟨n, rfl⟩ : ∃ n : Nat, many = (n : Int) := ⟨many.toNat, by omega⟩
  obtain ⟨p, s', e, h2, h3⟩ := e_pick s h n (by omega)
  exact ⟨p, s', by unfold x__law_pick; rw [e], h2, by omega, by omega⟩
end Pv

set_option maxHeartbeats 1000000
namespace Pv
open PySem PySem.Spec PyProof.Rows L2
local macro_rules | `(tactic| walk_at "ys") => `(tactic| simp only [Option.bind_some, cond_true, cond_false, y_c1, y_c2, y_c3, y_c4, y_c5, y_bool_dec, y_asB, y_asI, y_seqL, y_seqT, y_un2, y_un3, y_un4, y_unl2, y_noD, y_trB, y_trI, y_ix20, y_ix21, y_ix30, y_ix31, y_ix32, y_ix10, y_sl2, y_tupL, y_tupT, y_lenT, y_lenL, y_inT, y_inL, y_ninT, y_ninL, y_eqI, y_neI, y_eqT, y_neT, y_eqL, y_neL, y_eqL0, y_neL0, y_eqB, y_neB, y_sort, y_rev, y_allB, y_anyB, s_add, s_sub, s_neg, s_lt, s_le, s_gt, s_ge, s_max, s_min, s_lst3, s_lst4, s_int, unInr_l', unInr_r'])
/-! arcs -/
abbrev arcD (a b : Int) (l : List Int) : PyData := .tuple [.int a, .int b, .tuple (l.map .int)]
def rgt (a b : Int) (l : List Int) : List Int := (rgZ (a + 1) b).filter fun x => !decide (x ∈ l)
def lowR (n a b : Int) (l : List Int) : List Int := rgZ 0 a ++ (l ++ (b :: a :: (rgt a b l ++ rgZ (b + 1) n)))
theorem y_right (a b : Int) (l : List Int) (ha : big (a + 1)) (hb : big b) (hs : (rgZ (a + 1) b).length ≤ LIM) : x_right_of (arcD a b l) = some (.tuple ((rgt a b l).map .int)) := by
  unfold x_right_of
  walk_at "ys"
  rw [y_R2 ha hb]
  walk_at "ys"
  rw [compX_f (fun x => !decide (x ∈ l)) PyData.int hs fun x hx => by walk_at "ys"]
  rfl
theorem y_right2 (a b : Int) (l : List Int) (ha : big (a + 1)) (hb : big b) (hs : (rgZ (a + 1) b).length ≤ LIM) : x__law_right (arcD a b l) = some (.tuple ((rgt a b l).map .int)) := y_right a b l ha hb hs
end Pv

set_option maxHeartbeats 1000000
namespace Pv
open PySem PySem.Spec PyProof.Rows L2
local macro_rules | `(tactic| walk_at "ys") => `(tactic| simp only [Option.bind_some, cond_true, cond_false, y_c1, y_c2, y_c3, y_c4, y_c5, y_bool_dec, y_asB, y_asI, y_seqL, y_seqT, y_un2, y_un3, y_un4, y_unl2, y_noD, y_trB, y_trI, y_ix20, y_ix21, y_ix30, y_ix31, y_ix32, y_ix10, y_sl2, y_tupL, y_tupT, y_lenT, y_lenL, y_inT, y_inL, y_ninT, y_ninL, y_eqI, y_neI, y_eqT, y_neT, y_eqL, y_neL, y_eqL0, y_neL0, y_eqB, y_neB, y_sort, y_rev, y_allB, y_anyB, s_add, s_sub, s_neg, s_lt, s_le, s_gt, s_ge, s_max, s_min, s_lst3, s_lst4, s_int, unInr_l', unInr_r'])
/-! the pairs out of order -/
theorem zipIdx_enD (r : List Int) : enD (r.map .int) = r.zipIdx.map fun p => .tuple [.int (p.2 : Nat), .int p.1] := by
  unfold enD
  refine List.ext_getElem (by simp) fun i h1 h2 => ?_
  simp
theorem y_out (n : Nat) (r : List Int) (q : Int → Int → Bool) (hw : r.Nodup) (h12 : r.length ≤ 14) (h : ∀ a b, (a, b) ∈ pr r ↔ 0 ≤ a ∧ a < b ∧ b < n ∧ q a b = true) : x_out_of_order (.tuple (r.map .int)) = some (.tuple (dP (lexP n q))) := by
  have pl : (pr r).length ≤ 1000 := by
    have := pr_cu r hw
    have h2 : r.length * (r.length - 1) ≤ 14 * 13 := Nat.mul_le_mul h12 (by omega)
    omega
  unfold x_out_of_order
  walk_at "ys"
  refine fold_b (fun i v => ∃ acc, acc ++ pr (r.drop i) = pr r ∧ v = dP acc) ⟨[], rfl, rfl⟩ (fun i d v hd hP => ?_) fun v hP => ?_
  · obtain ⟨acc, ea, rfl⟩ := hP
    obtain ⟨hi, rfl⟩ := enD_row hd
    have ed : r.drop i = r.getD i 0 :: r.drop (i + 1) := by
      rw [List.drop_eq_getElem_cons hi, List.getD_eq_getElem?_getD, List.getElem?_eq_getElem hi]; rfl
    generalize r.getD i 0 = x at *
    have ep : pr (x :: r.drop (i + 1)) = ((r.drop (i + 1)).filter fun y => decide (y < x)).map (fun y => (y, x)) ++ pr (r.drop (i + 1)) := by rw [pr]
    rw [ed, ep, ← List.append_assoc] at ea
    have la : acc.length + ((r.drop (i + 1)).filter fun y => decide (y < x)).length ≤ 1000 := by
      have := congrArg List.length ea
      rw [List.length_append, List.length_append, List.length_map] at this
      omega
    walk_at "ys"
    rw [y_slFT (by omega) (by rw [List.length_map]; omega), show ((i : Nat) : Int) + 1 = ((i + 1 : Nat) : Int) by omega, Int.toNat_natCast, ← List.map_drop]
    walk_at "ys"
    rw [compX_f (fun y => decide (y < x)) (fun y => enP (y, x)) (y_lim (by rw [List.length_drop]; omega)) fun y _ => by walk_at "ys"]
    walk_at "ys"
    rw [exX_some (y_lim (by unfold dP; rw [List.length_map, List.length_map]; exact la))]
    refine ⟨_, rfl, _, ea, ?_⟩
    unfold dP
    rw [List.map_append, List.map_map]; rfl
  · obtain ⟨acc, ea, rfl⟩ := hP
    rw [enD_rlen, List.drop_length, show pr ([] : List Int) = [] from rfl, List.append_nil] at ea
    subst ea
    have gs : gSort3 (.list (dP (pr r))) = some (dP (lexP n q)) := gSort_dP (pr_perm hw q h) (lexP_asc n q) (y_lim pl)
    rw [gs]
    rfl
def selfQ (r : List Int) (a b : Int) : Bool := decide ((a, b) ∈ pr r)
theorem self_iff {n : Nat} {r : List Int} (hr : ∀ x ∈ r, 0 ≤ x ∧ x < n) (a b : Int) : (a, b) ∈ pr r ↔ 0 ≤ a ∧ a < b ∧ b < n ∧ selfQ r a b = true := by
  unfold selfQ
  rw [decide_eq_true_eq]
  constructor
  · intro h
    obtain ⟨h1, h2, h3⟩ := pr_in h
    exact ⟨(hr a h2).1, h1, (hr b h3).2, h⟩
  · exact fun h => h.2.2.2
/-- the pairs of a row, in order -/
def lp (n : Nat) (r : List Int) : List (Int × Int) := lexP n (selfQ r)
theorem lp_perm {n : Nat} {r : List Int} (nd : r.Nodup) (hr : ∀ x ∈ r, 0 ≤ x ∧ x < n) : (pr r).Perm (lp n r) := pr_perm nd (selfQ r) (self_iff hr)
theorem y_lp {n : Nat} {r : List Int} (nd : r.Nodup) (hr : ∀ x ∈ r, 0 ≤ x ∧ x < n) (hl : r.length ≤ 14) : x_out_of_order (.tuple (r.map .int)) = some (.tuple (dP (lp n r))) := y_out n r (selfQ r) nd hl (self_iff hr)
theorem pr_200 {r : List Int} (nd : r.Nodup) (hl : r.length ≤ 14) : (pr r).length ≤ 200 := by
  have := pr_cu r nd
  have h2 : r.length * (r.length - 1) ≤ 14 * 13 := Nat.mul_le_mul hl (by omega)
  omega
theorem y_under {n : Nat} {r s : List Int} (nr : r.Nodup) (hr : ∀ x ∈ r, 0 ≤ x ∧ x < n) (lr : r.length ≤ 14) (ns : s.Nodup) (hs : ∀ x ∈ s, 0 ≤ x ∧ x < n) (ls : s.length ≤ 14) : x_is_under (.tuple (r.map .int)) (.tuple (s.map .int)) = some (.bool (decide (∀ p ∈ pr r, p ∈ pr s))) := by
  have l1 : (lp n r).length ≤ 1000 := by rw [← (lp_perm nr hr).length_eq]; have := pr_200 nr lr; omega
  have l2 : (lp n s).length ≤ 1000 := by rw [← (lp_perm ns hs).length_eq]; have := pr_200 ns ls; omega
  unfold x_is_under
  rw [y_lp ns hs ls, y_lp nr hr lr]
  walk_at "ys"
  rw [show dP (lp n s) = (lp n s).map enP from rfl, compM_m (e := enP) (fun p => .tuple [enP p, .bool true]) (y_lim l2) fun _ _ => rfl]
  walk_at "ys"
  rw [gDict_S keyP _ _ (y_lim l2)]
  walk_at "ys"
  rw [show dP (lp n r) = (lp n r).map enP from rfl, compM_m (e := enP) (fun p => .bool (decide (p ∈ addKs [] (lp n s)))) (y_lim l1) fun p _ => dF_in keyP _ _ p]
  walk_at "ys"
  have e : (lp n r).map (fun p => PyData.bool (decide (p ∈ addKs [] (lp n s)))) = ((lp n r).map fun p => decide (p ∈ addKs [] (lp n s))).map PyData.bool := by rw [List.map_map]; rfl
  rw [e, y_allB]
  walk_at "ys"
  congr 2
  rw [List.all_map, Bool.eq_iff_iff, List.all_eq_true, decide_eq_true_eq]
  constructor
  · intro h p hp
    have := h p ((lp_perm nr hr).mem_iff.mp hp)
    exact (lp_perm ns hs).mem_iff.mpr ((mem_addKs.mp (of_decide_eq_true this)).resolve_left (by simp))
  · intro h p hp
    exact decide_eq_true (mem_addKs.mpr (.inr ((lp_perm ns hs).mem_iff.mp (h p ((lp_perm nr hr).mem_iff.mpr hp)))))
end Pv

set_option maxHeartbeats 1000000
namespace Pv
open PySem PySem.Spec PyProof.Rows L2
local macro_rules | `(tactic| walk_at "ys") => `(tactic| simp only [Option.bind_some, cond_true, cond_false, y_c1, y_c2, y_c3, y_c4, y_c5, y_bool_dec, y_asB, y_asI, y_seqL, y_seqT, y_un2, y_un3, y_un4, y_unl2, y_noD, y_trB, y_trI, y_ix20, y_ix21, y_ix30, y_ix31, y_ix32, y_ix10, y_sl2, y_tupL, y_tupT, y_lenT, y_lenL, y_inT, y_inL, y_ninT, y_ninL, y_eqI, y_neI, y_eqT, y_neT, y_eqL, y_neL, y_eqL0, y_neL0, y_eqB, y_neB, y_sort, y_rev, y_allB, y_anyB, s_add, s_sub, s_neg, s_lt, s_le, s_gt, s_ge, s_max, s_min, s_lst3, s_lst4, s_int, unInr_l', unInr_r'])
/-! ascending rows -/
theorem asc_len : ∀ {l : List Int} {m n : Int}, l.Pairwise (· < ·) → (∀ x ∈ l, m ≤ x ∧ x < n) → l.length ≤ (n - m).toNat
  | [], _, _, _, _ => Nat.zero_le _
  | x :: l, m, n, h, hb => by
    have h1 := hb x List.mem_cons_self
    have ih := asc_len (l := l) (m := x + 1) (n := n) (List.pairwise_cons.mp h).2 fun y hy => ⟨by have := (List.pairwise_cons.mp h).1 y hy; omega, (hb y (List.mem_cons_of_mem _ hy)).2⟩
    rw [List.length_cons]; omega
structure Arc (n a b : Int) (l : List Int) : Prop where
  a0 : 0 ≤ a
  ab : a < b
  bn : b < n
  n12 : n ≤ 12
  asc : l.Pairwise (· < ·)
  inn : ∀ x ∈ l, a < x ∧ x < b
theorem mem_rgt {a b x : Int} {l : List Int} : x ∈ rgt a b l ↔ a < x ∧ x < b ∧ x ∉ l := by
  unfold rgt
  rw [List.mem_filter, mem_rgZ]
  constructor
  · rintro ⟨⟨h1, h2⟩, h3⟩
    exact ⟨by omega, h2, by simpa using h3⟩
  · rintro ⟨h1, h2, h3⟩
    exact ⟨⟨by omega, h2⟩, by simpa using h3⟩
theorem rgt_asc (a b : Int) (l : List Int) : (rgt a b l).Pairwise (· < ·) := (rgZ_asc _ _).filter _
section
variable {n a b : Int} {l : List Int} (A : Arc n a b l)
include A
theorem Arc.len : l.length ≤ 12 := by
  have := asc_len A.asc (m := a) (n := b) fun x hx => by have := A.inn x hx; omega
  have := A.a0; have := A.bn; have := A.n12
  omega
theorem Arc.rl : (rgt a b l).length ≤ 12 := by
  have := asc_len (rgt_asc a b l) (m := a) (n := b) fun x hx => by have := mem_rgt.mp hx; omega
  have := A.a0; have := A.bn; have := A.n12
  omega
theorem Arc.rlim : (rgZ (a + 1) b).length ≤ LIM := by
  rw [rgZ_len]
  have := A.a0; have := A.bn; have := A.n12
  exact y_lim (by omega)
theorem Arc.flip : Arc n a b (rgt a b l) := ⟨A.a0, A.ab, A.bn, A.n12, rgt_asc a b l, fun x hx => by have := mem_rgt.mp hx; omega⟩
theorem Arc.flip2 : rgt a b (rgt a b l) = l := by
  refine asc_ext (rgt_asc _ _ _) A.asc fun x => ?_
  rw [mem_rgt]
  constructor
  · rintro ⟨h1, h2, h3⟩
    by_cases c : x ∈ l
    · exact c
    · exact absurd (mem_rgt.mpr ⟨h1, h2, c⟩) h3
  · intro h
    exact ⟨(A.inn x h).1, (A.inn x h).2, fun z => (mem_rgt.mp z).2.2 h⟩
theorem y_rightA : x_right_of (arcD a b l) = some (.tuple ((rgt a b l).map .int)) := by
  have := A.a0; have := A.ab; have := A.bn; have := A.n12
  exact y_right a b l (big_of (by omega) (by omega)) (big_of (by omega) (by omega)) A.rlim
theorem y_rightB : x__law_right (arcD a b l) = some (.tuple ((rgt a b l).map .int)) := y_rightA A
theorem lowR_len : (lowR n a b l).length ≤ 60 := by
  have h1 := A.len; have h2 := A.rl
  have := A.a0; have := A.ab; have := A.bn; have := A.n12
  unfold lowR
  simp only [List.length_append, List.length_cons, rgZ_len]
  omega
theorem y_low : x_low_row (.int n) (arcD a b l) = some (.tuple ((lowR n a b l).map .int)) := by
  have := A.a0; have := A.ab; have := A.bn; have := A.n12
  unfold x_low_row
  walk_at "ys"
  rw [y_RL1 (big_of (by omega) (by omega)), y_rightA A]
  walk_at "ys"
  rw [y_RL2 (big_of (by omega) (by omega)) (big_of (by omega) (by omega))]
  walk_at "ys"
  have e : (rgZ 0 a).map PyData.int ++ (l.map PyData.int ++ (PyData.int b :: PyData.int a :: ((rgt a b l).map PyData.int ++ ((rgZ (b + 1) n).map PyData.int ++ [])))) = (lowR n a b l).map PyData.int := by
    unfold lowR
    simp only [List.map_append, List.map_cons, List.append_nil]
  rw [e, mkT_some (y_lim (by rw [List.length_map]; have := lowR_len A; omega))]
  rfl
theorem y_sides : x_sides_exchanged (arcD a b l) = some (arcD a b (rgt a b l)) := by
  unfold x_sides_exchanged
  rw [y_rightA A]
  walk_at "ys"
theorem y_high : x_high_row (.int n) (arcD a b l) = some (.tuple ((lowR n a b (rgt a b l)).reverse.map .int)) := by
  unfold x_high_row
  rw [y_sides A]
  walk_at "ys"
  rw [y_low A.flip]
  walk_at "ys"
theorem lowR_mem {x : Int} : x ∈ lowR n a b l ↔ 0 ≤ x ∧ x < n := by
  have := A.a0; have := A.ab; have := A.bn
  unfold lowR
  simp only [List.mem_append, List.mem_cons, mem_rgZ, mem_rgt]
  constructor
  · rintro (h | h | h | h | h | h)
    · omega
    · have := A.inn x h; omega
    · omega
    · omega
    · omega
    · omega
  · intro h
    by_cases c : x ∈ l
    · exact .inr (.inl c)
    · by_cases c1 : x < a
      · exact .inl ⟨h.1, c1⟩
      · by_cases c2 : x = a
        · exact .inr (.inr (.inr (.inl c2)))
        · by_cases c3 : x < b
          · exact .inr (.inr (.inr (.inr (.inl ⟨by omega, c3, c⟩))))
          · by_cases c4 : x = b
            · exact .inr (.inr (.inl c4))
            · exact .inr (.inr (.inr (.inr (.inr ⟨by omega, h.2⟩))))
theorem lowR_nd : (lowR n a b l).Nodup := by
  have h1 := A.a0; have h2 := A.ab; have h3 := A.bn
  have nz : ∀ {l : List Int}, l.Pairwise (· < ·) → l.Nodup := fun h => h.imp fun h e => by omega
  unfold lowR
  rw [List.nodup_append]
  refine ⟨nz (rgZ_asc _ _), ?_, fun x hx y hy e => ?_⟩
  · rw [List.nodup_append]
    refine ⟨nz A.asc, ?_, fun x hx y hy e => ?_⟩
    · rw [List.nodup_cons, List.nodup_cons, List.nodup_append]
      refine ⟨fun h => ?_, fun h => ?_, nz (rgt_asc _ _ _), nz (rgZ_asc _ _), fun x hx y hy e => ?_⟩
      · simp only [List.mem_cons, List.mem_append, mem_rgt, mem_rgZ] at h
        omega
      · simp only [List.mem_append, mem_rgt, mem_rgZ] at h
        omega
      · have := mem_rgt.mp hx; have := mem_rgZ.mp hy; omega
    · subst e
      have hi := A.inn x hx
      simp only [List.mem_cons, List.mem_append, mem_rgt, mem_rgZ] at hy
      rcases hy with h | h | h | h
      · omega
      · omega
      · exact h.2.2 hx
      · omega
  · subst e
    have hz := mem_rgZ.mp hx
    simp only [List.mem_cons, List.mem_append, mem_rgt, mem_rgZ] at hy
    rcases hy with h | h | h | h | h
    · have := A.inn x h; omega
    · omega
    · omega
    · omega
    · omega
theorem lowR_14 : (lowR n a b l).length ≤ 12 := by
  have hp := List.Perm.length_eq ((List.perm_ext_iff_of_nodup (lowR_nd A) ((rgZ_asc 0 n).imp fun h e => by omega)).mpr fun x => by rw [lowR_mem A, mem_rgZ])
  rw [hp, rgZ_len]
  have := A.n12; omega
end
/-! which pairs stand otherwise in a low row -/
theorem mem_pr_app {u v : Int} : ∀ {p q : List Int}, (u, v) ∈ pr (p ++ q) ↔ (u, v) ∈ pr p ∨ (u, v) ∈ pr q ∨ (v ∈ p ∧ u ∈ q ∧ u < v)
  | [], q => by simp [pr]
  | x :: p, q => by
    rw [List.cons_append, mem_pr, mem_pr_app (p := p), mem_pr]
    simp only [List.mem_append, List.mem_cons]
    constructor
    · rintro (⟨h1, h2 | h2, h3⟩ | h | h | h)
      · exact .inl (.inl ⟨h1, h2, h3⟩)
      · exact .inr (.inr ⟨.inl h1, h2, by omega⟩)
      · exact .inl (.inr h)
      · exact .inr (.inl h)
      · exact .inr (.inr ⟨.inr h.1, h.2⟩)
    · rintro ((h | h) | h | ⟨h1 | h1, h2, h3⟩)
      · exact .inl ⟨h.1, .inl h.2.1, h.2.2⟩
      · exact .inr (.inl h)
      · exact .inr (.inr (.inl h))
      · exact .inl ⟨h1, .inr h2, by omega⟩
      · exact .inr (.inr (.inr ⟨h1, h2, h3⟩))
theorem pr_low {n a b : Int} {l : List Int} (A : Arc n a b l) {u v : Int} : (u, v) ∈ pr (lowR n a b l) ↔ u < v ∧ (u = a ∨ u ∈ rgt a b l) ∧ (v = b ∨ v ∈ l) := by
  have h1 := A.a0; have h2 := A.ab; have h3 := A.bn
  unfold lowR
  rw [mem_pr_app, mem_pr_app, mem_pr, mem_pr, mem_pr_app, pr_up _ (rgZ_asc _ _), pr_up _ A.asc, pr_up _ (rgt_asc _ _ _), pr_up _ (rgZ_asc _ _)]
  simp only [List.not_mem_nil, false_or, or_false, List.mem_append, List.mem_cons, mem_rgZ]
  constructor
  · rintro (((⟨e, h, h4⟩ | ⟨e, h, h4⟩ | ⟨h, h4, h5⟩) | ⟨h, h4, h5⟩) | ⟨h, h4, h5⟩)
    · refine ⟨by omega, ?_, .inl e⟩
      rcases h with h | h | h
      · exact .inl h
      · exact .inr h
      · omega
    · rcases h with h | h
      · have := mem_rgt.mp h; omega
      · omega
    · have := mem_rgt.mp h; omega
    · have := A.inn v h
      refine ⟨h5, ?_, .inr h⟩
      rcases h4 with h4 | h4 | h4 | h4
      · omega
      · exact .inl h4
      · exact .inr h4
      · omega
    · rcases h4 with h4 | h4 | h4 | h4 | h4
      · have := A.inn u h4; omega
      · omega
      · omega
      · have := mem_rgt.mp h4; omega
      · omega
  · rintro ⟨h, hu, hv⟩
    rcases hv with hv | hv
    · exact .inl (.inl (.inl ⟨hv, hu.imp id fun z => .inl z, by omega⟩))
    · exact .inl (.inr ⟨hv, .inr (hu.imp id fun z => .inl z), h⟩)
end Pv

set_option maxHeartbeats 1000000
namespace Pv
open PySem PySem.Spec PyProof.Rows L2
local macro_rules | `(tactic| walk_at "ys") => `(tactic| simp only [Option.bind_some, cond_true, cond_false, y_c1, y_c2, y_c3, y_c4, y_c5, y_bool_dec, y_asB, y_asI, y_seqL, y_seqT, y_un2, y_un3, y_un4, y_unl2, y_noD, y_trB, y_trI, y_ix20, y_ix21, y_ix30, y_ix31, y_ix32, y_ix10, y_sl2, y_tupL, y_tupT, y_lenT, y_lenL, y_inT, y_inL, y_ninT, y_ninL, y_eqI, y_neI, y_eqT, y_neT, y_eqL, y_neL, y_eqL0, y_neL0, y_eqB, y_neB, y_sort, y_rev, y_allB, y_anyB, s_add, s_sub, s_neg, s_lt, s_le, s_gt, s_ge, s_max, s_min, s_lst3, s_lst4, s_int, unInr_l', unInr_r'])
theorem y_pairs {r : List Int} (nd : r.Nodup) (hr : ∀ x ∈ r, 0 ≤ x ∧ x < 12) (hl : r.length ≤ 12) : x__law_pairs (.tuple (r.map .int)) = some (dD (pr r)) := by
  have pl := pr_200 nd (by omega)
  have pn := pr_nodup nd
  unfold x__law_pairs
  walk_at "ys"
  refine fold_b (fun i v => ∃ acc, acc ++ pr (r.drop i) = pr r ∧ v = dD acc) ⟨[], rfl, rfl⟩ (fun i d v hd hP => ?_) fun v hP => ?_
  · obtain ⟨acc, ea, rfl⟩ := hP
    obtain ⟨hi, rfl⟩ := enD_row hd
    have ed : r.drop i = r.getD i 0 :: r.drop (i + 1) := by
      rw [List.drop_eq_getElem_cons hi, List.getD_eq_getElem?_getD, List.getElem?_eq_getElem hi]; rfl
    generalize r.getD i 0 = x at *
    have ep : pr (x :: r.drop (i + 1)) = ((r.drop (i + 1)).filter fun y => decide (y < x)).map (fun y => (y, x)) ++ pr (r.drop (i + 1)) := by rw [pr]
    rw [ed, ep, ← List.append_assoc] at ea
    have la : acc.length + (((r.drop (i + 1)).filter fun y => decide (y < x)).map (fun y => (y, x))).length ≤ 200 := by
      have := congrArg List.length ea
      rw [List.length_append, List.length_append] at this
      omega
    have nd2 : (acc ++ ((r.drop (i + 1)).filter fun y => decide (y < x)).map (fun y => (y, x))).Nodup := by
      rw [← ea] at pn; exact (List.nodup_append.mp pn).1
    have mr : ∀ p ∈ ((r.drop (i + 1)).filter fun y => decide (y < x)).map (fun y => (y, x)), (0 ≤ p.1 ∧ p.1 < 12) ∧ 0 ≤ p.2 ∧ p.2 < 12 := fun p hp => by
      have : p ∈ pr r := by rw [← ea]; exact List.mem_append_left _ (List.mem_append_right _ hp)
      obtain ⟨_, h1, h2⟩ := pr_in (a := p.1) (b := p.2) this
      exact ⟨hr _ h1, hr _ h2⟩
    walk_at "ys"
    rw [y_slFT (by omega) (by rw [List.length_map]; omega), show ((i : Nat) : Int) + 1 = ((i + 1 : Nat) : Int) by omega, Int.toNat_natCast, ← List.map_drop]
    walk_at "ys"
    rw [compX_f (fun y => decide (y < x)) (fun y => .tuple [enP (y, x), .int 0]) (y_lim (by rw [List.length_drop]; omega)) fun y _ => by walk_at "ys"]
    walk_at "ys"
    have e1 : ((r.drop (i + 1)).filter fun y => decide (y < x)).map (fun y => PyData.tuple [enP (y, x), .int 0]) = (((r.drop (i + 1)).filter fun y => decide (y < x)).map (fun y => (y, x))).map (fun p => .tuple [enP p, .int 0]) := by rw [List.map_map]; rfl
    generalize ((r.drop (i + 1)).filter fun y => decide (y < x)).map (fun y => (y, x)) = ps at *
    rw [e1, gDict_dD (List.nodup_append.mp nd2).2.1 (y_lim (by omega))]
    walk_at "ys"
    rw [gUpd_dD nd2 mr (y_lim (by omega))]
    exact ⟨_, rfl, _, ea, rfl⟩
  · obtain ⟨acc, ea, rfl⟩ := hP
    rw [enD_rlen, List.drop_length, show pr ([] : List Int) = [] from rfl, List.append_nil] at ea
    subst ea
    rfl
theorem y_lunder {r s : List Int} (nr : r.Nodup) (hr : ∀ x ∈ r, 0 ≤ x ∧ x < 12) (lr : r.length ≤ 12) (ns : s.Nodup) (hs : ∀ x ∈ s, 0 ≤ x ∧ x < 12) (ls : s.length ≤ 12) : x__law_under (.tuple (r.map .int)) (.tuple (s.map .int)) = some (.bool (decide (∀ p ∈ pr r, p ∈ pr s))) := by
  unfold x__law_under
  rw [y_pairs nr hr lr, y_pairs ns hs ls]
  walk_at "ys"
  have hk : dKeys (dD (pr r)) = (pr r).map enP := dKeys_dD _
  rw [hk, compX_f (e := enP) (fun p => !decide (p ∈ pr s)) enP (y_lim (by have := pr_200 nr (by omega); omega)) fun p _ => by
    rw [show dD (pr s) = dF enP (fun _ => .int 0) (pr s) from rfl, dF_nin keyP]
    walk_at "ys"]
  walk_at "ys"
  rw [y_eqNil (okD_Lm 19 (okD_enP 18) _)]
  walk_at "ys"
  congr 2
  rw [Bool.eq_iff_iff, List.isEmpty_iff, List.map_eq_nil_iff, List.filter_eq_nil_iff, decide_eq_true_eq]
  simp
def inB (a b : Int) (m : List Int) : List Int := m.filter fun x => decide (a < x) && decide (x < b)
def strB (a b : Int) (l : List Int) (c d : Int) (m : List Int) : Bool := (decide (a = c) || decide (a ∈ rgt c d m)) && (decide (b = d) || decide (b ∈ m)) && decide (l = inB a b m)
def alB (a b : Int) (l : List Int) (c d : Int) (m : List Int) : Bool := decide (c ≤ a) && (decide (b ≤ d) && decide (l = inB a b m))
theorem y_inB (a b : Int) {m : List Int} (h : m.length ≤ LIM) : compX (fun d7 => ((((gLt (.int a) d7).bind fun d9 => (asB d9).bind fun c8 => cond c8 (gLt d7 (.int b)) (some (.bool false))).bind fun u10 => (asB u10)).bind fun c11 => cond c11 (some (some d7)) (some none))) (m.map .int) = some ((inB a b m).map .int) :=
  compX_f (fun x => decide (a < x) && decide (x < b)) PyData.int h fun x _ => by walk_at "ys"
section
variable {n a b c d : Int} {l m : List Int} (A : Arc n a b l) (B : Arc n c d m)
include A B
theorem y_along : x_runs_along (arcD c d m) (arcD a b l) = some (.bool (alB a b l c d m)) := by
  unfold x_runs_along
  simp only [y_un3, y_ix30, y_ix31, y_ix32, Option.bind_some, y_seqT]
  rw [y_inB a b (y_lim (by have := B.len; omega))]
  walk_at "ys"
  rfl
theorem y_along2 : x__law_along (arcD c d m) (arcD a b l) = some (.bool (alB a b l c d m)) := y_along A B
theorem str_al (h1 : a = c ∨ a ∈ rgt c d m) (h2 : b = d ∨ b ∈ m) : alB a b l c d m = decide (l = inB a b m) := by
  have : c ≤ a := by
    rcases h1 with h1 | h1
    · omega
    · have := mem_rgt.mp h1; omega
  have : b ≤ d := by
    rcases h2 with h2 | h2
    · omega
    · have := B.inn b h2; omega
  unfold alB
  rw [decide_eq_true (by assumption), decide_eq_true (by assumption), Bool.true_and, Bool.true_and]
theorem y_stretch : x_is_stretch (arcD a b l) (arcD c d m) = some (.bool (strB a b l c d m)) := by
  unfold x_is_stretch
  walk_at "ys"
  rw [y_rightA B, y_along A B]
  walk_at "ys"
  unfold strB
  by_cases h1 : a = c ∨ a ∈ rgt c d m
  · by_cases h2 : b = d ∨ b ∈ m
    · rw [str_al A B h1 h2]
      simp only [← Bool.not_or, ← Bool.not_and]
      rw [show (decide (a = c) || decide (a ∈ rgt c d m)) = true by simpa using h1, show (decide (b = d) || decide (b ∈ m)) = true by simpa using h2]
      rfl
    · simp only [← Bool.not_or, ← Bool.not_and]
      rw [show (decide (b = d) || decide (b ∈ m)) = false by simpa using h2]
      simp
  · simp only [← Bool.not_or, ← Bool.not_and]
    rw [show (decide (a = c) || decide (a ∈ rgt c d m)) = false by simpa using h1]
    simp
theorem y_stretch2 : x__law_stretch (arcD a b l) (arcD c d m) = some (.bool (strB a b l c d m)) := by
  unfold x__law_stretch
  simp only [y_un3, y_ix30, y_ix31, y_ix32, Option.bind_some, y_seqT]
  rw [y_inB a b (y_lim (by have := B.len; omega)), y_rightB B]
  walk_at "ys"
  unfold strB
  simp only [← Bool.not_or, ← Bool.not_and]
  cases (decide (a = c) || decide (a ∈ rgt c d m)) <;> cases (decide (b = d) || decide (b ∈ m)) <;> rfl
theorem under_iff : (decide (∀ p ∈ pr (lowR n a b l), p ∈ pr (lowR n c d m))) = strB a b l c d m := by
  have ab := A.ab
  rw [Bool.eq_iff_iff, decide_eq_true_eq]
  unfold strB
  simp only [Bool.and_eq_true, Bool.or_eq_true, decide_eq_true_eq]
  constructor
  · intro h
    have h0 := (pr_low B).mp (h (a, b) ((pr_low A).mpr ⟨ab, .inl rfl, .inl rfl⟩))
    refine ⟨⟨h0.2.1, h0.2.2⟩, asc_ext A.asc (B.asc.filter _) fun x => ?_⟩
    unfold inB
    rw [List.mem_filter, Bool.and_eq_true, decide_eq_true_eq, decide_eq_true_eq]
    constructor
    · intro hx
      have hi := A.inn x hx
      have h1 := (pr_low B).mp (h (a, x) ((pr_low A).mpr ⟨hi.1, .inl rfl, .inr hx⟩))
      refine ⟨h1.2.2.resolve_left fun e => ?_, hi⟩
      rcases h0.2.2 with h2 | h2
      · omega
      · have := B.inn b h2; omega
    · rintro ⟨hx, h1, h2⟩
      by_cases hl : x ∈ l
      · exact hl
      · have h3 := (pr_low B).mp (h (x, b) ((pr_low A).mpr ⟨h2, .inr (mem_rgt.mpr ⟨h1, h2, hl⟩), .inl rfl⟩))
        rcases h3.2.1 with e | e
        · rcases h0.2.1 with e2 | e2
          · omega
          · have := mem_rgt.mp e2; omega
        · exact absurd hx (mem_rgt.mp e).2.2
  · rintro ⟨⟨h1, h2⟩, h3⟩ ⟨u, v⟩ hp
    obtain ⟨huv, hu, hv⟩ := (pr_low A).mp hp
    have ca : c ≤ a := by
      rcases h1 with h1 | h1
      · omega
      · have := mem_rgt.mp h1; omega
    have bd : b ≤ d := by
      rcases h2 with h2 | h2
      · omega
      · have := B.inn b h2; omega
    have ml : ∀ x, x ∈ l ↔ x ∈ m ∧ a < x ∧ x < b := fun x => by
      rw [h3]; unfold inB
      rw [List.mem_filter, Bool.and_eq_true, decide_eq_true_eq, decide_eq_true_eq]
    refine (pr_low B).mpr ⟨huv, ?_, ?_⟩
    · rcases hu with rfl | hu
      · exact h1
      · have := mem_rgt.mp hu
        exact .inr (mem_rgt.mpr ⟨by omega, by omega, fun z => this.2.2 ((ml u).mpr ⟨z, this.1, this.2.1⟩)⟩)
    · rcases hv with rfl | hv
      · exact h2
      · exact .inr ((ml v).mp hv).1
end
end Pv

set_option maxHeartbeats 1000000
namespace Pv
open PySem PySem.Spec PyProof.Rows L2
local macro_rules | `(tactic| walk_at "ys") => `(tactic| simp only [Option.bind_some, cond_true, cond_false, y_c1, y_c2, y_c3, y_c4, y_c5, y_bool_dec, y_asB, y_asI, y_seqL, y_seqT, y_un2, y_un3, y_un4, y_unl2, y_noD, y_trB, y_trI, y_ix20, y_ix21, y_ix30, y_ix31, y_ix32, y_ix10, y_sl2, y_tupL, y_tupT, y_lenT, y_lenL, y_inT, y_inL, y_ninT, y_ninL, y_eqI, y_neI, y_eqT, y_neT, y_eqL, y_neL, y_eqL0, y_neL0, y_eqB, y_neB, y_sort, y_rev, y_allB, y_anyB, s_add, s_sub, s_neg, s_lt, s_le, s_gt, s_ge, s_max, s_min, s_lst3, s_lst4, s_int, unInr_l', unInr_r'])
section
variable {n a b c d : Int} {l m : List Int}
theorem rok_arc (A : Arc n a b l) : okR 3 (arcD a b l) = true ∧ (arcD a b l).bulk ≤ 20 := by
  have h0 := A.a0; have h1 := A.ab; have h2 := A.bn; have h3 := A.n12
  refine ⟨okR_t3 (okR_i (by omega) (by omega)) (okR_i (by omega) (by omega)) (okR_tm fun x hx => by have := A.inn x hx; exact okR_i (by omega) (by omega)), ?_⟩
  have := A.len
  rw [bulk_Tp, bulkA, bulkA, bulkA, bulkA0, bulk_I, bulk_I, show PyData.tuple (l.map PyData.int) = iT l from rfl, bulk_T]
  omega
theorem rok_b3 (x : Bool) : Rok (.list [.bool x, .bool x, .bool x]) := ⟨okR_mono (okR_l3 (okR_b 0 x) (okR_b 0 x) (okR_b 0 x)) (by decide), by rw [bulk_L, bulkA, bulkA, bulkA, bulkA0, bulk_B]; decide⟩
theorem rok_b (x : Bool) : Rok (.bool x) := ⟨okR_b _ x, by rw [bulk_B]; decide⟩
/-! drawn arcs -/
theorem y_arc (s : Src) (hs : SI s) (hn : 2 ≤ n) (h12 : n ≤ 12) : ∃ r, x__law_arc s (.int n) = some r ∧ ∃ a b l s', r = (arcD a b l, s') ∧ SI s' ∧ Arc n a b l := by
  unfold x__law_arc
  walk_at "ys"
  obtain ⟨p1, s1, e1, hs1, h1, h2⟩ := xe_pick s hs (many := n - 1) (by omega) (by omega)
  rw [e1]
  walk_at "ys"
  obtain ⟨p2, s2, e2, hs2, h3, h4⟩ := xe_pick s1 hs1 (many := 1 + p1) (by omega) (by omega)
  rw [e2]
  walk_at "ys"
  rw [y_R2 (big_of (by omega) (by omega)) (big_of (by omega) (by omega))]
  walk_at "ys"
  refine compS_sub PyData.int _ (y_lim (by rw [rgZ_len]; omega)) hs2 (fun x hx s hs => ?_) fun zs s' hz hs' => ?_
  · obtain ⟨p, s', e, hs', _, _⟩ := xe_pick s hs (many := 2) (by omega) (by omega)
    rw [e]
    walk_at "ys"
    refine ⟨decide (p = 0), s', ?_, hs'⟩
    by_cases h : p = 0 <;> simp [h]
  · refine ⟨_, rfl, _, _, zs, s', rfl, hs', ⟨h3, by omega, by omega, h12, (rgZ_asc _ _).sublist hz, fun x hx => ?_⟩⟩
    have := mem_rgZ.mp (hz.subset hx)
    omega
theorem y_near (s : Src) (hs : SI s) (A : Arc n a b l) : ∃ r, x__law_near s (arcD a b l) = some r ∧ ∃ c d m s', r = (arcD c d m, s') ∧ SI s' ∧ Arc n c d m := by
  have g0 := A.a0; have g1 := A.ab; have g2 := A.bn; have g3 := A.n12
  unfold x__law_near
  walk_at "ys"
  obtain ⟨p1, s1, e1, hs1, h1, h2⟩ := xe_pick s hs (many := b - a) (by omega) (by omega)
  rw [e1]
  walk_at "ys"
  obtain ⟨p2, s2, e2, hs2, h3, h4⟩ := xe_pick s1 hs1 (many := b - a) (by omega) (by omega)
  rw [e2]
  walk_at "ys"
  obtain ⟨c, d, ecd, hc, hd, hcd⟩ : ∃ c d : Int, cond (decide (a + p1 < b - p2)) (some (PyData.tuple [.int (a + p1), .int (b - p2)])) (some (.tuple [.int a, .int b])) = some (.tuple [.int c, .int d]) ∧ a ≤ c ∧ d ≤ b ∧ c < d := by
    by_cases h : a + p1 < b - p2
    · exact ⟨_, _, by rw [decide_eq_true h]; rfl, by omega, by omega, h⟩
    · exact ⟨_, _, by rw [decide_eq_false h]; rfl, by omega, by omega, g1⟩
  rw [ecd]
  walk_at "ys"
  rw [y_R2 (big_of (by omega) (by omega)) (big_of (by omega) (by omega))]
  walk_at "ys"
  refine compS_sub PyData.int _ (y_lim (by rw [rgZ_len]; omega)) hs2 (fun x hx s hs => ?_) fun zs s' hz hs' => ?_
  · walk_at "ys"
    obtain ⟨p, s', e, hs', _, _⟩ := xe_pick s hs (many := 8) (by omega) (by omega)
    rw [e]
    walk_at "ys"
    refine ⟨decide (x ∈ l) == decide (0 < p), s', ?_, hs'⟩
    cases (decide (x ∈ l) == decide (0 < p)) <;> rfl
  · refine ⟨_, rfl, c, d, zs, s', rfl, hs', ⟨by omega, hcd, by omega, g3, (rgZ_asc _ _).sublist hz, fun x hx => ?_⟩⟩
    have := mem_rgZ.mp (hz.subset hx)
    omega
end
/-! the part of few things -/
def few (d3 : PyData) : Bool := match ((((x_all_arcs d3).bind fun l4 => some (PyData.list l4)).bind fun u5 => (seqD u5)).bind fun s8 => compM (fun d6 => (x_low_row d3 d6)) s8).bind fun l9 => some (PyData.list l9) with
  | some d10 => (((((((gSort3 d10).bind fun l11 => some (PyData.list l11)).bind fun u13 => (((x_one_drop_rows d3).bind fun l12 => some (PyData.list l12)).bind fun u14 => (gNe u13 u14))).bind fun u15 => (asB u15)).bind fun c24 => cond c24 (some true) (((((seqD d10).bind fun s20 => compX (fun d16 => ((((x_has_one_drop d16).bind fun u17 => (truD u17)).bind fun c18 => some (!c18)).bind fun c19 => cond c19 (some (some d16)) (some none))) s20).bind fun l21 => some (PyData.list l21)).bind fun u22 => (gNe u22 (.list []))).bind fun u23 => (asB u23)))) == some false) &&
    (((((((seqD d10).bind fun s28 => compM (fun d26 => (x_arc_of_row d26)) s28).bind fun l29 => some (PyData.list l29)).bind fun u31 => (((x_all_arcs d3).bind fun l30 => some (PyData.list l30)).bind fun u32 => (gNe u31 u32))).bind fun u33 => (asB u33))) == some false)
  | none => false
theorem few_all : (few (.int 2) && few (.int 3) && few (.int 4) && few (.int 5)) = true := by decide +kernel
def lapn (i : Nat) : Option PyData := (((gFdiv (.int (i : Int)) (.int 3)).bind fun u38 => (gMul u38 (.int 3))).bind fun u39 => (gSub (.int (i : Int)) u39)).bind fun u40 => (gIx2 (.list [(.int 3), (.int 5), (.int 8)]) u40)
theorem lapn_ok {i : Nat} (h : i < 8) : ∃ m : Int, lapn i = some (.int m) ∧ 3 ≤ m ∧ m ≤ 8 := by
  unfold lapn
  rw [y_fdiv ⟨by decide, by decide⟩, Option.bind_some, y_mul ⟨by omega, by omega⟩, Option.bind_some, s_sub, Option.bind_some]
  have : (i : Int) - (i : Int) / 3 * 3 = 0 ∨ (i : Int) - (i : Int) / 3 * 3 = 1 ∨ (i : Int) - (i : Int) / 3 * 3 = 2 := by omega
  rcases this with e | e | e <;> rw [e]
  · exact ⟨3, rfl, by decide, by decide⟩
  · exact ⟨5, rfl, by decide, by decide⟩
  · exact ⟨8, rfl, by decide, by decide⟩
theorem few_ok {n : Int} (h : 2 ≤ n ∧ n ≤ 5) : few (.int n) = true := by
  have := few_all
  simp only [Bool.and_eq_true] at this
  obtain ⟨⟨⟨h2, h3⟩, h4⟩, h5⟩ := this
  have : n = 2 ∨ n = 3 ∨ n = 4 ∨ n = 5 := by omega
  rcases this with rfl | rfl | rfl | rfl <;> assumption
/-! two arcs of a lap -/
section
variable {n a b c d : Int} {l m : List Int}
theorem lowR_rg (A : Arc n a b l) : ∀ x ∈ lowR n a b l, 0 ≤ x ∧ x < 12 := fun x hx => by have := (lowR_mem A).mp hx; have := A.n12; omega
theorem two (A : Arc n a b l) (B : Arc n c d m) : ((x__law_stretch (arcD a b l) (arcD c d m)).bind fun d56 => ((x_low_row (.int n) (arcD a b l)).bind fun d57 => ((x_low_row (.int n) (arcD c d m)).bind fun d58 => ((((x_is_stretch (arcD a b l) (arcD c d m)).bind fun u63 => ((x_is_under d57 d58).bind fun u61 => ((x__law_under d57 d58).bind fun u59 => some [u59]).bind fun l60 => some (u61 :: l60)).bind fun l62 => some (u63 :: l62)).bind fun l64 => some (PyData.list l64)).bind fun d65 => ((((gRepr d65).bind fun u66 => ((gRepr (.list [d56, d56, d56])).bind fun u67 => (gNeS u66 u67))).bind fun u68 => (asB u68)).bind fun c69 => (cond c69 (some (.ret (.bool false))) ((x__law_along (arcD c d m) (arcD a b l)).bind fun d70 => ((((((x_runs_along (arcD c d m) (arcD a b l)).bind fun u71 => (gRepr u71)).bind fun u72 => ((gRepr d70).bind fun u73 => (gNeS u72 u73))).bind fun u74 => (asB u74)).bind fun c77 => cond c77 (some true) ((truD d56).bind fun c76 => cond c76 ((truD d70).bind fun c75 => some (!c75)) (some false))).bind fun c78 => (cond c78 (some (Rx.ret (PyData.bool false))) (some (.nxt ()))))))))))) = some (.nxt ()) := by
  rw [y_stretch2 A B, y_low A, y_low B, y_stretch A B, y_along2 A B, y_along A B]
  simp only [Option.bind_some]
  rw [y_under (n := n.toNat) (lowR_nd A) (fun x hx => by have := (lowR_mem A).mp hx; omega) (by have := lowR_14 A; omega) (lowR_nd B) (fun x hx => by have := (lowR_mem B).mp hx; omega) (by have := lowR_14 B; omega), y_lunder (lowR_nd A) (lowR_rg A) (lowR_14 A) (lowR_nd B) (lowR_rg B) (lowR_14 B), under_iff A B]
  simp only [Option.bind_some]
  rw [y_repNe (rok_b3 _)]
  obtain ⟨K, eK⟩ := (rok_b (alB a b l c d m)).rep
  rw [eK]
  simp only [Option.bind_some, y_neS, y_asB, cond_false, y_trB]
  cases hs : strB a b l c d m with
  | false => rfl
  | true =>
    have : alB a b l c d m = true := by
      unfold strB at hs
      simp only [Bool.and_eq_true, Bool.or_eq_true, decide_eq_true_eq] at hs
      rw [str_al A B hs.1.1 hs.1.2]
      exact decide_eq_true hs.2
    rw [this]; rfl
theorem one_arc (A : Arc n a b l) : ((x_sides_exchanged (arcD a b l)).bind fun d82 => ((((((x_high_row (.int n) (arcD a b l)).bind fun u83 => (x_mirrored u83)).bind fun u84 => ((x_low_row (.int n) d82).bind fun u85 => (gNe u84 u85))).bind fun u86 => (asB u86)).bind fun c89 => cond c89 (some true) (((x_sides_exchanged d82).bind fun u87 => (gNe u87 (arcD a b l))).bind fun u88 => (asB u88))).bind fun c90 => (cond c90 (some (Rx.ret (PyData.bool false))) ((((gRepr d82).bind fun u98 => (((((gIx2 (arcD a b l) (.int 0)).bind fun u95 => ((gIx2 (arcD a b l) (.int 1)).bind fun u93 => ((x__law_right (arcD a b l)).bind fun u91 => some [u91]).bind fun l92 => some (u93 :: l92)).bind fun l94 => some (u95 :: l94)).bind fun l96 => some (PyData.tuple l96)).bind fun u97 => (gRepr u97)).bind fun u99 => (gNeS u98 u99))).bind fun u100 => (asB u100)).bind fun c101 => (cond c101 (some (.ret (.bool false))) (some (.nxt ()))))))) = some (.nxt ()) := by
  have em : ∀ r : List Int, x_mirrored (.tuple (r.map .int)) = some (.tuple (r.reverse.map .int)) := fun r => by
    unfold x_mirrored
    walk_at "ys"
  have A2 := A.flip
  have e2 := y_sides A2
  rw [A.flip2] at e2
  rw [y_sides A, y_high A, y_rightB A]
  simp only [Option.bind_some]
  rw [em, List.reverse_reverse, y_low A2, e2]
  have ne : gNe (arcD a b l) (arcD a b l) = some (.bool false) := by
    have h : PyData.eqv (arcD a b l) (arcD a b l) = true := by
      simp [PyData.eqv, PyData.eqvAll, eqvAll_ints]
    unfold gNe
    rw [if_pos ⟨okD_T3 (okD_int _ _) (okD_int _ _) (okD_Tm 18 (okD_int 18) l), okD_T3 (okD_int _ _) (okD_int _ _) (okD_Tm 18 (okD_int 18) l)⟩, h]; rfl
  walk_at "ys"
  simp only [decide_true, Bool.not_true]
  rw [ne]
  walk_at "ys"
  obtain ⟨r1, r2⟩ := rok_arc A2
  obtain ⟨K, eK⟩ := (show Rok (arcD a b (rgt a b l)) from ⟨okR_mono r1 (by decide), by omega⟩).rep
  rw [eK]
  simp only [Option.bind_some, y_neS, y_asB, cond_false]
end
theorem law_x (ns : List Int) (h : ns.length ≤ 63) : x_law (.list (ns.map .int)) = some (.bool true) := by
  unfold x_law
  obtain ⟨s0, hs0, es⟩ := xe_source ns h
  rw [es, Option.bind_some]
  obtain ⟨p0, s1, e1, hs1, h1, h2⟩ := xe_pick s0 hs0 (many := 4) (by omega) (by omega)
  rw [e1, Option.bind_some]
  simp only [s_add, Option.bind_some]
  have fw := few_ok (n := 2 + p0) (by omega)
  unfold few at fw
  split at fw
  · rename_i d10 e10
    rw [e10, Option.bind_some]
    rw [Bool.and_eq_true, beq_iff_eq, beq_iff_eq] at fw
    rw [fw.1, Option.bind_some, cond_false, fw.2, Option.bind_some, cond_false]
    rw [show gR1 (.int 8) = some ((rgZ 0 ((8 : Nat) : Int)).map .int) from y_R1 (big_of (by decide) (by decide)), Option.bind_some]
    refine for_b (fun _ v => SI v) hs1 (fun i d v hd hv => ?_) fun v hv => ?_
    · obtain ⟨hi, rfl⟩ := rgZ_get hd
      obtain ⟨q, eq, q1, q2⟩ := lapn_ok hi
      refine nx (bE eq ?_)
      obtain ⟨p1, s2, e2, hs2, h3, h4⟩ := xe_pick v hv (many := q) (by omega) (by omega)
      refine bE e2 (bE (s_add _ _) ?_)
      refine bR (y_arc s2 hs2 (n := 2 + p1) (by omega) (by omega)) fun r hr => ?_
      obtain ⟨a, b, l, s3, rfl, hs3, A⟩ := hr
      obtain ⟨p2, s4, e4, hs4, _, _⟩ := xe_pick s3 hs3 (many := 3) (by omega) (by omega)
      refine bR (Q := fun v45 => ∃ c d m, v45.2 = arcD c d m ∧ SI v45.1 ∧ Arc (2 + p1) c d m) ?_ fun v45 h45 => ?_
      · refine bE e4 (bE (s_gt _ _) (bE (y_asB _) ?_))
        cases decide (0 < p2) with
        | true =>
          refine bR (y_near s4 hs4 A) fun r hr => ?_
          obtain ⟨c, d, m, s5, rfl, h5, B⟩ := hr
          exact ⟨_, rfl, c, d, m, rfl, h5, B⟩
        | false =>
          refine bR (y_arc s4 hs4 (n := 2 + p1) (by omega) (by omega)) fun r hr => ?_
          obtain ⟨c, d, m, s5, rfl, h5, B⟩ := hr
          exact ⟨_, rfl, c, d, m, rfl, h5, B⟩
      · obtain ⟨s6, _⟩ := v45
        obtain ⟨c, d, m, rfl, hs6, B⟩ := h45
        refine bE rfl ?_
        refine for_e (fun _ _ => True) _ trivial (fun j e w he _ => ?_) fun w _ => ?_
        · match j, he with
          | 0, he => cases he; exact ⟨(), two A B, trivial⟩
          | 1, he => cases he; exact ⟨(), two B A, trivial⟩
          | 2, he => cases he; exact ⟨(), two A A, trivial⟩
          | j + 3, he => cases he
        · rw [unInr_r']
          refine bE rfl ?_
          refine for_e (fun _ _ => True) _ trivial (fun j e w he _ => ?_) fun w _ => ?_
          · match j, he with
            | 0, he => cases he; exact ⟨(), one_arc A, trivial⟩
            | 1, he => cases he; exact ⟨(), one_arc B, trivial⟩
            | j + 2, he => cases he
          · exact ⟨_, rfl, _, rfl, hs6⟩
    · rw [unInr_r']
      have e : x_is_stretch (arcD 1 2 []) (arcD 0 2 []) = some (.bool true) := by
        have A : Arc 3 1 2 [] := ⟨by decide, by decide, by decide, by decide, .nil, fun x hx => nomatch hx⟩
        have B : Arc 3 0 2 [] := ⟨by decide, by decide, by decide, by decide, .nil, fun x hx => nomatch hx⟩
        rw [y_stretch A B, show strB 1 2 [] 0 2 [] = true by decide]
      exact bQ e rfl
  · cases fw
theorem law_holds (ns : List Int) (h : ns.length ≤ 63) : ∃ ms', m_law [.sh (.list (ns.map .int))] = some (.sh (.bool true), ms') := ⟨_, t_law _ _ (law_x ns h)⟩
end Pv

namespace Pv
open PySem PySem.Spec PyProof.Rows L2
theorem _root_.L2.Room.u64 {k : Nat} {A : Around} (h : Room k A) : A.units + 64 < cLine := by have := h.un; omega
theorem _root_.L2.Room.u65 {k : Nat} {A : Around} (h : Room k A) : A.units + 65 < cLine := by have := h.un; omega
theorem _root_.L2.Room.u1 {k : Nat} {A : Around} (h : Room k A) : A.units + 1 < cLine := by have := h.un; omega
def topS (i : Nat) : Stmt := PySem.Challenge.pw_leastlattices_k36_whole_stretches_of_arc.main.body.getD i (.Pass ⟨0, 0, 0, 0⟩)
abbrev st_out_of_order : Stmt := topS 5
theorem sc_out_of_order : FnScope ["row", "found", "k", "ahead", "late"] ["row"] (defScope st_out_of_order) := ⟨rfl, rfl, rfl, by decide +kernel, rfl, by decide +kernel, by decide +kernel⟩
abbrev st_drops : Stmt := topS 6
theorem sc_drops : FnScope ["row", "k"] ["row"] (defScope st_drops) := ⟨rfl, rfl, rfl, by decide +kernel, rfl, by decide +kernel, by decide +kernel⟩
abbrev st_mirrored : Stmt := topS 7
theorem sc_mirrored : FnScope ["row"] ["row"] (defScope st_mirrored) := ⟨rfl, rfl, rfl, by decide +kernel, rfl, by decide +kernel, by decide +kernel⟩
abbrev st_is_under : Stmt := topS 9
theorem sc_is_under : FnScope ["one", "other", "known", "pair"] ["one", "other"] (defScope st_is_under) := ⟨rfl, rfl, rfl, by decide +kernel, rfl, by decide +kernel, by decide +kernel⟩
abbrev st_lots_between : Stmt := topS 12
theorem sc_lots_between : FnScope ["a", "b", "found", "thing", "lot"] ["a", "b"] (defScope st_lots_between) := ⟨rfl, rfl, rfl, by decide +kernel, rfl, by decide +kernel, by decide +kernel⟩
abbrev st_all_arcs : Stmt := topS 13
theorem sc_all_arcs : FnScope ["n", "found", "a", "b", "left"] ["n"] (defScope st_all_arcs) := ⟨rfl, rfl, rfl, by decide +kernel, rfl, by decide +kernel, by decide +kernel⟩
abbrev st_right_of : Stmt := topS 14
theorem sc_right_of : FnScope ["arc", "thing"] ["arc"] (defScope st_right_of) := ⟨rfl, rfl, rfl, by decide +kernel, rfl, by decide +kernel, by decide +kernel⟩
abbrev st_low_row : Stmt := topS 15
theorem sc_low_row : FnScope ["n", "arc", "a", "b", "left"] ["n", "arc"] (defScope st_low_row) := ⟨rfl, rfl, rfl, by decide +kernel, rfl, by decide +kernel, by decide +kernel⟩
abbrev st_sides_exchanged : Stmt := topS 16
theorem sc_sides_exchanged : FnScope ["arc"] ["arc"] (defScope st_sides_exchanged) := ⟨rfl, rfl, rfl, by decide +kernel, rfl, by decide +kernel, by decide +kernel⟩
abbrev st_high_row : Stmt := topS 17
theorem sc_high_row : FnScope ["n", "arc"] ["n", "arc"] (defScope st_high_row) := ⟨rfl, rfl, rfl, by decide +kernel, rfl, by decide +kernel, by decide +kernel⟩
abbrev st_arc_at_step : Stmt := topS 18
theorem sc_arc_at_step : FnScope ["row", "place", "a", "b", "thing"] ["row", "place"] (defScope st_arc_at_step) := ⟨rfl, rfl, rfl, by decide +kernel, rfl, by decide +kernel, by decide +kernel⟩
abbrev st_arcs_of : Stmt := topS 19
theorem sc_arcs_of : FnScope ["row", "place"] ["row"] (defScope st_arcs_of) := ⟨rfl, rfl, rfl, by decide +kernel, rfl, by decide +kernel, by decide +kernel⟩
abbrev st_arc_of_row : Stmt := topS 20
theorem sc_arc_of_row : FnScope ["row", "found"] ["row"] (defScope st_arc_of_row) := ⟨rfl, rfl, rfl, by decide +kernel, rfl, by decide +kernel, by decide +kernel⟩
abbrev st_runs_along : Stmt := topS 21
theorem sc_runs_along : FnScope ["one", "other", "a", "b", "left", "thing"] ["one", "other"] (defScope st_runs_along) := ⟨rfl, rfl, rfl, by decide +kernel, rfl, by decide +kernel, by decide +kernel⟩
abbrev st_is_stretch : Stmt := topS 22
theorem sc_is_stretch : FnScope ["one", "other", "a", "b"] ["one", "other"] (defScope st_is_stretch) := ⟨rfl, rfl, rfl, by decide +kernel, rfl, by decide +kernel, by decide +kernel⟩
abbrev st_has_one_drop : Stmt := topS 25
theorem sc_has_one_drop : FnScope ["row"] ["row"] (defScope st_has_one_drop) := ⟨rfl, rfl, rfl, by decide +kernel, rfl, by decide +kernel, by decide +kernel⟩
abbrev st_one_drop_rows : Stmt := topS 26
theorem sc_one_drop_rows : FnScope ["n", "found", "number", "early", "row", "a"] ["n"] (defScope st_one_drop_rows) := ⟨rfl, rfl, rfl, by decide +kernel, rfl, by decide +kernel, by decide +kernel⟩
abbrev st__law_source : Stmt := topS 28
theorem sc__law_source : FnScope ["script", "mixed", "cell"] ["script"] (defScope st__law_source) := ⟨rfl, rfl, rfl, by decide +kernel, rfl, by decide +kernel, by decide +kernel⟩
abbrev st__law_pick : Stmt := topS 29
theorem sc__law_pick : FnScope ["source", "many", "left", "mixed"] ["source", "many"] (defScope st__law_pick) := ⟨rfl, rfl, rfl, by decide +kernel, rfl, by decide +kernel, by decide +kernel⟩
abbrev st__law_arc : Stmt := topS 30
theorem sc__law_arc : FnScope ["source", "n", "b", "a", "x"] ["source", "n"] (defScope st__law_arc) := ⟨rfl, rfl, rfl, by decide +kernel, rfl, by decide +kernel, by decide +kernel⟩
abbrev st__law_right : Stmt := topS 31
theorem sc__law_right : FnScope ["arc", "x"] ["arc"] (defScope st__law_right) := ⟨rfl, rfl, rfl, by decide +kernel, rfl, by decide +kernel, by decide +kernel⟩
abbrev st__law_pairs : Stmt := topS 32
theorem sc__law_pairs : FnScope ["row", "found", "k", "x", "y"] ["row"] (defScope st__law_pairs) := ⟨rfl, rfl, rfl, by decide +kernel, rfl, by decide +kernel, by decide +kernel⟩
abbrev st__law_under : Stmt := topS 33
theorem sc__law_under : FnScope ["one", "other", "late", "pair"] ["one", "other"] (defScope st__law_under) := ⟨rfl, rfl, rfl, by decide +kernel, rfl, by decide +kernel, by decide +kernel⟩
abbrev st__law_stretch : Stmt := topS 34
theorem sc__law_stretch : FnScope ["one", "other", "a", "b", "left", "x"] ["one", "other"] (defScope st__law_stretch) := ⟨rfl, rfl, rfl, by decide +kernel, rfl, by decide +kernel, by decide +kernel⟩
abbrev st__law_along : Stmt := topS 35
theorem sc__law_along : FnScope ["one", "other", "a", "b", "left", "x"] ["one", "other"] (defScope st__law_along) := ⟨rfl, rfl, rfl, by decide +kernel, rfl, by decide +kernel, by decide +kernel⟩
abbrev st__law_near : Stmt := topS 36
theorem sc__law_near : FnScope ["source", "arc", "a", "b", "left", "c", "d", "late", "x"] ["source", "arc"] (defScope st__law_near) := ⟨rfl, rfl, rfl, by decide +kernel, rfl, by decide +kernel, by decide +kernel⟩
abbrev st_law : Stmt := topS 37
theorem sc_law : FnScope ["script", "source", "n", "rows", "lap", "one", "other", "first", "second", "due", "low", "late", "told", "does_run", "arc", "row"] ["script"] (defScope st_law) := ⟨rfl, rfl, rfl, by decide +kernel, rfl, by decide +kernel, by decide +kernel⟩
structure Bi (mg : Str → Option Value) : Prop where
  b_abs : mg "abs" = none
  b_all : mg "all" = none
  b_dict : mg "dict" = none
  b_enumerate : mg "enumerate" = none
  b_int : mg "int" = none
  b_len : mg "len" = none
  b_max : mg "max" = none
  b_range : mg "range" = none
  b_repr : mg "repr" = none
  b_sorted : mg "sorted" = none
  b_tuple : mg "tuple" = none
  c_MOST_ARCS : ∃ t, mg "MOST_ARCS" = some (.int 2000 t)
  c_MOST_ROWS : ∃ t, mg "MOST_ROWS" = some (.int 2000 t)
section
variable {P : Program} {w : World} {K : Frag} {mg : Str → Option Value} {base : Heap}
theorem ok_out_of_order {f : Addr} {fd : FuncData} (F : Fun K "out_of_order" "out_of_order" st_out_of_order f fd) (B : Bi mg) : FnOk P w K mg base CX0 1 f fd ["row"] (spF K m_out_of_order) :=
 fn_ok (N := ["row", "found", "k", "ahead", "late"]) F sc_out_of_order fun cdv A outer s H E hr => show PSs _ (defBody st_out_of_order) (TSv _ (b_out_of_order)) from (k_bcons (k_set (i := 1) sc_out_of_order.nd (.inl rfl) (k_lst k_nil))
 (k_bcons (k_for PassesOwn.never rfl (k_ien (k_var 0) B.b_enumerate) (k_gtp rfl (k_gcons (k_gnm (i := 2) sc_out_of_order.nd (.inl rfl)) (k_gcons (k_gnm (i := 3) sc_out_of_order.nd (.inr rfl)) k_gnil))) (k_bcons (k_ext (i := 1) sc_out_of_order.nd (.inl rfl) (k_fr (k_lc (own := [("late", 4)]) rfl sc_out_of_order.nd (show blkC ["row", "found", "k", "ahead", "late"] (defScope st_out_of_order) _ [("late", 4)] = true from by decide +kernel) (k_iseq (k_sl sl_all v3_sl (k_var 0) (k_psome (k_bin op_addAll v2_add (k_var 2) k_int)) k_pnone)) (fun _ _ _ _ _ => (k_gc (i := 4) sc_out_of_order.nd (.inl rfl) (by decide))) (fun _ _ _ _ _ => (k_tsone (k_tcmp op_lt v2_lt (k_var 4) (k_var 3)))) (fun _ _ _ _ _ => (k_tup (k_cons (k_var 4) (k_cons (k_var 3) k_nil)))))))
 k_bnil))
 (k_bcons (k_ret (k_sh (k_callTy1 call_tupF v1_tuple (k_fr (k_callBO1 (cr_sort3 hr.u64) w1_sort3 (k_var 1) B.b_sorted)) B.b_tuple)))
 k_bnil)))
theorem ok_drops {f : Addr} {fd : FuncData} (F : Fun K "drops" "drops" st_drops f fd) (B : Bi mg) : FnOk P w K mg base CX0 1 f fd ["row"] (spF K m_drops) :=
 fn_ok (N := ["row", "k"]) F sc_drops fun cdv A outer s H E hr => show PSs _ (defBody st_drops) (TSv _ (b_drops)) from (k_bcons (k_ret (k_sh (k_callTy1 call_tupF v1_tuple (k_fr (k_lc (own := [("k", 1)]) rfl sc_drops.nd (show blkC ["row", "k"] (defScope st_drops) _ [("k", 1)] = true from by decide +kernel) (k_irg1 (k_bin op_sub v2_sub (k_callB1 call_len2 v1_len2 (k_var 0) B.b_len) k_int) B.b_range) (fun _ _ _ _ _ => (k_gc (i := 1) sc_drops.nd (.inl rfl) (by decide))) (fun _ _ _ _ _ => (k_tsone (k_tcmp op_gt v2_gt (k_ix (ix_all hr.u64) v2_ix2 (k_var 0) (k_var 1)) (k_ix (ix_all hr.u64) v2_ix2 (k_var 0) (k_bin op_addAll v2_add (k_var 1) k_int))))) (fun _ _ _ _ _ => (k_var 1)))) B.b_tuple)))
 k_bnil)
theorem ok_mirrored {f : Addr} {fd : FuncData} (F : Fun K "mirrored" "mirrored" st_mirrored f fd) (B : Bi mg) : FnOk P w K mg base CX0 1 f fd ["row"] (spF K m_mirrored) :=
 fn_ok (N := ["row"]) F sc_mirrored fun cdv A outer s H E hr => show PSs _ (defBody st_mirrored) (TSv _ (b_mirrored)) from (k_bcons (k_ret (k_sh (k_revT (k_var 0))))
 k_bnil)
theorem ok_is_under {f : Addr} {fd : FuncData} (F : Fun K "is_under" "is_under" st_is_under f fd) (B : Bi mg) (h_out_of_order : Has P w K mg base 1 "out_of_order" ["row"] m_out_of_order) : FnOk P w K mg base CX0 2 f fd ["one", "other"] (spF K m_is_under) :=
 fn_ok (N := ["one", "other", "known", "pair"]) F sc_is_under fun cdv A outer s H E hr => show PSs _ (defBody st_is_under) (TSv _ (b_is_under m_out_of_order)) from (k_bcons (k_setSh (k_set (i := 2) sc_is_under.nd (.inr rfl) (k_dictL rfl hr.u64 (k_fr (k_lc (own := [("pair", 3)]) rfl sc_is_under.nd (show blkC ["one", "other", "known", "pair"] (defScope st_is_under) _ [("pair", 3)] = true from by decide +kernel) (k_iseq (k_fr (k_call h_out_of_order (hr.mono (by decide)) (k_cons (k_var 1) k_nil)))) (fun _ _ _ _ _ => (k_gc (i := 3) sc_is_under.nd (.inl rfl) (by decide))) (fun _ _ _ _ _ => k_tsnil) (fun _ _ _ _ _ => (k_tup (k_cons (k_var 3) (k_cons k_bl k_nil)))))) B.b_dict)))
 (k_bcons (k_ret (k_sh (k_callB1 (cr_all rfl) v1_all (k_fr (k_lc (own := [("pair", 3)]) rfl sc_is_under.nd (show blkC ["one", "other", "known", "pair"] (defScope st_is_under) _ [("pair", 3)] = true from by decide +kernel) (k_iseq (k_fr (k_call h_out_of_order (hr.mono (by decide)) (k_cons (k_var 0) k_nil)))) (fun _ _ _ _ _ => (k_gc (i := 3) sc_is_under.nd (.inl rfl) (by decide))) (fun _ _ _ _ _ => k_tsnil) (fun _ _ _ _ _ => (k_cmp (op_in2 hr.u65) v2_in2 (k_var 3) (k_var 2))))) B.b_all)))
 k_bnil))
theorem ok_lots_between {f : Addr} {fd : FuncData} (F : Fun K "lots_between" "lots_between" st_lots_between f fd) (B : Bi mg) : FnOk P w K mg base CX0 1 f fd ["a", "b"] (spF K m_lots_between) :=
 fn_ok (N := ["a", "b", "found", "thing", "lot"]) F sc_lots_between fun cdv A outer s H E hr => show PSs _ (defBody st_lots_between) (TSv _ (b_lots_between)) from (k_bcons (k_setSh (k_set (i := 2) sc_lots_between.nd (.inl rfl) (k_lst (k_cons (k_tup k_nil) k_nil))))
 (k_bcons (k_for PassesOwn.never rfl (k_irg2 (k_bin op_addAll v2_add (k_var 0) k_int) (k_var 1) B.b_range) (k_gnm (i := 3) sc_lots_between.nd (.inr rfl)) (k_bcons (k_set (i := 2) sc_lots_between.nd (.inl rfl) (k_sh (k_bin op_addAll v2_add (k_var 2) (k_fr (k_lc (own := [("lot", 4)]) rfl sc_lots_between.nd (show blkC ["a", "b", "found", "thing", "lot"] (defScope st_lots_between) _ [("lot", 4)] = true from by decide +kernel) (k_iseq (k_var 2)) (fun _ _ _ _ _ => (k_gc (i := 4) sc_lots_between.nd (.inl rfl) (by decide))) (fun _ _ _ _ _ => k_tsnil) (fun _ _ _ _ _ => (k_tup (k_star (k_var 4) (k_cons (k_var 3) k_nil)))))))))
 k_bnil))
 (k_bcons (k_ret (k_sh (k_var 2)))
 k_bnil)))
theorem ok_all_arcs {f : Addr} {fd : FuncData} (F : Fun K "all_arcs" "all_arcs" st_all_arcs f fd) (B : Bi mg) (h_lots_between : Has P w K mg base 1 "lots_between" ["a", "b"] m_lots_between) : FnOk P w K mg base CX0 2 f fd ["n"] (spF K m_all_arcs) :=
 fn_ok (N := ["n", "found", "a", "b", "left"]) F sc_all_arcs fun cdv A outer s H E hr => show PSs _ (defBody st_all_arcs) (TSv _ (b_all_arcs m_lots_between)) from (k_bcons (k_sif (k_tcmp op_gt v2_gt (k_bin op_sub v2_sub (k_bin op_sub v2_sub (k_bin op_shl v2_shl k_int (k_var 0)) (k_var 0)) k_int) (k_gi B.c_MOST_ARCS)) (k_bcons k_sNone
 k_bnil) k_bnil)
 (k_bcons (k_set (i := 1) sc_all_arcs.nd (.inl rfl) (k_lst k_nil))
 (k_bcons (k_for PassesOwn.never rfl (k_irg1 (k_var 0) B.b_range) (k_gnm (i := 2) sc_all_arcs.nd (.inr rfl)) (k_bcons (k_for PassesOwn.never rfl (k_irg2 (k_bin op_addAll v2_add (k_var 2) k_int) (k_var 0) B.b_range) (k_gnm (i := 3) sc_all_arcs.nd (.inr rfl)) (k_bcons (k_expr (k_lm1 (j := 1) PySem.F.slot_list_extend PySem.F.type_list_extend mt_extS l1_extend (k_fr (k_lc (own := [("left", 4)]) rfl sc_all_arcs.nd (show blkC ["n", "found", "a", "b", "left"] (defScope st_all_arcs) _ [("left", 4)] = true from by decide +kernel) (k_iseq (k_fr (k_call h_lots_between (hr.mono (by decide)) (k_cons (k_var 2) (k_cons (k_var 3) k_nil))))) (fun _ _ _ _ _ => (k_gc (i := 4) sc_all_arcs.nd (.inl rfl) (by decide))) (fun _ _ _ _ _ => k_tsnil) (fun _ _ _ _ _ => (k_tup (k_cons (k_var 2) (k_cons (k_var 3) (k_cons (k_var 4) k_nil)))))))))
 k_bnil))
 k_bnil))
 (k_bcons (k_ret (k_callBO1 (cr_sort3 hr.u64) w1_sort3 (k_var 1) B.b_sorted))
 k_bnil))))
theorem ok_right_of {f : Addr} {fd : FuncData} (F : Fun K "right_of" "right_of" st_right_of f fd) (B : Bi mg) : FnOk P w K mg base CX0 1 f fd ["arc"] (spF K m_right_of) :=
 fn_ok (N := ["arc", "thing"]) F sc_right_of fun cdv A outer s H E hr => show PSs _ (defBody st_right_of) (TSv _ (b_right_of)) from (k_bcons (k_ret (k_sh (k_callTy1 call_tupF v1_tuple (k_fr (k_lc (own := [("thing", 1)]) rfl sc_right_of.nd (show blkC ["arc", "thing"] (defScope st_right_of) _ [("thing", 1)] = true from by decide +kernel) (k_irg2 (k_bin op_addAll v2_add (k_ix (ix_all hr.u64) v2_ix2 (k_var 0) k_int) k_int) (k_ix (ix_all hr.u64) v2_ix2 (k_var 0) k_int) B.b_range) (fun _ _ _ _ _ => (k_gc (i := 1) sc_right_of.nd (.inl rfl) (by decide))) (fun _ _ _ _ _ => (k_tsone (k_tcmp (op_notIn2 hr.u65) v2_notIn2 (k_var 1) (k_ix (ix_all hr.u64) v2_ix2 (k_var 0) k_int)))) (fun _ _ _ _ _ => (k_var 1)))) B.b_tuple)))
 k_bnil)
theorem ok_low_row {f : Addr} {fd : FuncData} (F : Fun K "low_row" "low_row" st_low_row f fd) (B : Bi mg) (h_right_of : Has P w K mg base 1 "right_of" ["arc"] m_right_of) : FnOk P w K mg base CX0 2 f fd ["n", "arc"] (spF K m_low_row) :=
 fn_ok (N := ["n", "arc", "a", "b", "left"]) F sc_low_row fun cdv A outer s H E hr => show PSs _ (defBody st_low_row) (TSv _ (b_low_row m_right_of)) from (k_bcons (k_asg (k_var 1) (k_gtp rfl (k_gcons (k_gnm (i := 2) sc_low_row.nd (.inl rfl)) (k_gcons (k_gnm (i := 3) sc_low_row.nd (.inl rfl)) (k_gcons (k_gnm (i := 4) sc_low_row.nd (.inl rfl)) k_gnil)))))
 (k_bcons (k_ret (k_sh (k_tup (k_starRg rfl (k_rg1 (k_var 2) B.b_range) (k_star (k_var 4) (k_cons (k_var 3) (k_cons (k_var 2) (k_star (k_fr (k_call h_right_of (hr.mono (by decide)) (k_cons (k_var 1) k_nil))) (k_starRg rfl (k_rg2 (k_bin op_addAll v2_add (k_var 3) k_int) (k_var 0) B.b_range) k_nil)))))))))
 k_bnil))
theorem ok_sides_exchanged {f : Addr} {fd : FuncData} (F : Fun K "sides_exchanged" "sides_exchanged" st_sides_exchanged f fd) (B : Bi mg) (h_right_of : Has P w K mg base 1 "right_of" ["arc"] m_right_of) : FnOk P w K mg base CX0 2 f fd ["arc"] (spF K m_sides_exchanged) :=
 fn_ok (N := ["arc"]) F sc_sides_exchanged fun cdv A outer s H E hr => show PSs _ (defBody st_sides_exchanged) (TSv _ (b_sides_exchanged m_right_of)) from (k_bcons (k_ret (k_sh (k_tup (k_cons (k_ix (ix_all hr.u64) v2_ix2 (k_var 0) k_int) (k_cons (k_ix (ix_all hr.u64) v2_ix2 (k_var 0) k_int) (k_cons (k_fr (k_call h_right_of (hr.mono (by decide)) (k_cons (k_var 0) k_nil))) k_nil))))))
 k_bnil)
theorem ok_high_row {f : Addr} {fd : FuncData} (F : Fun K "high_row" "high_row" st_high_row f fd) (B : Bi mg) (h_low_row : Has P w K mg base 2 "low_row" ["n", "arc"] m_low_row) (h_sides_exchanged : Has P w K mg base 2 "sides_exchanged" ["arc"] m_sides_exchanged) : FnOk P w K mg base CX0 3 f fd ["n", "arc"] (spF K m_high_row) :=
 fn_ok (N := ["n", "arc"]) F sc_high_row fun cdv A outer s H E hr => show PSs _ (defBody st_high_row) (TSv _ (b_high_row m_low_row m_sides_exchanged)) from (k_bcons (k_ret (k_sh (k_revT (k_fr (k_call h_low_row (hr.mono (by decide)) (k_cons (k_var 0) (k_cons (k_fr (k_call h_sides_exchanged (hr.mono (by decide)) (k_cons (k_var 1) k_nil))) k_nil)))))))
 k_bnil)
theorem ok_arc_at_step {f : Addr} {fd : FuncData} (F : Fun K "arc_at_step" "arc_at_step" st_arc_at_step f fd) (B : Bi mg) : FnOk P w K mg base CX0 1 f fd ["row", "place"] (spF K m_arc_at_step) :=
 fn_ok (N := ["row", "place", "a", "b", "thing"]) F sc_arc_at_step fun cdv A outer s H E hr => show PSs _ (defBody st_arc_at_step) (TSv _ (b_arc_at_step)) from (k_bcons (k_asg (k_fr (k_callBO1 (cr_sort3 hr.u64) w1_sort3 (k_sl sl_all v3_sl (k_var 0) (k_psome (k_var 1)) (k_psome (k_bin op_addAll v2_add (k_var 1) k_int))) B.b_sorted)) (k_gtp2 rfl (k_gcons (k_gnm (i := 2) sc_arc_at_step.nd (.inr rfl)) (k_gcons (k_gnm (i := 3) sc_arc_at_step.nd (.inr rfl)) k_gnil))))
 (k_bcons (k_ret (k_sh (k_tup (k_cons (k_var 2) (k_cons (k_var 3) (k_cons (k_callTy1 call_tupF v1_tuple (k_fr (k_callBO1 (cr_sort3 hr.u64) w1_sort3 (k_fr (k_lc (own := [("thing", 4)]) rfl sc_arc_at_step.nd (show blkC ["row", "place", "a", "b", "thing"] (defScope st_arc_at_step) _ [("thing", 4)] = true from by decide +kernel) (k_iseq (k_sl sl_all v3_sl (k_var 0) k_pnone (k_psome (k_var 1)))) (fun _ _ _ _ _ => (k_gc (i := 4) sc_arc_at_step.nd (.inl rfl) (by decide))) (fun _ _ _ _ _ => (k_tsone (k_tchain op_lt v2_lt op_lt v2_lt (k_var 2) (k_var 4) (k_var 3)))) (fun _ _ _ _ _ => (k_var 4)))) B.b_sorted)) B.b_tuple) k_nil))))))
 k_bnil))
theorem ok_arcs_of {f : Addr} {fd : FuncData} (F : Fun K "arcs_of" "arcs_of" st_arcs_of f fd) (B : Bi mg) (h_drops : Has P w K mg base 1 "drops" ["row"] m_drops) (h_arc_at_step : Has P w K mg base 1 "arc_at_step" ["row", "place"] m_arc_at_step) : FnOk P w K mg base CX0 2 f fd ["row"] (spF K m_arcs_of) :=
 fn_ok (N := ["row", "place"]) F sc_arcs_of fun cdv A outer s H E hr => show PSs _ (defBody st_arcs_of) (TSv _ (b_arcs_of m_drops m_arc_at_step)) from (k_bcons (k_ret (k_sh (k_callTy1 call_tupF v1_tuple (k_fr (k_callBO1 (cr_sort3 hr.u64) w1_sort3 (k_fr (k_lc (own := [("place", 1)]) rfl sc_arcs_of.nd (show blkC ["row", "place"] (defScope st_arcs_of) _ [("place", 1)] = true from by decide +kernel) (k_iseq (k_fr (k_call h_drops (hr.mono (by decide)) (k_cons (k_var 0) k_nil)))) (fun _ _ _ _ _ => (k_gc (i := 1) sc_arcs_of.nd (.inl rfl) (by decide))) (fun _ _ _ _ _ => k_tsnil) (fun _ _ _ _ _ => (k_fr (k_call h_arc_at_step (hr.mono (by decide)) (k_cons (k_var 0) (k_cons (k_var 1) k_nil))))))) B.b_sorted)) B.b_tuple)))
 k_bnil)
theorem ok_arc_of_row {f : Addr} {fd : FuncData} (F : Fun K "arc_of_row" "arc_of_row" st_arc_of_row f fd) (B : Bi mg) (h_arcs_of : Has P w K mg base 2 "arcs_of" ["row"] m_arcs_of) : FnOk P w K mg base CX0 3 f fd ["row"] (spF K m_arc_of_row) :=
 fn_ok (N := ["row", "found"]) F sc_arc_of_row fun cdv A outer s H E hr => show PSs _ (defBody st_arc_of_row) (TSv _ (b_arc_of_row m_arcs_of)) from (k_bcons (k_setSh (k_set (i := 1) sc_arc_of_row.nd (.inl rfl) (k_call h_arcs_of (hr.mono (by decide)) (k_cons (k_var 0) k_nil))))
 (k_bcons (k_sif (k_tcmp (op_neD hr.u64) v2_ne (k_callB1 call_len2 v1_len2 (k_var 1) B.b_len) k_int) (k_bcons k_sNone
 k_bnil) k_bnil)
 (k_bcons (k_ret (k_sh (k_ix (ix_all hr.u64) v2_ix2 (k_var 1) k_int)))
 k_bnil)))
theorem ok_runs_along {f : Addr} {fd : FuncData} (F : Fun K "runs_along" "runs_along" st_runs_along f fd) (B : Bi mg) : FnOk P w K mg base CX0 1 f fd ["one", "other"] (spF K m_runs_along) :=
 fn_ok (N := ["one", "other", "a", "b", "left", "thing"]) F sc_runs_along fun cdv A outer s H E hr => show PSs _ (defBody st_runs_along) (TSv _ (b_runs_along)) from (k_bcons (k_asg (k_var 1) (k_gtp rfl (k_gcons (k_gnm (i := 2) sc_runs_along.nd (.inr rfl)) (k_gcons (k_gnm (i := 3) sc_runs_along.nd (.inr rfl)) (k_gcons (k_gnm (i := 4) sc_runs_along.nd (.inl rfl)) k_gnil)))))
 (k_bcons (k_ret (k_sh (k_an (k_cmp op_le v2_le (k_ix (ix_all hr.u64) v2_ix2 (k_var 0) k_int) (k_var 2)) (k_an (k_cmp op_le v2_le (k_var 3) (k_ix (ix_all hr.u64) v2_ix2 (k_var 0) k_int)) (k_one (k_cmp (op_eqD hr.u64) v2_eq (k_var 4) (k_callTy1 call_tupF v1_tuple (k_fr (k_lc (own := [("thing", 5)]) rfl sc_runs_along.nd (show blkC ["one", "other", "a", "b", "left", "thing"] (defScope st_runs_along) _ [("thing", 5)] = true from by decide +kernel) (k_iseq (k_ix (ix_all hr.u64) v2_ix2 (k_var 0) k_int)) (fun _ _ _ _ _ => (k_gc (i := 5) sc_runs_along.nd (.inl rfl) (by decide))) (fun _ _ _ _ _ => (k_tsone (k_tchain op_lt v2_lt op_lt v2_lt (k_var 2) (k_var 5) (k_var 3)))) (fun _ _ _ _ _ => (k_var 5)))) B.b_tuple)))))))
 k_bnil))
theorem ok_is_stretch {f : Addr} {fd : FuncData} (F : Fun K "is_stretch" "is_stretch" st_is_stretch f fd) (B : Bi mg) (h_right_of : Has P w K mg base 1 "right_of" ["arc"] m_right_of) (h_runs_along : Has P w K mg base 1 "runs_along" ["one", "other"] m_runs_along) : FnOk P w K mg base CX0 2 f fd ["one", "other"] (spF K m_is_stretch) :=
 fn_ok (N := ["one", "other", "a", "b"]) F sc_is_stretch fun cdv A outer s H E hr => show PSs _ (defBody st_is_stretch) (TSv _ (b_is_stretch m_right_of m_runs_along)) from (k_bcons (k_asg (k_sl sl_all v3_sl (k_var 0) k_pnone (k_psome k_int)) (k_gtp rfl (k_gcons (k_gnm (i := 2) sc_is_stretch.nd (.inl rfl)) (k_gcons (k_gnm (i := 3) sc_is_stretch.nd (.inl rfl)) k_gnil))))
 (k_bcons (k_sif (PW.pt (k_wor (PW.pt (k_wan (k_tcmp (op_neD hr.u64) v2_ne (k_var 2) (k_ix (ix_all hr.u64) v2_ix2 (k_var 1) k_int)) (k_wan1 (k_tcmp (op_notIn2 hr.u65) v2_notIn2 (k_var 2) (k_fr (k_call h_right_of (hr.mono (by decide)) (k_cons (k_var 1) k_nil))))))) (k_wor1 (PW.pt (k_wan (k_tcmp (op_neD hr.u64) v2_ne (k_var 3) (k_ix (ix_all hr.u64) v2_ix2 (k_var 1) k_int)) (k_wan1 (k_tcmp (op_notIn2 hr.u65) v2_notIn2 (k_var 3) (k_ix (ix_all hr.u64) v2_ix2 (k_var 1) k_int)))))))) (k_bcons (k_ret (k_sh k_bl))
 k_bnil) k_bnil)
 (k_bcons (k_ret (k_call h_runs_along (hr.mono (by decide)) (k_cons (k_var 1) (k_cons (k_var 0) k_nil))))
 k_bnil)))
theorem ok_has_one_drop {f : Addr} {fd : FuncData} (F : Fun K "has_one_drop" "has_one_drop" st_has_one_drop f fd) (B : Bi mg) (h_drops : Has P w K mg base 1 "drops" ["row"] m_drops) : FnOk P w K mg base CX0 2 f fd ["row"] (spF K m_has_one_drop) :=
 fn_ok (N := ["row"]) F sc_has_one_drop fun cdv A outer s H E hr => show PSs _ (defBody st_has_one_drop) (TSv _ (b_has_one_drop m_drops)) from (k_bcons (k_ret (k_sh (k_cmp (op_eqD hr.u64) v2_eq (k_callB1 call_len2 v1_len2 (k_fr (k_call h_drops (hr.mono (by decide)) (k_cons (k_var 0) k_nil))) B.b_len) k_int)))
 k_bnil)
theorem ok_one_drop_rows {f : Addr} {fd : FuncData} (F : Fun K "one_drop_rows" "one_drop_rows" st_one_drop_rows f fd) (B : Bi mg) (h_has_one_drop : Has P w K mg base 2 "has_one_drop" ["row"] m_has_one_drop) : FnOk P w K mg base CX0 3 f fd ["n"] (spF K m_one_drop_rows) :=
 fn_ok (N := ["n", "found", "number", "early", "row", "a"]) F sc_one_drop_rows fun cdv A outer s H E hr => show PSs _ (defBody st_one_drop_rows) (TSv _ (b_one_drop_rows m_has_one_drop)) from (k_bcons (k_sif (k_tcmp op_gt v2_gt (k_bin op_sub v2_sub (k_bin op_sub v2_sub (k_bin op_shl v2_shl k_int (k_var 0)) (k_var 0)) k_int) (k_gi B.c_MOST_ROWS)) (k_bcons k_sNone
 k_bnil) k_bnil)
 (k_bcons (k_set (i := 1) sc_one_drop_rows.nd (.inl rfl) (k_lst k_nil))
 (k_bcons (k_for PassesOwn.never rfl (k_irg1 (k_bin op_shl v2_shl k_int (k_var 0)) B.b_range) (k_gnm (i := 2) sc_one_drop_rows.nd (.inr rfl)) (k_bcons (k_setSh (k_setLc (i := 3) (own := [("a", 5)]) rfl sc_one_drop_rows.nd rfl (sw_true rfl rfl rfl (by decide +kernel)) (show blkC ["n", "found", "number", "early", "row", "a"] (defScope st_one_drop_rows) _ [("a", 5)] = true from by decide +kernel) (k_irg1 (k_var 0) B.b_range) (fun _ _ _ _ _ => (k_gc (i := 5) sc_one_drop_rows.nd (.inl rfl) (by decide))) (fun _ _ _ _ _ => (k_tsone (k_tcmp (op_eqD hr.u64) v2_eq (k_bin op_and v2_and (k_bin op_shr v2_shr (k_var 2) (k_var 5)) k_int) k_int))) (fun _ _ _ _ _ => (k_var 5))))
 (k_bcons (k_set (i := 4) sc_one_drop_rows.nd (.inl rfl) (k_sh (k_callTy1 call_tupF v1_tuple (k_bin op_addAll v2_add (k_var 3) (k_fr (k_lc (own := [("a", 5)]) rfl sc_one_drop_rows.nd (show blkC ["n", "found", "number", "early", "row", "a"] (defScope st_one_drop_rows) _ [("a", 5)] = true from by decide +kernel) (k_irg1 (k_var 0) B.b_range) (fun _ _ _ _ _ => (k_gc (i := 5) sc_one_drop_rows.nd (.inl rfl) (by decide))) (fun _ _ _ _ _ => (k_tsone (k_tcmp (op_eqD hr.u64) v2_eq (k_bin op_and v2_and (k_bin op_shr v2_shr (k_var 2) (k_var 5)) k_int) k_int))) (fun _ _ _ _ _ => (k_var 5))))) B.b_tuple)))
 (k_bcons (k_sif (k_ttr (k_fr (k_call h_has_one_drop (hr.mono (by decide)) (k_cons (k_var 4) k_nil)))) (k_bcons (k_expr (k_lm1 (j := 1) PySem.F.slot_list_append PySem.F.type_list_append mt_append l1_append (k_var 4)))
 k_bnil) k_bnil)
 k_bnil))))
 (k_bcons (k_ret (k_callBO1 (cr_sort3 hr.u64) w1_sort3 (k_var 1) B.b_sorted))
 k_bnil))))
theorem ok__law_source {f : Addr} {fd : FuncData} (F : Fun K "_law_source" "_law_source" st__law_source f fd) (B : Bi mg) : FnOk P w K mg base CX0 1 f fd ["script"] (spF K m__law_source) :=
 fn_ok (N := ["script", "mixed", "cell"]) F sc__law_source fun cdv A outer s H E hr => show PSs _ (defBody st__law_source) (TSv _ (b__law_source)) from (k_bcons (k_set (i := 1) sc__law_source.nd (.inl rfl) (k_sh k_int))
 (k_bcons (k_for PassesOwn.never rfl (k_iseq (k_var 0)) (k_gnm (i := 2) sc__law_source.nd (.inl rfl)) (k_bcons (k_set (i := 1) sc__law_source.nd (.inl rfl) (k_sh (k_bin op_mod v2_mod (k_callTy1 call_int1 v1_int (k_bin op_addAll v2_add (k_bin op_addAll v2_add (k_bin op_mul v2_mul (k_var 1) k_int) (k_bin op_mul v2_mul (k_var 2) k_int)) k_int) B.b_int) k_int)))
 k_bnil))
 (k_bcons (k_ret (k_oSrc (k_revL (k_fr (k_lc (own := [("cell", 2)]) rfl sc__law_source.nd (show blkC ["script", "mixed", "cell"] (defScope st__law_source) _ [("cell", 2)] = true from by decide +kernel) (k_iseq (k_var 0)) (fun _ _ _ _ _ => (k_gc (i := 2) sc__law_source.nd (.inl rfl) (by decide))) (fun _ _ _ _ _ => k_tsnil) (fun _ _ _ _ _ => (k_callB1 call_abs v1_abs (k_var 2) B.b_abs))))) k_int (k_var 1) k_int))
 k_bnil)))
theorem ok__law_pick {f : Addr} {fd : FuncData} (F : Fun K "_law_pick" "_law_pick" st__law_pick f fd) (B : Bi mg) : FnOk P w K mg base CX0 1 f fd ["source", "many"] (spF K m__law_pick) :=
 fn_ok (N := ["source", "many", "left", "mixed"]) F sc__law_pick fun cdv A outer s H E hr => show PSs _ (defBody st__law_pick) (TSv _ (b__law_pick)) from (k_bcons (k_while PassesOwn.never (PW.pt (k_wan (k_tcmp op_gt v2_gt (k_var 1) k_int) (k_wan (k_tcmp op_lt v2_lt (k_src (j := 0) .left hr.u1) k_int) (k_wan1 (k_tcmp op_gt v2_gt (k_srcLen (j := 0) hr.u1 B.b_len) k_int))))) (k_bcons (k_srcPut (j := 0) .left hr.u1 (k_srcPop (j := 0) hr.u1))
 k_bnil))
 (k_bcons (k_set (i := 2) sc__law_pick.nd (.inl rfl) (k_sh (k_src (j := 0) .left hr.u1)))
 (k_bcons (k_sif (PW.pt (k_wor (k_tcmp op_lt v2_lt (k_var 1) k_int) (k_wor1 (k_tcmp op_gt v2_gt (k_var 2) k_int)))) (k_bcons (k_srcPut (j := 0) .left hr.u1 (k_bin op_fdiv v2_fdiv (k_var 2) (k_callB2 (call_max2 rfl) v2_max2 k_int (k_var 1) B.b_max)))
 (k_bcons (k_ret (k_sh (k_bin op_mod v2_mod (k_callTy1 call_int1 v1_int (k_var 2) B.b_int) (k_callB2 (call_max2 rfl) v2_max2 k_int (k_var 1) B.b_max))))
 k_bnil)) k_bnil)
 (k_bcons (k_srcPut (j := 0) .turn hr.u1 (k_bin op_addAll v2_add (k_src (j := 0) .turn hr.u1) k_int))
 (k_bcons (k_set (i := 3) sc__law_pick.nd (.inl rfl) (k_sh (k_bin op_mod v2_mod (k_callTy1 call_int1 v1_int (k_bin op_addAll v2_add (k_src (j := 0) .mixed hr.u1) (k_bin op_mul v2_mul (k_src (j := 0) .turn hr.u1) k_int)) B.b_int) k_int)))
 (k_bcons (k_set (i := 3) sc__law_pick.nd (.inl rfl) (k_sh (k_bin op_mod v2_mod (k_callTy1 call_int1 v1_int (k_bin op_addAll v2_add (k_bin op_mul v2_mul (k_var 3) (k_var 3)) (k_bin op_mul v2_mul (k_src (j := 0) .turn hr.u1) k_int)) B.b_int) k_int)))
 (k_bcons (k_srcPut (j := 0) .mixed hr.u1 (k_var 3))
 (k_bcons (k_ret (k_sh (k_bin op_mod v2_mod (k_callTy1 call_int1 v1_int (k_bin op_fdiv v2_fdiv (k_var 3) k_int) B.b_int) (k_var 1))))
 k_bnil))))))))
theorem ok__law_arc {f : Addr} {fd : FuncData} (F : Fun K "_law_arc" "_law_arc" st__law_arc f fd) (B : Bi mg) (h__law_pick : Has P w K mg base 1 "_law_pick" ["source", "many"] m__law_pick) : FnOk P w K mg base CX0 2 f fd ["source", "n"] (spF K m__law_arc) :=
 fn_ok (N := ["source", "n", "b", "a", "x"]) F sc__law_arc fun cdv A outer s H E hr => show PSs _ (defBody st__law_arc) (TSv _ (b__law_arc m__law_pick)) from (k_bcons (k_set (i := 2) sc__law_arc.nd (.inl rfl) (k_sh (k_bin op_addAll v2_add k_int (k_fr (k_callS (i := 0) h__law_pick (hr.mono (by decide)) (k_cons (k_bin op_sub v2_sub (k_var 1) k_int) k_nil))))))
 (k_bcons (k_setSh (k_set (i := 3) sc__law_arc.nd (.inl rfl) (k_callS (i := 0) h__law_pick (hr.mono (by decide)) (k_cons (k_var 2) k_nil))))
 (k_bcons (k_ret (k_sh (k_tup (k_cons (k_var 3) (k_cons (k_var 2) (k_cons (k_callTy1 call_tupF v1_tuple (k_fr (k_lc (own := [("x", 4)]) rfl sc__law_arc.nd (show blkC ["source", "n", "b", "a", "x"] (defScope st__law_arc) _ [("x", 4)] = true from by decide +kernel) (k_irg2 (k_bin op_addAll v2_add (k_var 3) k_int) (k_var 2) B.b_range) (fun _ _ _ _ _ => (k_gc (i := 4) sc__law_arc.nd (.inl rfl) (by decide))) (fun _ _ _ _ _ => (k_tsone (k_tcmp (op_eqD hr.u64) v2_eq (k_fr (k_callS (i := 0) h__law_pick (hr.mono (by decide)) (k_cons k_int k_nil))) k_int))) (fun _ _ _ _ _ => (k_var 4)))) B.b_tuple) k_nil))))))
 k_bnil)))
theorem ok__law_right {f : Addr} {fd : FuncData} (F : Fun K "_law_right" "_law_right" st__law_right f fd) (B : Bi mg) : FnOk P w K mg base CX0 1 f fd ["arc"] (spF K m__law_right) :=
 fn_ok (N := ["arc", "x"]) F sc__law_right fun cdv A outer s H E hr => show PSs _ (defBody st__law_right) (TSv _ (b__law_right)) from (k_bcons (k_ret (k_sh (k_callTy1 call_tupF v1_tuple (k_fr (k_lc (own := [("x", 1)]) rfl sc__law_right.nd (show blkC ["arc", "x"] (defScope st__law_right) _ [("x", 1)] = true from by decide +kernel) (k_irg2 (k_bin op_addAll v2_add (k_ix (ix_all hr.u64) v2_ix2 (k_var 0) k_int) k_int) (k_ix (ix_all hr.u64) v2_ix2 (k_var 0) k_int) B.b_range) (fun _ _ _ _ _ => (k_gc (i := 1) sc__law_right.nd (.inl rfl) (by decide))) (fun _ _ _ _ _ => (k_tsone (k_tcmp (op_notIn2 hr.u65) v2_notIn2 (k_var 1) (k_ix (ix_all hr.u64) v2_ix2 (k_var 0) k_int)))) (fun _ _ _ _ _ => (k_var 1)))) B.b_tuple)))
 k_bnil)
theorem ok__law_pairs {f : Addr} {fd : FuncData} (F : Fun K "_law_pairs" "_law_pairs" st__law_pairs f fd) (B : Bi mg) : FnOk P w K mg base CX0 1 f fd ["row"] (spF K m__law_pairs) :=
 fn_ok (N := ["row", "found", "k", "x", "y"]) F sc__law_pairs fun cdv A outer s H E hr => show PSs _ (defBody st__law_pairs) (TSv _ (b__law_pairs)) from (k_bcons (k_set (i := 1) sc__law_pairs.nd (.inl rfl) k_d0)
 (k_bcons (k_for PassesOwn.never rfl (k_ien (k_var 0) B.b_enumerate) (k_gtp rfl (k_gcons (k_gnm (i := 2) sc__law_pairs.nd (.inl rfl)) (k_gcons (k_gnm (i := 3) sc__law_pairs.nd (.inr rfl)) k_gnil))) (k_bcons (k_expr (k_dm1 (j := 1) PySem.F.slot_dict_update PySem.F.type_dict_update (mt_upd hr.u64) l1_upd (k_fr (k_dictL rfl hr.u64 (k_fr (k_lc (own := [("y", 4)]) rfl sc__law_pairs.nd (show blkC ["row", "found", "k", "x", "y"] (defScope st__law_pairs) _ [("y", 4)] = true from by decide +kernel) (k_iseq (k_sl sl_all v3_sl (k_var 0) (k_psome (k_bin op_addAll v2_add (k_var 2) k_int)) k_pnone)) (fun _ _ _ _ _ => (k_gc (i := 4) sc__law_pairs.nd (.inl rfl) (by decide))) (fun _ _ _ _ _ => (k_tsone (k_tcmp op_lt v2_lt (k_var 4) (k_var 3)))) (fun _ _ _ _ _ => (k_tup (k_cons (k_tup (k_cons (k_var 4) (k_cons (k_var 3) k_nil))) (k_cons k_int k_nil)))))) B.b_dict))))
 k_bnil))
 (k_bcons (k_ret (k_mv 1))
 k_bnil)))
theorem ok__law_under {f : Addr} {fd : FuncData} (F : Fun K "_law_under" "_law_under" st__law_under f fd) (B : Bi mg) (h__law_pairs : Has P w K mg base 1 "_law_pairs" ["row"] m__law_pairs) : FnOk P w K mg base CX0 2 f fd ["one", "other"] (spF K m__law_under) :=
 fn_ok (N := ["one", "other", "late", "pair"]) F sc__law_under fun cdv A outer s H E hr => show PSs _ (defBody st__law_under) (TSv _ (b__law_under m__law_pairs)) from (k_bcons (k_setSh (k_set (i := 2) sc__law_under.nd (.inr rfl) (k_call h__law_pairs (hr.mono (by decide)) (k_cons (k_var 1) k_nil))))
 (k_bcons (k_ret (k_sh (k_cmp (op_eqD hr.u64) v2_eq (k_fr (k_lc (own := [("pair", 3)]) rfl sc__law_under.nd (show blkC ["one", "other", "late", "pair"] (defScope st__law_under) _ [("pair", 3)] = true from by decide +kernel) (k_idk (k_call h__law_pairs (hr.mono (by decide)) (k_cons (k_var 0) k_nil))) (fun _ _ _ _ _ => (k_gc (i := 3) sc__law_under.nd (.inl rfl) (by decide))) (fun _ _ _ _ _ => (k_tsone (k_tcmp (op_notIn2 hr.u65) v2_notIn2 (k_var 3) (k_var 2)))) (fun _ _ _ _ _ => (k_var 3)))) (k_fr (k_lst k_nil)))))
 k_bnil))
theorem ok__law_stretch {f : Addr} {fd : FuncData} (F : Fun K "_law_stretch" "_law_stretch" st__law_stretch f fd) (B : Bi mg) (h__law_right : Has P w K mg base 1 "_law_right" ["arc"] m__law_right) : FnOk P w K mg base CX0 2 f fd ["one", "other"] (spF K m__law_stretch) :=
 fn_ok (N := ["one", "other", "a", "b", "left", "x"]) F sc__law_stretch fun cdv A outer s H E hr => show PSs _ (defBody st__law_stretch) (TSv _ (b__law_stretch m__law_right)) from (k_bcons (k_asg (k_var 0) (k_gtp rfl (k_gcons (k_gnm (i := 2) sc__law_stretch.nd (.inr rfl)) (k_gcons (k_gnm (i := 3) sc__law_stretch.nd (.inr rfl)) (k_gcons (k_gnm (i := 4) sc__law_stretch.nd (.inl rfl)) k_gnil)))))
 (k_bcons (k_sif (PW.pt (k_wor (PW.pt (k_wan (k_tcmp (op_neD hr.u64) v2_ne (k_var 2) (k_ix (ix_all hr.u64) v2_ix2 (k_var 1) k_int)) (k_wan1 (k_tcmp (op_notIn2 hr.u65) v2_notIn2 (k_var 2) (k_fr (k_call h__law_right (hr.mono (by decide)) (k_cons (k_var 1) k_nil))))))) (k_wor1 (PW.pt (k_wan (k_tcmp (op_neD hr.u64) v2_ne (k_var 3) (k_ix (ix_all hr.u64) v2_ix2 (k_var 1) k_int)) (k_wan1 (k_tcmp (op_notIn2 hr.u65) v2_notIn2 (k_var 3) (k_ix (ix_all hr.u64) v2_ix2 (k_var 1) k_int)))))))) (k_bcons (k_ret (k_sh k_bl))
 k_bnil) k_bnil)
 (k_bcons (k_ret (k_sh (k_cmp (op_eqD hr.u64) v2_eq (k_var 4) (k_callTy1 call_tupF v1_tuple (k_fr (k_lc (own := [("x", 5)]) rfl sc__law_stretch.nd (show blkC ["one", "other", "a", "b", "left", "x"] (defScope st__law_stretch) _ [("x", 5)] = true from by decide +kernel) (k_iseq (k_ix (ix_all hr.u64) v2_ix2 (k_var 1) k_int)) (fun _ _ _ _ _ => (k_gc (i := 5) sc__law_stretch.nd (.inl rfl) (by decide))) (fun _ _ _ _ _ => (k_tsone (k_tchain op_lt v2_lt op_lt v2_lt (k_var 2) (k_var 5) (k_var 3)))) (fun _ _ _ _ _ => (k_var 5)))) B.b_tuple))))
 k_bnil)))
theorem ok__law_along {f : Addr} {fd : FuncData} (F : Fun K "_law_along" "_law_along" st__law_along f fd) (B : Bi mg) : FnOk P w K mg base CX0 1 f fd ["one", "other"] (spF K m__law_along) :=
 fn_ok (N := ["one", "other", "a", "b", "left", "x"]) F sc__law_along fun cdv A outer s H E hr => show PSs _ (defBody st__law_along) (TSv _ (b__law_along)) from (k_bcons (k_asg (k_var 1) (k_gtp rfl (k_gcons (k_gnm (i := 2) sc__law_along.nd (.inr rfl)) (k_gcons (k_gnm (i := 3) sc__law_along.nd (.inr rfl)) (k_gcons (k_gnm (i := 4) sc__law_along.nd (.inl rfl)) k_gnil)))))
 (k_bcons (k_ret (k_sh (k_an (k_cmp op_le v2_le (k_ix (ix_all hr.u64) v2_ix2 (k_var 0) k_int) (k_var 2)) (k_an (k_cmp op_le v2_le (k_var 3) (k_ix (ix_all hr.u64) v2_ix2 (k_var 0) k_int)) (k_one (k_cmp (op_eqD hr.u64) v2_eq (k_var 4) (k_callTy1 call_tupF v1_tuple (k_fr (k_lc (own := [("x", 5)]) rfl sc__law_along.nd (show blkC ["one", "other", "a", "b", "left", "x"] (defScope st__law_along) _ [("x", 5)] = true from by decide +kernel) (k_iseq (k_ix (ix_all hr.u64) v2_ix2 (k_var 0) k_int)) (fun _ _ _ _ _ => (k_gc (i := 5) sc__law_along.nd (.inl rfl) (by decide))) (fun _ _ _ _ _ => (k_tsone (k_tchain op_lt v2_lt op_lt v2_lt (k_var 2) (k_var 5) (k_var 3)))) (fun _ _ _ _ _ => (k_var 5)))) B.b_tuple)))))))
 k_bnil))
theorem ok__law_near {f : Addr} {fd : FuncData} (F : Fun K "_law_near" "_law_near" st__law_near f fd) (B : Bi mg) (h__law_pick : Has P w K mg base 1 "_law_pick" ["source", "many"] m__law_pick) : FnOk P w K mg base CX0 2 f fd ["source", "arc"] (spF K m__law_near) :=
 fn_ok (N := ["source", "arc", "a", "b", "left", "c", "d", "late", "x"]) F sc__law_near fun cdv A outer s H E hr => show PSs _ (defBody st__law_near) (TSv _ (b__law_near m__law_pick)) from (k_bcons (k_asg (k_var 1) (k_gtp rfl (k_gcons (k_gnm (i := 2) sc__law_near.nd (.inl rfl)) (k_gcons (k_gnm (i := 3) sc__law_near.nd (.inl rfl)) (k_gcons (k_gnm (i := 4) sc__law_near.nd (.inr rfl)) k_gnil)))))
 (k_bcons (k_par (i := 5) (j := 6) rfl sc__law_near.nd (k_sh (k_bin op_addAll v2_add (k_var 2) (k_fr (k_callS (i := 0) h__law_pick (hr.mono (by decide)) (k_cons (k_bin op_sub v2_sub (k_var 3) (k_var 2)) k_nil))))) (k_sh (k_bin op_sub v2_sub (k_var 3) (k_fr (k_callS (i := 0) h__law_pick (hr.mono (by decide)) (k_cons (k_bin op_sub v2_sub (k_var 3) (k_var 2)) k_nil))))) rfl rfl (by rfl))
 (k_bcons (k_asg (k_if (k_tcmp op_lt v2_lt (k_var 5) (k_var 6)) (k_tup (k_cons (k_var 5) (k_cons (k_var 6) k_nil))) (k_tup (k_cons (k_var 2) (k_cons (k_var 3) k_nil)))) (k_gtp rfl (k_gcons (k_gnm (i := 5) sc__law_near.nd (.inl rfl)) (k_gcons (k_gnm (i := 6) sc__law_near.nd (.inl rfl)) k_gnil))))
 (k_bcons (k_set (i := 7) sc__law_near.nd (.inl rfl) (k_sh (k_callTy1 call_tupF v1_tuple (k_fr (k_lc (own := [("x", 8)]) rfl sc__law_near.nd (show blkC ["source", "arc", "a", "b", "left", "c", "d", "late", "x"] (defScope st__law_near) _ [("x", 8)] = true from by decide +kernel) (k_irg2 (k_bin op_addAll v2_add (k_var 5) k_int) (k_var 6) B.b_range) (fun _ _ _ _ _ => (k_gc (i := 8) sc__law_near.nd (.inl rfl) (by decide))) (fun _ _ _ _ _ => (k_tsone (k_tcmp (op_eqD hr.u64) v2_eq (k_cmp (op_in2 hr.u65) v2_in2 (k_var 8) (k_var 4)) (k_cmp op_gt v2_gt (k_fr (k_callS (i := 0) h__law_pick (hr.mono (by decide)) (k_cons k_int k_nil))) k_int)))) (fun _ _ _ _ _ => (k_var 8)))) B.b_tuple)))
 (k_bcons (k_ret (k_sh (k_tup (k_cons (k_var 5) (k_cons (k_var 6) (k_cons (k_var 7) k_nil))))))
 k_bnil)))))
theorem ok_law {f : Addr} {fd : FuncData} (F : Fun K "law" "law" st_law f fd) (B : Bi mg) (h__law_source : Has P w K mg base 1 "_law_source" ["script"] m__law_source) (h__law_pick : Has P w K mg base 1 "_law_pick" ["source", "many"] m__law_pick) (h_all_arcs : Has P w K mg base 2 "all_arcs" ["n"] m_all_arcs) (h_low_row : Has P w K mg base 2 "low_row" ["n", "arc"] m_low_row) (h_one_drop_rows : Has P w K mg base 3 "one_drop_rows" ["n"] m_one_drop_rows) (h_has_one_drop : Has P w K mg base 2 "has_one_drop" ["row"] m_has_one_drop) (h_arc_of_row : Has P w K mg base 3 "arc_of_row" ["row"] m_arc_of_row) (h__law_arc : Has P w K mg base 2 "_law_arc" ["source", "n"] m__law_arc) (h__law_near : Has P w K mg base 2 "_law_near" ["source", "arc"] m__law_near) (h__law_stretch : Has P w K mg base 2 "_law_stretch" ["one", "other"] m__law_stretch) (h__law_under : Has P w K mg base 2 "_law_under" ["one", "other"] m__law_under) (h_is_under : Has P w K mg base 2 "is_under" ["one", "other"] m_is_under) (h_is_stretch : Has P w K mg base 2 "is_stretch" ["one", "other"] m_is_stretch) (h__law_along : Has P w K mg base 1 "_law_along" ["one", "other"] m__law_along) (h_runs_along : Has P w K mg base 1 "runs_along" ["one", "other"] m_runs_along) (h_sides_exchanged : Has P w K mg base 2 "sides_exchanged" ["arc"] m_sides_exchanged) (h_mirrored : Has P w K mg base 1 "mirrored" ["row"] m_mirrored) (h_high_row : Has P w K mg base 3 "high_row" ["n", "arc"] m_high_row) (h__law_right : Has P w K mg base 1 "_law_right" ["arc"] m__law_right) : FnG P w K mg base 4 f fd ["script"] (spF K m_law) :=
 fn_okG (N := ["script", "source", "n", "rows", "lap", "one", "other", "first", "second", "due", "low", "late", "told", "does_run", "arc", "row"]) F sc_law fun cdv A outer s H E hr hgu => show PSs _ (defBody st_law) (TSv _ (b_law m__law_source m__law_pick m_all_arcs m_low_row m_one_drop_rows m_has_one_drop m_arc_of_row m__law_arc m__law_near m__law_stretch m__law_under m_is_under m_is_stretch m__law_along m_runs_along m_sides_exchanged m_mirrored m_high_row m__law_right)) from (k_bcons (k_set (i := 1) sc_law.nd (.inl rfl) (k_call h__law_source (hr.mono (by decide)) (k_cons (k_var 0) k_nil)))
 (k_bcons (k_set (i := 2) sc_law.nd (.inr rfl) (k_sh (k_bin op_addAll v2_add k_int (k_fr (k_callS (i := 1) h__law_pick (hr.mono (by decide)) (k_cons k_int k_nil))))))
 (k_bcons (k_setSh (k_setLc (i := 3) (own := [("arc", 14)]) rfl sc_law.nd rfl (sw_true rfl rfl rfl (by decide +kernel)) (show blkC ["script", "source", "n", "rows", "lap", "one", "other", "first", "second", "due", "low", "late", "told", "does_run", "arc", "row"] (defScope st_law) _ [("arc", 14)] = true from by decide +kernel) (k_iseq (k_fr (k_call h_all_arcs (hr.mono (by decide)) (k_cons (k_var 2) k_nil)))) (fun _ _ _ _ _ => (k_gc (i := 14) sc_law.nd (.inl rfl) (by decide))) (fun _ _ _ _ _ => k_tsnil) (fun _ _ _ _ _ => (k_fr (k_call h_low_row (hr.mono (by decide)) (k_cons (k_var 2) (k_cons (k_var 14) k_nil)))))))
 (k_bcons (k_sif (PW.pt (k_wor (k_tcmp (op_neD hr.u64) v2_ne (k_fr (k_callBO1 (cr_sort3 hr.u64) w1_sort3 (k_var 3) B.b_sorted)) (k_fr (k_call h_one_drop_rows (hr.mono (by decide)) (k_cons (k_var 2) k_nil)))) (k_wor1 (k_tcmp (op_neD hr.u64) v2_ne (k_fr (k_lc (own := [("row", 15)]) rfl sc_law.nd (show blkC ["script", "source", "n", "rows", "lap", "one", "other", "first", "second", "due", "low", "late", "told", "does_run", "arc", "row"] (defScope st_law) _ [("row", 15)] = true from by decide +kernel) (k_iseq (k_var 3)) (fun _ _ _ _ _ => (k_gc (i := 15) sc_law.nd (.inl rfl) (by decide))) (fun _ _ _ _ _ => (k_tsone (k_tno (k_ttr (k_fr (k_call h_has_one_drop (hr.mono (by decide)) (k_cons (k_var 15) k_nil))))))) (fun _ _ _ _ _ => (k_var 15)))) (k_fr (k_lst k_nil)))))) (k_bcons (k_ret (k_sh k_bl))
 k_bnil) k_bnil)
 (k_bcons (k_sif (k_tcmp (op_neD hr.u64) v2_ne (k_fr (k_lc (own := [("row", 15)]) rfl sc_law.nd (show blkC ["script", "source", "n", "rows", "lap", "one", "other", "first", "second", "due", "low", "late", "told", "does_run", "arc", "row"] (defScope st_law) _ [("row", 15)] = true from by decide +kernel) (k_iseq (k_var 3)) (fun _ _ _ _ _ => (k_gc (i := 15) sc_law.nd (.inl rfl) (by decide))) (fun _ _ _ _ _ => k_tsnil) (fun _ _ _ _ _ => (k_fr (k_call h_arc_of_row (hr.mono (by decide)) (k_cons (k_var 15) k_nil)))))) (k_fr (k_call h_all_arcs (hr.mono (by decide)) (k_cons (k_var 2) k_nil)))) (k_bcons (k_ret (k_sh k_bl))
 k_bnil) k_bnil)
 (k_bcons (k_for PassesOwn.never rfl (k_irg1 k_int B.b_range) (k_gnm (i := 4) sc_law.nd (.inl rfl)) (k_bcons (k_set (i := 2) sc_law.nd (.inr rfl) (k_sh (k_bin op_addAll v2_add k_int (k_fr (k_callS (i := 1) h__law_pick (hr.mono (by decide)) (k_cons (k_ix (ix_all hr.u64) v2_ix2 (k_fr (k_lst (k_cons k_int (k_cons k_int (k_cons k_int k_nil))))) (k_bin op_sub v2_sub (k_var 4) (k_bin op_mul v2_mul (k_bin op_fdiv v2_fdiv (k_var 4) k_int) k_int))) k_nil))))))
 (k_bcons (k_setSh (k_set (i := 5) sc_law.nd (.inl rfl) (k_callS (i := 1) h__law_arc (hr.mono (by decide)) (k_cons (k_var 2) k_nil))))
 (k_bcons (k_set (i := 6) sc_law.nd (.inl rfl) (k_sh (k_if (k_tcmp op_gt v2_gt (k_fr (k_callS (i := 1) h__law_pick (hr.mono (by decide)) (k_cons k_int k_nil))) k_int) (k_fr (k_callS (i := 1) h__law_near (hr.mono (by decide)) (k_cons (k_var 5) k_nil))) (k_fr (k_callS (i := 1) h__law_arc (hr.mono (by decide)) (k_cons (k_var 2) k_nil))))))
 (k_bcons (k_for PassesOwn.never rfl (k_iseq (k_tup (k_cons (k_tup (k_cons (k_var 5) (k_cons (k_var 6) k_nil))) (k_cons (k_tup (k_cons (k_var 6) (k_cons (k_var 5) k_nil))) (k_cons (k_tup (k_cons (k_var 5) (k_cons (k_var 5) k_nil))) k_nil))))) (k_gtp rfl (k_gcons (k_gnm (i := 7) sc_law.nd (.inl rfl)) (k_gcons (k_gnm (i := 8) sc_law.nd (.inl rfl)) k_gnil))) (k_bcons (k_setSh (k_set (i := 9) sc_law.nd (.inl rfl) (k_call h__law_stretch (hr.mono (by decide)) (k_cons (k_var 7) (k_cons (k_var 8) k_nil)))))
 (k_bcons (k_par (i := 10) (j := 11) rfl sc_law.nd (k_sh (k_fr (k_call h_low_row (hr.mono (by decide)) (k_cons (k_var 2) (k_cons (k_var 7) k_nil))))) (k_sh (k_fr (k_call h_low_row (hr.mono (by decide)) (k_cons (k_var 2) (k_cons (k_var 8) k_nil))))) rfl rfl (by rfl))
 (k_bcons (k_setSh (k_set (i := 12) sc_law.nd (.inl rfl) (k_lst (k_cons (k_fr (k_call h_is_stretch (hr.mono (by decide)) (k_cons (k_var 7) (k_cons (k_var 8) k_nil)))) (k_cons (k_fr (k_call h_is_under (hr.mono (by decide)) (k_cons (k_var 10) (k_cons (k_var 11) k_nil)))) (k_cons (k_fr (k_call h__law_under (hr.mono (by decide)) (k_cons (k_var 10) (k_cons (k_var 11) k_nil)))) k_nil))))))
 (k_bcons (k_sif (k_tcmp op_ne v2_neS (k_callB1 (call_repr hgu hr.u64) v1_repr (k_var 12) B.b_repr) (k_callB1 (call_repr hgu hr.u64) v1_repr (k_fr (k_lst (k_cons (k_var 9) (k_cons (k_var 9) (k_cons (k_var 9) k_nil))))) B.b_repr)) (k_bcons (k_ret (k_sh k_bl))
 k_bnil) k_bnil)
 (k_bcons (k_setSh (k_set (i := 13) sc_law.nd (.inl rfl) (k_call h__law_along (hr.mono (by decide)) (k_cons (k_var 8) (k_cons (k_var 7) k_nil)))))
 (k_bcons (k_sif (PW.pt (k_wor (k_tcmp op_ne v2_neS (k_callB1 (call_repr hgu hr.u64) v1_repr (k_fr (k_call h_runs_along (hr.mono (by decide)) (k_cons (k_var 8) (k_cons (k_var 7) k_nil)))) B.b_repr) (k_callB1 (call_repr hgu hr.u64) v1_repr (k_var 13) B.b_repr)) (k_wor1 (PW.pt (k_wan (k_ttr (k_var 9)) (k_wan1 (k_tno (k_ttr (k_var 13))))))))) (k_bcons (k_ret (k_sh k_bl))
 k_bnil) k_bnil)
 k_bnil)))))))
 (k_bcons (k_for PassesOwn.never rfl (k_iseq (k_tup (k_cons (k_var 5) (k_cons (k_var 6) k_nil)))) (k_gnm (i := 14) sc_law.nd (.inl rfl)) (k_bcons (k_setSh (k_set (i := 11) sc_law.nd (.inl rfl) (k_call h_sides_exchanged (hr.mono (by decide)) (k_cons (k_var 14) k_nil))))
 (k_bcons (k_sif (PW.pt (k_wor (k_tcmp (op_neD hr.u64) v2_ne (k_fr (k_call h_mirrored (hr.mono (by decide)) (k_cons (k_fr (k_call h_high_row (hr.mono (by decide)) (k_cons (k_var 2) (k_cons (k_var 14) k_nil)))) k_nil))) (k_fr (k_call h_low_row (hr.mono (by decide)) (k_cons (k_var 2) (k_cons (k_var 11) k_nil))))) (k_wor1 (k_tcmp (op_neD hr.u64) v2_ne (k_fr (k_call h_sides_exchanged (hr.mono (by decide)) (k_cons (k_var 11) k_nil))) (k_var 14))))) (k_bcons (k_ret (k_sh k_bl))
 k_bnil) k_bnil)
 (k_bcons (k_sif (k_tcmp op_ne v2_neS (k_callB1 (call_repr hgu hr.u64) v1_repr (k_var 11) B.b_repr) (k_callB1 (call_repr hgu hr.u64) v1_repr (k_tup (k_cons (k_ix (ix_all hr.u64) v2_ix2 (k_var 14) k_int) (k_cons (k_ix (ix_all hr.u64) v2_ix2 (k_var 14) k_int) (k_cons (k_fr (k_call h__law_right (hr.mono (by decide)) (k_cons (k_var 14) k_nil))) k_nil)))) B.b_repr)) (k_bcons (k_ret (k_sh k_bl))
 k_bnil) k_bnil)
 k_bnil))))
 k_bnil))))))
 (k_bcons (k_ret (k_call h_is_stretch (hr.mono (by decide)) (k_cons (k_tup (k_cons k_int (k_cons k_int (k_cons (k_tup k_nil) k_nil)))) (k_cons (k_tup (k_cons k_int (k_cons k_int (k_cons (k_tup k_nil) k_nil)))) k_nil))))
 k_bnil)))))))
end
theorem all_mk {P : Program} {w : World} {K : Frag} {h : Heap} {mg : Str → Option Value} {fa : Addr} (X : K.In h) (G : h.Ns mainGlobals mg) (hfa : mg "law" = some (.ref fa))
    {od0 an0 : Option Addr} {sl0 : Array (Option Value)} {f0 : Addr} {oc0 kV0 dc0 pm0 cd0 ct0 : Value}
    {od1 an1 : Option Addr} {sl1 : Array (Option Value)} {f1 : Addr} {oc1 kV1 dc1 pm1 cd1 ct1 : Value}
    {od2 an2 : Option Addr} {sl2 : Array (Option Value)} {f2 : Addr} {oc2 kV2 dc2 pm2 cd2 ct2 : Value}
    {od3 an3 : Option Addr} {sl3 : Array (Option Value)} {f3 : Addr} {oc3 kV3 dc3 pm3 cd3 ct3 : Value}
    {od4 an4 : Option Addr} {sl4 : Array (Option Value)} {f4 : Addr} {oc4 kV4 dc4 pm4 cd4 ct4 : Value}
    {od5 an5 : Option Addr} {sl5 : Array (Option Value)} {f5 : Addr} {oc5 kV5 dc5 pm5 cd5 ct5 : Value}
    {od6 an6 : Option Addr} {sl6 : Array (Option Value)} {f6 : Addr} {oc6 kV6 dc6 pm6 cd6 ct6 : Value}
    {od7 an7 : Option Addr} {sl7 : Array (Option Value)} {f7 : Addr} {oc7 kV7 dc7 pm7 cd7 ct7 : Value}
    {od8 an8 : Option Addr} {sl8 : Array (Option Value)} {f8 : Addr} {oc8 kV8 dc8 pm8 cd8 ct8 : Value}
    {od9 an9 : Option Addr} {sl9 : Array (Option Value)} {f9 : Addr} {oc9 kV9 dc9 pm9 cd9 ct9 : Value}
    {od10 an10 : Option Addr} {sl10 : Array (Option Value)} {f10 : Addr} {oc10 kV10 dc10 pm10 cd10 ct10 : Value}
    {od11 an11 : Option Addr} {sl11 : Array (Option Value)} {f11 : Addr} {oc11 kV11 dc11 pm11 cd11 ct11 : Value}
    {od12 an12 : Option Addr} {sl12 : Array (Option Value)} {f12 : Addr} {oc12 kV12 dc12 pm12 cd12 ct12 : Value}
    {od13 an13 : Option Addr} {sl13 : Array (Option Value)} {f13 : Addr} {oc13 kV13 dc13 pm13 cd13 ct13 : Value}
    {od14 an14 : Option Addr} {sl14 : Array (Option Value)} {f14 : Addr} {oc14 kV14 dc14 pm14 cd14 ct14 : Value}
    {od15 an15 : Option Addr} {sl15 : Array (Option Value)} {f15 : Addr} {oc15 kV15 dc15 pm15 cd15 ct15 : Value}
    {od16 an16 : Option Addr} {sl16 : Array (Option Value)} {f16 : Addr} {oc16 kV16 dc16 pm16 cd16 ct16 : Value}
    {od17 an17 : Option Addr} {sl17 : Array (Option Value)} {f17 : Addr} {oc17 kV17 dc17 pm17 cd17 ct17 : Value}
    {od18 an18 : Option Addr} {sl18 : Array (Option Value)} {f18 : Addr} {oc18 kV18 dc18 pm18 cd18 ct18 : Value}
    {od19 an19 : Option Addr} {sl19 : Array (Option Value)} {f19 : Addr} {oc19 kV19 dc19 pm19 cd19 ct19 : Value}
    {od20 an20 : Option Addr} {sl20 : Array (Option Value)} {f20 : Addr} {oc20 kV20 dc20 pm20 cd20 ct20 : Value}
    {od21 an21 : Option Addr} {sl21 : Array (Option Value)} {f21 : Addr} {oc21 kV21 dc21 pm21 cd21 ct21 : Value}
    {od22 an22 : Option Addr} {sl22 : Array (Option Value)} {f22 : Addr} {oc22 kV22 dc22 pm22 cd22 ct22 : Value}
    {od23 an23 : Option Addr} {sl23 : Array (Option Value)} {f23 : Addr} {oc23 kV23 dc23 pm23 cd23 ct23 : Value}
    {od24 an24 : Option Addr} {sl24 : Array (Option Value)} {f24 : Addr} {oc24 kV24 dc24 pm24 cd24 ct24 : Value}
    {od25 an25 : Option Addr} {sl25 : Array (Option Value)} {f25 : Addr} {oc25 kV25 dc25 pm25 cd25 ct25 : Value}
    {od26 an26 : Option Addr} {sl26 : Array (Option Value)} {f26 : Addr} {oc26 kV26 dc26 pm26 cd26 ct26 : Value}
    (a0 : PySem.W.nsIn K mainGlobals "out_of_order" = some (some (.ref f0))) (l0 : K.lookup f0 = some ⟨oc0, od0, .func (PySem.W.fnOf "out_of_order" "out_of_order" (defArgs st_out_of_order) (defBody st_out_of_order) (defScope st_out_of_order) .none kV0 dc0 pm0 an0 cd0 ct0), sl0⟩) (c0 : PySem.W.codeIn K cd0 "out_of_order" = true) (k0 : PySem.W.keepIn K (.ref f0) = true)
    (a1 : PySem.W.nsIn K mainGlobals "drops" = some (some (.ref f1))) (l1 : K.lookup f1 = some ⟨oc1, od1, .func (PySem.W.fnOf "drops" "drops" (defArgs st_drops) (defBody st_drops) (defScope st_drops) .none kV1 dc1 pm1 an1 cd1 ct1), sl1⟩) (c1 : PySem.W.codeIn K cd1 "drops" = true) (k1 : PySem.W.keepIn K (.ref f1) = true)
    (a2 : PySem.W.nsIn K mainGlobals "mirrored" = some (some (.ref f2))) (l2 : K.lookup f2 = some ⟨oc2, od2, .func (PySem.W.fnOf "mirrored" "mirrored" (defArgs st_mirrored) (defBody st_mirrored) (defScope st_mirrored) .none kV2 dc2 pm2 an2 cd2 ct2), sl2⟩) (c2 : PySem.W.codeIn K cd2 "mirrored" = true) (k2 : PySem.W.keepIn K (.ref f2) = true)
    (a3 : PySem.W.nsIn K mainGlobals "is_under" = some (some (.ref f3))) (l3 : K.lookup f3 = some ⟨oc3, od3, .func (PySem.W.fnOf "is_under" "is_under" (defArgs st_is_under) (defBody st_is_under) (defScope st_is_under) .none kV3 dc3 pm3 an3 cd3 ct3), sl3⟩) (c3 : PySem.W.codeIn K cd3 "is_under" = true) (k3 : PySem.W.keepIn K (.ref f3) = true)
    (a4 : PySem.W.nsIn K mainGlobals "lots_between" = some (some (.ref f4))) (l4 : K.lookup f4 = some ⟨oc4, od4, .func (PySem.W.fnOf "lots_between" "lots_between" (defArgs st_lots_between) (defBody st_lots_between) (defScope st_lots_between) .none kV4 dc4 pm4 an4 cd4 ct4), sl4⟩) (c4 : PySem.W.codeIn K cd4 "lots_between" = true) (k4 : PySem.W.keepIn K (.ref f4) = true)
    (a5 : PySem.W.nsIn K mainGlobals "all_arcs" = some (some (.ref f5))) (l5 : K.lookup f5 = some ⟨oc5, od5, .func (PySem.W.fnOf "all_arcs" "all_arcs" (defArgs st_all_arcs) (defBody st_all_arcs) (defScope st_all_arcs) .none kV5 dc5 pm5 an5 cd5 ct5), sl5⟩) (c5 : PySem.W.codeIn K cd5 "all_arcs" = true) (k5 : PySem.W.keepIn K (.ref f5) = true)
    (a6 : PySem.W.nsIn K mainGlobals "right_of" = some (some (.ref f6))) (l6 : K.lookup f6 = some ⟨oc6, od6, .func (PySem.W.fnOf "right_of" "right_of" (defArgs st_right_of) (defBody st_right_of) (defScope st_right_of) .none kV6 dc6 pm6 an6 cd6 ct6), sl6⟩) (c6 : PySem.W.codeIn K cd6 "right_of" = true) (k6 : PySem.W.keepIn K (.ref f6) = true)
    (a7 : PySem.W.nsIn K mainGlobals "low_row" = some (some (.ref f7))) (l7 : K.lookup f7 = some ⟨oc7, od7, .func (PySem.W.fnOf "low_row" "low_row" (defArgs st_low_row) (defBody st_low_row) (defScope st_low_row) .none kV7 dc7 pm7 an7 cd7 ct7), sl7⟩) (c7 : PySem.W.codeIn K cd7 "low_row" = true) (k7 : PySem.W.keepIn K (.ref f7) = true)
    (a8 : PySem.W.nsIn K mainGlobals "sides_exchanged" = some (some (.ref f8))) (l8 : K.lookup f8 = some ⟨oc8, od8, .func (PySem.W.fnOf "sides_exchanged" "sides_exchanged" (defArgs st_sides_exchanged) (defBody st_sides_exchanged) (defScope st_sides_exchanged) .none kV8 dc8 pm8 an8 cd8 ct8), sl8⟩) (c8 : PySem.W.codeIn K cd8 "sides_exchanged" = true) (k8 : PySem.W.keepIn K (.ref f8) = true)
    (a9 : PySem.W.nsIn K mainGlobals "high_row" = some (some (.ref f9))) (l9 : K.lookup f9 = some ⟨oc9, od9, .func (PySem.W.fnOf "high_row" "high_row" (defArgs st_high_row) (defBody st_high_row) (defScope st_high_row) .none kV9 dc9 pm9 an9 cd9 ct9), sl9⟩) (c9 : PySem.W.codeIn K cd9 "high_row" = true) (k9 : PySem.W.keepIn K (.ref f9) = true)
    (a10 : PySem.W.nsIn K mainGlobals "arc_at_step" = some (some (.ref f10))) (l10 : K.lookup f10 = some ⟨oc10, od10, .func (PySem.W.fnOf "arc_at_step" "arc_at_step" (defArgs st_arc_at_step) (defBody st_arc_at_step) (defScope st_arc_at_step) .none kV10 dc10 pm10 an10 cd10 ct10), sl10⟩) (c10 : PySem.W.codeIn K cd10 "arc_at_step" = true) (k10 : PySem.W.keepIn K (.ref f10) = true)
    (a11 : PySem.W.nsIn K mainGlobals "arcs_of" = some (some (.ref f11))) (l11 : K.lookup f11 = some ⟨oc11, od11, .func (PySem.W.fnOf "arcs_of" "arcs_of" (defArgs st_arcs_of) (defBody st_arcs_of) (defScope st_arcs_of) .none kV11 dc11 pm11 an11 cd11 ct11), sl11⟩) (c11 : PySem.W.codeIn K cd11 "arcs_of" = true) (k11 : PySem.W.keepIn K (.ref f11) = true)
    (a12 : PySem.W.nsIn K mainGlobals "arc_of_row" = some (some (.ref f12))) (l12 : K.lookup f12 = some ⟨oc12, od12, .func (PySem.W.fnOf "arc_of_row" "arc_of_row" (defArgs st_arc_of_row) (defBody st_arc_of_row) (defScope st_arc_of_row) .none kV12 dc12 pm12 an12 cd12 ct12), sl12⟩) (c12 : PySem.W.codeIn K cd12 "arc_of_row" = true) (k12 : PySem.W.keepIn K (.ref f12) = true)
    (a13 : PySem.W.nsIn K mainGlobals "runs_along" = some (some (.ref f13))) (l13 : K.lookup f13 = some ⟨oc13, od13, .func (PySem.W.fnOf "runs_along" "runs_along" (defArgs st_runs_along) (defBody st_runs_along) (defScope st_runs_along) .none kV13 dc13 pm13 an13 cd13 ct13), sl13⟩) (c13 : PySem.W.codeIn K cd13 "runs_along" = true) (k13 : PySem.W.keepIn K (.ref f13) = true)
    (a14 : PySem.W.nsIn K mainGlobals "is_stretch" = some (some (.ref f14))) (l14 : K.lookup f14 = some ⟨oc14, od14, .func (PySem.W.fnOf "is_stretch" "is_stretch" (defArgs st_is_stretch) (defBody st_is_stretch) (defScope st_is_stretch) .none kV14 dc14 pm14 an14 cd14 ct14), sl14⟩) (c14 : PySem.W.codeIn K cd14 "is_stretch" = true) (k14 : PySem.W.keepIn K (.ref f14) = true)
    (a15 : PySem.W.nsIn K mainGlobals "has_one_drop" = some (some (.ref f15))) (l15 : K.lookup f15 = some ⟨oc15, od15, .func (PySem.W.fnOf "has_one_drop" "has_one_drop" (defArgs st_has_one_drop) (defBody st_has_one_drop) (defScope st_has_one_drop) .none kV15 dc15 pm15 an15 cd15 ct15), sl15⟩) (c15 : PySem.W.codeIn K cd15 "has_one_drop" = true) (k15 : PySem.W.keepIn K (.ref f15) = true)
    (a16 : PySem.W.nsIn K mainGlobals "one_drop_rows" = some (some (.ref f16))) (l16 : K.lookup f16 = some ⟨oc16, od16, .func (PySem.W.fnOf "one_drop_rows" "one_drop_rows" (defArgs st_one_drop_rows) (defBody st_one_drop_rows) (defScope st_one_drop_rows) .none kV16 dc16 pm16 an16 cd16 ct16), sl16⟩) (c16 : PySem.W.codeIn K cd16 "one_drop_rows" = true) (k16 : PySem.W.keepIn K (.ref f16) = true)
    (a17 : PySem.W.nsIn K mainGlobals "_law_source" = some (some (.ref f17))) (l17 : K.lookup f17 = some ⟨oc17, od17, .func (PySem.W.fnOf "_law_source" "_law_source" (defArgs st__law_source) (defBody st__law_source) (defScope st__law_source) .none kV17 dc17 pm17 an17 cd17 ct17), sl17⟩) (c17 : PySem.W.codeIn K cd17 "_law_source" = true) (k17 : PySem.W.keepIn K (.ref f17) = true)
    (a18 : PySem.W.nsIn K mainGlobals "_law_pick" = some (some (.ref f18))) (l18 : K.lookup f18 = some ⟨oc18, od18, .func (PySem.W.fnOf "_law_pick" "_law_pick" (defArgs st__law_pick) (defBody st__law_pick) (defScope st__law_pick) .none kV18 dc18 pm18 an18 cd18 ct18), sl18⟩) (c18 : PySem.W.codeIn K cd18 "_law_pick" = true) (k18 : PySem.W.keepIn K (.ref f18) = true)
    (a19 : PySem.W.nsIn K mainGlobals "_law_arc" = some (some (.ref f19))) (l19 : K.lookup f19 = some ⟨oc19, od19, .func (PySem.W.fnOf "_law_arc" "_law_arc" (defArgs st__law_arc) (defBody st__law_arc) (defScope st__law_arc) .none kV19 dc19 pm19 an19 cd19 ct19), sl19⟩) (c19 : PySem.W.codeIn K cd19 "_law_arc" = true) (k19 : PySem.W.keepIn K (.ref f19) = true)
    (a20 : PySem.W.nsIn K mainGlobals "_law_right" = some (some (.ref f20))) (l20 : K.lookup f20 = some ⟨oc20, od20, .func (PySem.W.fnOf "_law_right" "_law_right" (defArgs st__law_right) (defBody st__law_right) (defScope st__law_right) .none kV20 dc20 pm20 an20 cd20 ct20), sl20⟩) (c20 : PySem.W.codeIn K cd20 "_law_right" = true) (k20 : PySem.W.keepIn K (.ref f20) = true)
    (a21 : PySem.W.nsIn K mainGlobals "_law_pairs" = some (some (.ref f21))) (l21 : K.lookup f21 = some ⟨oc21, od21, .func (PySem.W.fnOf "_law_pairs" "_law_pairs" (defArgs st__law_pairs) (defBody st__law_pairs) (defScope st__law_pairs) .none kV21 dc21 pm21 an21 cd21 ct21), sl21⟩) (c21 : PySem.W.codeIn K cd21 "_law_pairs" = true) (k21 : PySem.W.keepIn K (.ref f21) = true)
    (a22 : PySem.W.nsIn K mainGlobals "_law_under" = some (some (.ref f22))) (l22 : K.lookup f22 = some ⟨oc22, od22, .func (PySem.W.fnOf "_law_under" "_law_under" (defArgs st__law_under) (defBody st__law_under) (defScope st__law_under) .none kV22 dc22 pm22 an22 cd22 ct22), sl22⟩) (c22 : PySem.W.codeIn K cd22 "_law_under" = true) (k22 : PySem.W.keepIn K (.ref f22) = true)
    (a23 : PySem.W.nsIn K mainGlobals "_law_stretch" = some (some (.ref f23))) (l23 : K.lookup f23 = some ⟨oc23, od23, .func (PySem.W.fnOf "_law_stretch" "_law_stretch" (defArgs st__law_stretch) (defBody st__law_stretch) (defScope st__law_stretch) .none kV23 dc23 pm23 an23 cd23 ct23), sl23⟩) (c23 : PySem.W.codeIn K cd23 "_law_stretch" = true) (k23 : PySem.W.keepIn K (.ref f23) = true)
    (a24 : PySem.W.nsIn K mainGlobals "_law_along" = some (some (.ref f24))) (l24 : K.lookup f24 = some ⟨oc24, od24, .func (PySem.W.fnOf "_law_along" "_law_along" (defArgs st__law_along) (defBody st__law_along) (defScope st__law_along) .none kV24 dc24 pm24 an24 cd24 ct24), sl24⟩) (c24 : PySem.W.codeIn K cd24 "_law_along" = true) (k24 : PySem.W.keepIn K (.ref f24) = true)
    (a25 : PySem.W.nsIn K mainGlobals "_law_near" = some (some (.ref f25))) (l25 : K.lookup f25 = some ⟨oc25, od25, .func (PySem.W.fnOf "_law_near" "_law_near" (defArgs st__law_near) (defBody st__law_near) (defScope st__law_near) .none kV25 dc25 pm25 an25 cd25 ct25), sl25⟩) (c25 : PySem.W.codeIn K cd25 "_law_near" = true) (k25 : PySem.W.keepIn K (.ref f25) = true)
    (a26 : PySem.W.nsIn K mainGlobals "law" = some (some (.ref f26))) (l26 : K.lookup f26 = some ⟨oc26, od26, .func (PySem.W.fnOf "law" "law" (defArgs st_law) (defBody st_law) (defScope st_law) .none kV26 dc26 pm26 an26 cd26 ct26), sl26⟩) (c26 : PySem.W.codeIn K cd26 "law" = true) (k26 : PySem.W.keepIn K (.ref f26) = true)
    (z_abs : PySem.W.nsIn K mainGlobals "abs" = some none) (z_all : PySem.W.nsIn K mainGlobals "all" = some none) (z_dict : PySem.W.nsIn K mainGlobals "dict" = some none) (z_enumerate : PySem.W.nsIn K mainGlobals "enumerate" = some none) (z_int : PySem.W.nsIn K mainGlobals "int" = some none) (z_len : PySem.W.nsIn K mainGlobals "len" = some none) (z_max : PySem.W.nsIn K mainGlobals "max" = some none) (z_range : PySem.W.nsIn K mainGlobals "range" = some none) (z_repr : PySem.W.nsIn K mainGlobals "repr" = some none) (z_sorted : PySem.W.nsIn K mainGlobals "sorted" = some none) (z_tuple : PySem.W.nsIn K mainGlobals "tuple" = some none) {tk_MOST_ARCS : Tok} (y_MOST_ARCS : PySem.W.nsIn K mainGlobals "MOST_ARCS" = some (some (.int 2000 tk_MOST_ARCS))) {tk_MOST_ROWS : Tok} (y_MOST_ROWS : PySem.W.nsIn K mainGlobals "MOST_ROWS" = some (some (.int 2000 tk_MOST_ROWS))) :
    ∃ fd : FuncData, (∀ (s : Shared) (v : Value), BindsTo s fd ⟨[v], []⟩ [("script", v)]) ∧ ∀ base : Heap, K.In base → base.Ns mainGlobals mg → FnG P w K mg base 4 fa fd ["script"] (spF K m_law) := by
  have e := hfa.symm.trans (PySem.W.mg_of X G a26)
  cases e
  have B : Bi mg := ⟨PySem.W.mg_none_of X G z_abs, PySem.W.mg_none_of X G z_all, PySem.W.mg_none_of X G z_dict, PySem.W.mg_none_of X G z_enumerate, PySem.W.mg_none_of X G z_int, PySem.W.mg_none_of X G z_len, PySem.W.mg_none_of X G z_max, PySem.W.mg_none_of X G z_range, PySem.W.mg_none_of X G z_repr, PySem.W.mg_none_of X G z_sorted, PySem.W.mg_none_of X G z_tuple, ⟨_, PySem.W.mg_of X G y_MOST_ARCS⟩, ⟨_, PySem.W.mg_of X G y_MOST_ROWS⟩⟩
  have F0 := fun_mk (st := st_out_of_order) l0 c0 k0
  have bb0 := F0.binds (ps := ["row"]) fun _ _ _ _ _ _ us hl => match us, hl with | [_], _ => rfl
  have h_out_of_order : ∀ base : Heap, Has P w K mg base 1 "out_of_order" ["row"] m_out_of_order := fun base => ⟨f0, _, PySem.W.mg_of X G a0, F0.kp, bb0, ok_out_of_order F0 B⟩
  have F1 := fun_mk (st := st_drops) l1 c1 k1
  have bb1 := F1.binds (ps := ["row"]) fun _ _ _ _ _ _ us hl => match us, hl with | [_], _ => rfl
  have h_drops : ∀ base : Heap, Has P w K mg base 1 "drops" ["row"] m_drops := fun base => ⟨f1, _, PySem.W.mg_of X G a1, F1.kp, bb1, ok_drops F1 B⟩
  have F2 := fun_mk (st := st_mirrored) l2 c2 k2
  have bb2 := F2.binds (ps := ["row"]) fun _ _ _ _ _ _ us hl => match us, hl with | [_], _ => rfl
  have h_mirrored : ∀ base : Heap, Has P w K mg base 1 "mirrored" ["row"] m_mirrored := fun base => ⟨f2, _, PySem.W.mg_of X G a2, F2.kp, bb2, ok_mirrored F2 B⟩
  have F3 := fun_mk (st := st_is_under) l3 c3 k3
  have bb3 := F3.binds (ps := ["one", "other"]) fun _ _ _ _ _ _ us hl => match us, hl with | [_, _], _ => rfl
  have h_is_under : ∀ base : Heap, Has P w K mg base 2 "is_under" ["one", "other"] m_is_under := fun base => ⟨f3, _, PySem.W.mg_of X G a3, F3.kp, bb3, ok_is_under F3 B (h_out_of_order base)⟩
  have F4 := fun_mk (st := st_lots_between) l4 c4 k4
  have bb4 := F4.binds (ps := ["a", "b"]) fun _ _ _ _ _ _ us hl => match us, hl with | [_, _], _ => rfl
  have h_lots_between : ∀ base : Heap, Has P w K mg base 1 "lots_between" ["a", "b"] m_lots_between := fun base => ⟨f4, _, PySem.W.mg_of X G a4, F4.kp, bb4, ok_lots_between F4 B⟩
  have F5 := fun_mk (st := st_all_arcs) l5 c5 k5
  have bb5 := F5.binds (ps := ["n"]) fun _ _ _ _ _ _ us hl => match us, hl with | [_], _ => rfl
  have h_all_arcs : ∀ base : Heap, Has P w K mg base 2 "all_arcs" ["n"] m_all_arcs := fun base => ⟨f5, _, PySem.W.mg_of X G a5, F5.kp, bb5, ok_all_arcs F5 B (h_lots_between base)⟩
  have F6 := fun_mk (st := st_right_of) l6 c6 k6
  have bb6 := F6.binds (ps := ["arc"]) fun _ _ _ _ _ _ us hl => match us, hl with | [_], _ => rfl
  have h_right_of : ∀ base : Heap, Has P w K mg base 1 "right_of" ["arc"] m_right_of := fun base => ⟨f6, _, PySem.W.mg_of X G a6, F6.kp, bb6, ok_right_of F6 B⟩
  have F7 := fun_mk (st := st_low_row) l7 c7 k7
  have bb7 := F7.binds (ps := ["n", "arc"]) fun _ _ _ _ _ _ us hl => match us, hl with | [_, _], _ => rfl
  have h_low_row : ∀ base : Heap, Has P w K mg base 2 "low_row" ["n", "arc"] m_low_row := fun base => ⟨f7, _, PySem.W.mg_of X G a7, F7.kp, bb7, ok_low_row F7 B (h_right_of base)⟩
  have F8 := fun_mk (st := st_sides_exchanged) l8 c8 k8
  have bb8 := F8.binds (ps := ["arc"]) fun _ _ _ _ _ _ us hl => match us, hl with | [_], _ => rfl
  have h_sides_exchanged : ∀ base : Heap, Has P w K mg base 2 "sides_exchanged" ["arc"] m_sides_exchanged := fun base => ⟨f8, _, PySem.W.mg_of X G a8, F8.kp, bb8, ok_sides_exchanged F8 B (h_right_of base)⟩
  have F9 := fun_mk (st := st_high_row) l9 c9 k9
  have bb9 := F9.binds (ps := ["n", "arc"]) fun _ _ _ _ _ _ us hl => match us, hl with | [_, _], _ => rfl
  have h_high_row : ∀ base : Heap, Has P w K mg base 3 "high_row" ["n", "arc"] m_high_row := fun base => ⟨f9, _, PySem.W.mg_of X G a9, F9.kp, bb9, ok_high_row F9 B (h_low_row base) (h_sides_exchanged base)⟩
  have F10 := fun_mk (st := st_arc_at_step) l10 c10 k10
  have bb10 := F10.binds (ps := ["row", "place"]) fun _ _ _ _ _ _ us hl => match us, hl with | [_, _], _ => rfl
  have h_arc_at_step : ∀ base : Heap, Has P w K mg base 1 "arc_at_step" ["row", "place"] m_arc_at_step := fun base => ⟨f10, _, PySem.W.mg_of X G a10, F10.kp, bb10, ok_arc_at_step F10 B⟩
  have F11 := fun_mk (st := st_arcs_of) l11 c11 k11
  have bb11 := F11.binds (ps := ["row"]) fun _ _ _ _ _ _ us hl => match us, hl with | [_], _ => rfl
  have h_arcs_of : ∀ base : Heap, Has P w K mg base 2 "arcs_of" ["row"] m_arcs_of := fun base => ⟨f11, _, PySem.W.mg_of X G a11, F11.kp, bb11, ok_arcs_of F11 B (h_drops base) (h_arc_at_step base)⟩
  have F12 := fun_mk (st := st_arc_of_row) l12 c12 k12
  have bb12 := F12.binds (ps := ["row"]) fun _ _ _ _ _ _ us hl => match us, hl with | [_], _ => rfl
  have h_arc_of_row : ∀ base : Heap, Has P w K mg base 3 "arc_of_row" ["row"] m_arc_of_row := fun base => ⟨f12, _, PySem.W.mg_of X G a12, F12.kp, bb12, ok_arc_of_row F12 B (h_arcs_of base)⟩
  have F13 := fun_mk (st := st_runs_along) l13 c13 k13
  have bb13 := F13.binds (ps := ["one", "other"]) fun _ _ _ _ _ _ us hl => match us, hl with | [_, _], _ => rfl
  have h_runs_along : ∀ base : Heap, Has P w K mg base 1 "runs_along" ["one", "other"] m_runs_along := fun base => ⟨f13, _, PySem.W.mg_of X G a13, F13.kp, bb13, ok_runs_along F13 B⟩
  have F14 := fun_mk (st := st_is_stretch) l14 c14 k14
  have bb14 := F14.binds (ps := ["one", "other"]) fun _ _ _ _ _ _ us hl => match us, hl with | [_, _], _ => rfl
  have h_is_stretch : ∀ base : Heap, Has P w K mg base 2 "is_stretch" ["one", "other"] m_is_stretch := fun base => ⟨f14, _, PySem.W.mg_of X G a14, F14.kp, bb14, ok_is_stretch F14 B (h_right_of base) (h_runs_along base)⟩
  have F15 := fun_mk (st := st_has_one_drop) l15 c15 k15
  have bb15 := F15.binds (ps := ["row"]) fun _ _ _ _ _ _ us hl => match us, hl with | [_], _ => rfl
  have h_has_one_drop : ∀ base : Heap, Has P w K mg base 2 "has_one_drop" ["row"] m_has_one_drop := fun base => ⟨f15, _, PySem.W.mg_of X G a15, F15.kp, bb15, ok_has_one_drop F15 B (h_drops base)⟩
  have F16 := fun_mk (st := st_one_drop_rows) l16 c16 k16
  have bb16 := F16.binds (ps := ["n"]) fun _ _ _ _ _ _ us hl => match us, hl with | [_], _ => rfl
  have h_one_drop_rows : ∀ base : Heap, Has P w K mg base 3 "one_drop_rows" ["n"] m_one_drop_rows := fun base => ⟨f16, _, PySem.W.mg_of X G a16, F16.kp, bb16, ok_one_drop_rows F16 B (h_has_one_drop base)⟩
  have F17 := fun_mk (st := st__law_source) l17 c17 k17
  have bb17 := F17.binds (ps := ["script"]) fun _ _ _ _ _ _ us hl => match us, hl with | [_], _ => rfl
  have h__law_source : ∀ base : Heap, Has P w K mg base 1 "_law_source" ["script"] m__law_source := fun base => ⟨f17, _, PySem.W.mg_of X G a17, F17.kp, bb17, ok__law_source F17 B⟩
  have F18 := fun_mk (st := st__law_pick) l18 c18 k18
  have bb18 := F18.binds (ps := ["source", "many"]) fun _ _ _ _ _ _ us hl => match us, hl with | [_, _], _ => rfl
  have h__law_pick : ∀ base : Heap, Has P w K mg base 1 "_law_pick" ["source", "many"] m__law_pick := fun base => ⟨f18, _, PySem.W.mg_of X G a18, F18.kp, bb18, ok__law_pick F18 B⟩
  have F19 := fun_mk (st := st__law_arc) l19 c19 k19
  have bb19 := F19.binds (ps := ["source", "n"]) fun _ _ _ _ _ _ us hl => match us, hl with | [_, _], _ => rfl
  have h__law_arc : ∀ base : Heap, Has P w K mg base 2 "_law_arc" ["source", "n"] m__law_arc := fun base => ⟨f19, _, PySem.W.mg_of X G a19, F19.kp, bb19, ok__law_arc F19 B (h__law_pick base)⟩
  have F20 := fun_mk (st := st__law_right) l20 c20 k20
  have bb20 := F20.binds (ps := ["arc"]) fun _ _ _ _ _ _ us hl => match us, hl with | [_], _ => rfl
  have h__law_right : ∀ base : Heap, Has P w K mg base 1 "_law_right" ["arc"] m__law_right := fun base => ⟨f20, _, PySem.W.mg_of X G a20, F20.kp, bb20, ok__law_right F20 B⟩
  have F21 := fun_mk (st := st__law_pairs) l21 c21 k21
  have bb21 := F21.binds (ps := ["row"]) fun _ _ _ _ _ _ us hl => match us, hl with | [_], _ => rfl
  have h__law_pairs : ∀ base : Heap, Has P w K mg base 1 "_law_pairs" ["row"] m__law_pairs := fun base => ⟨f21, _, PySem.W.mg_of X G a21, F21.kp, bb21, ok__law_pairs F21 B⟩
  have F22 := fun_mk (st := st__law_under) l22 c22 k22
  have bb22 := F22.binds (ps := ["one", "other"]) fun _ _ _ _ _ _ us hl => match us, hl with | [_, _], _ => rfl
  have h__law_under : ∀ base : Heap, Has P w K mg base 2 "_law_under" ["one", "other"] m__law_under := fun base => ⟨f22, _, PySem.W.mg_of X G a22, F22.kp, bb22, ok__law_under F22 B (h__law_pairs base)⟩
  have F23 := fun_mk (st := st__law_stretch) l23 c23 k23
  have bb23 := F23.binds (ps := ["one", "other"]) fun _ _ _ _ _ _ us hl => match us, hl with | [_, _], _ => rfl
  have h__law_stretch : ∀ base : Heap, Has P w K mg base 2 "_law_stretch" ["one", "other"] m__law_stretch := fun base => ⟨f23, _, PySem.W.mg_of X G a23, F23.kp, bb23, ok__law_stretch F23 B (h__law_right base)⟩
  have F24 := fun_mk (st := st__law_along) l24 c24 k24
  have bb24 := F24.binds (ps := ["one", "other"]) fun _ _ _ _ _ _ us hl => match us, hl with | [_, _], _ => rfl
  have h__law_along : ∀ base : Heap, Has P w K mg base 1 "_law_along" ["one", "other"] m__law_along := fun base => ⟨f24, _, PySem.W.mg_of X G a24, F24.kp, bb24, ok__law_along F24 B⟩
  have F25 := fun_mk (st := st__law_near) l25 c25 k25
  have bb25 := F25.binds (ps := ["source", "arc"]) fun _ _ _ _ _ _ us hl => match us, hl with | [_, _], _ => rfl
  have h__law_near : ∀ base : Heap, Has P w K mg base 2 "_law_near" ["source", "arc"] m__law_near := fun base => ⟨f25, _, PySem.W.mg_of X G a25, F25.kp, bb25, ok__law_near F25 B (h__law_pick base)⟩
  have F26 := fun_mk (st := st_law) l26 c26 k26
  exact ⟨_, fun s v => .of_eq rfl, fun base _ _ => ok_law F26 B (h__law_source base) (h__law_pick base) (h_all_arcs base) (h_low_row base) (h_one_drop_rows base) (h_has_one_drop base) (h_arc_of_row base) (h__law_arc base) (h__law_near base) (h__law_stretch base) (h__law_under base) (h_is_under base) (h_is_stretch base) (h__law_along base) (h_runs_along base) (h_sides_exchanged base) (h_mirrored base) (h_high_row base) (h__law_right base)⟩
end Pv
open PySem PySem.W PyProof.Rows
set_option maxHeartbeats 0 in
theorem PySem.Challenge.cw_leastlattices_k36_whole_stretches_of_arc_holds : PySem.Challenge.rw_leastlattices_k36_whole_stretches_of_arc.Holds := by
  w_on; o_law; k_head; (case hw => w_witness2)
  k_fill
  refine Pv.walk_law (l := PySem.Challenge.rw_leastlattices_k36_whole_stretches_of_arc) (k := 4) (x := "script") (sem := Pv.m_law) rfl rfl ⟨rfl, by decide, by decide⟩ (fun w h Y => PySem.W.kIn_of Y) ?F Pv.law_holds
  case F =>
    intro w mg fa h KX G hmg
    refine' Pv.all_mk KX G hmg ?a0 ?l0 ?c0 ?k0 ?a1 ?l1 ?c1 ?k1 ?a2 ?l2 ?c2 ?k2 ?a3 ?l3 ?c3 ?k3 ?a4 ?l4 ?c4 ?k4 ?a5 ?l5 ?c5 ?k5 ?a6 ?l6 ?c6 ?k6 ?a7 ?l7 ?c7 ?k7 ?a8 ?l8 ?c8 ?k8 ?a9 ?l9 ?c9 ?k9 ?a10 ?l10 ?c10 ?k10 ?a11 ?l11 ?c11 ?k11 ?a12 ?l12 ?c12 ?k12 ?a13 ?l13 ?c13 ?k13 ?a14 ?l14 ?c14 ?k14 ?a15 ?l15 ?c15 ?k15 ?a16 ?l16 ?c16 ?k16 ?a17 ?l17 ?c17 ?k17 ?a18 ?l18 ?c18 ?k18 ?a19 ?l19 ?c19 ?k19 ?a20 ?l20 ?c20 ?k20 ?a21 ?l21 ?c21 ?k21 ?a22 ?l22 ?c22 ?k22 ?a23 ?l23 ?c23 ?k23 ?a24 ?l24 ?c24 ?k24 ?a25 ?l25 ?c25 ?k25 ?a26 ?l26 ?c26 ?k26 ?z_abs ?z_all ?z_dict ?z_enumerate ?z_int ?z_len ?z_max ?z_range ?z_repr ?z_sorted ?z_tuple ?y_MOST_ARCS ?y_MOST_ROWS
    (case a0 => k_is); (case l0 => k_is); (case c0 => k_is); (case k0 => k_is); (case a1 => k_is); (case l1 => k_is); (case c1 => k_is); (case k1 => k_is); (case a2 => k_is); (case l2 => k_is); (case c2 => k_is); (case k2 => k_is); (case a3 => k_is); (case l3 => k_is); (case c3 => k_is); (case k3 => k_is); (case a4 => k_is); (case l4 => k_is); (case c4 => k_is); (case k4 => k_is); (case a5 => k_is); (case l5 => k_is); (case c5 => k_is); (case k5 => k_is); (case a6 => k_is); (case l6 => k_is); (case c6 => k_is); (case k6 => k_is); (case a7 => k_is); (case l7 => k_is); (case c7 => k_is); (case k7 => k_is); (case a8 => k_is); (case l8 => k_is); (case c8 => k_is); (case k8 => k_is); (case a9 => k_is); (case l9 => k_is); (case c9 => k_is); (case k9 => k_is); (case a10 => k_is); (case l10 => k_is); (case c10 => k_is); (case k10 => k_is); (case a11 => k_is); (case l11 => k_is); (case c11 => k_is); (case k11 => k_is); (case a12 => k_is); (case l12 => k_is); (case c12 => k_is); (case k12 => k_is); (case a13 => k_is); (case l13 => k_is); (case c13 => k_is); (case k13 => k_is); (case a14 => k_is); (case l14 => k_is); (case c14 => k_is); (case k14 => k_is); (case a15 => k_is); (case l15 => k_is); (case c15 => k_is); (case k15 => k_is); (case a16 => k_is); (case l16 => k_is); (case c16 => k_is); (case k16 => k_is); (case a17 => k_is); (case l17 => k_is); (case c17 => k_is); (case k17 => k_is); (case a18 => k_is); (case l18 => k_is); (case c18 => k_is); (case k18 => k_is); (case a19 => k_is); (case l19 => k_is); (case c19 => k_is); (case k19 => k_is); (case a20 => k_is); (case l20 => k_is); (case c20 => k_is); (case k20 => k_is); (case a21 => k_is); (case l21 => k_is); (case c21 => k_is); (case k21 => k_is); (case a22 => k_is); (case l22 => k_is); (case c22 => k_is); (case k22 => k_is); (case a23 => k_is); (case l23 => k_is); (case c23 => k_is); (case k23 => k_is); (case a24 => k_is); (case l24 => k_is); (case c24 => k_is); (case k24 => k_is); (case a25 => k_is); (case l25 => k_is); (case c25 => k_is); (case k25 => k_is); (case a26 => k_is); (case l26 => k_is); (case c26 => k_is); (case k26 => k_is); (case z_abs => k_is); (case z_all => k_is); (case z_dict => k_is); (case z_enumerate => k_is); (case z_int => k_is); (case z_len => k_is); (case z_max => k_is); (case z_range => k_is); (case z_repr => k_is); (case z_sorted => k_is); (case z_tuple => k_is); (case y_MOST_ARCS => k_is); (case y_MOST_ROWS => k_is)
